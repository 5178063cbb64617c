/- Texts of this claim, in one: what the law leans on (part 4). -/
import Derived.Test.YtdhdmbmknpjhbaaGreatN3
set_option linter.unusedVariables false
set_option linter.unusedSimpArgs false
set_option maxRecDepth 100000
namespace Go.Proofs.YtdhdmbmknpjhbaaGreat
open Go Go.Sx Go.Proofs
theorem lendF {bL cp e : Nat} {A : Option Addr} {b : List UInt8} {Q : List Pers} {j : Nat} (hj : nthO Q j = some (Pers.row Kd.u8 A b)) (h : b.length ≤ cp) (h' : cp ≤ 9223372036854775807) : ∀ (w : World) (S : Blocks), (∀ o ∈ [Own.cells bL [.slice A b.length cp] e], o.holds w) → (∀ k ∈ keysOf [Own.cells bL [.slice A b.length cp] e], S k) → (∀ q ∈ Q, q.h w S) → ∀ q ∈ [Pers.row kBytes (some ⟨bL, 0, none⟩) [b]], q.h w S := fun w S ho hS hQ q hq => by
  rw [List.mem_singleton.1 hq]
  have hL := ho _ (List.mem_cons_self ..)
  have h1 : S bL := hS _ (by simp [keysOf, Own.keys])
  have hb := hQ _ (nthO_mem hj)
  refine .inr ⟨⟨bL, 0, none⟩, rfl, h1, (Array.getElem?_eq_some_iff.1 hL).1, fun i x hx => ?_⟩
  cases i with
  | succ i => simp at hx
  | zero =>
    simp only [List.getElem?_cons_zero, Option.some.injEq] at hx
    subst hx
    refine ⟨[.slice A b.length cp], ⟨(A, cp), ⟨h, h'⟩, rfl, fun q hq => ?_⟩, ?_⟩
    · rw [List.mem_singleton.1 hq]; exact hb
    · rw [Nat.zero_mul, add_zero]
      exact cellsAt_blk hL (fun j u hj => by simpa using hj)
theorem cSeal_ct (A : Option Addr) (b : List UInt8) (cp : Nat) (hb : b.length ≤ 10000000000000) (hcp : b.length ≤ cp) (hcp' : cp ≤ 9223372036854775807) : Ct Tryz.prog 83 [.slice A b.length cp] [] [Pers.row Kd.u8 A b]
    (fun u G Q => ∃ A' cp', (sealB b).length ≤ cp' ∧ cp' ≤ 9223372036854775807 ∧ u = .slice A' (sealB b).length cp' ∧ G = [rowOf A' cp' (sealB b)] ∧ Q = []) := by
 refine Ct.intro Tryz.func83 rfl rfl rfl (fun c hc => ?_)
 refine GC.sr_ ?_; refine GL.as_ rfl rfl ?_; refine GL.nl_ ?_; refine GC.sr_ ?_
 iterate 2 refine GL.mv_ rfl rfl ?_
 refine GL.step rfl (t_buildSlice rfl Tryz.underlying188 sz_25 ze_25 rfl rfl rfl rfl rfl rfl) (GL.ex fun b_t5 => ?_); refine GL.step rfl (t_lend rfl fn_125 rfl (is := []) (ls := [0]) (js := []) rfl rfl rfl (lendF (A := A) (b := b) (cp := cp) (j := 0) (by exact rfl) hcp hcp') (by exact csum_ct _ b _ (by omega)) (by rintro _ _ _ ⟨rfl, rfl, rfl⟩; rfl)) (GL.retL ?_)
 rintro _ _ ⟨rfl, rfl, _⟩
 refine GL.step rfl (t_call rfl fn_124 rfl (is := []) (js := [0]) rfl rfl (by exact cseal_ct _ b _ (crcB b) hb)) (GL.ret ?_)
 rintro _ _ _ ⟨A7, cp7, l7, k7, rfl, rfl, rfl⟩
 refine GL.as_ rfl rfl ?_; refine GL.nl_ ?_; refine GC.ret ?_
 refine fun a w h => Fin.back (rs := [.tmp 2]) (vs := [_]) (is := [0]) (js := []) rfl ⟨rfl, trivial⟩ rfl rfl ?_ h
 clear h
 exact ⟨_, _, l7, k7, rfl, rfl, rfl⟩
theorem copen_ok (A : Option Addr) (b : List UInt8) (cp : Nat) (hb : b.length ≤ 10000000000000) (hcp : b.length ≤ cp) (hcp' : cp ≤ 9223372036854775807) (h4 : 4 ≤ b.length) (ho : sealB (seg b 0 (b.length - 4)) = b) : Ct Tryz.prog 92 [.slice A b.length cp] [] [Pers.row Kd.u8 A b]
    (fun u G Q => ∃ A' cp', (seg b 0 (b.length - 4)).length ≤ cp' ∧ cp' ≤ 9223372036854775807 ∧ u = .tuple #[.slice A' (seg b 0 (b.length - 4)).length cp', .int .i64 0] ∧ G = [rowOf A' cp' (seg b 0 (b.length - 4))] ∧ Q = []) := by
 have hsl : (seg b 0 (b.length - 4)).length = b.length - 4 := by rw [seg_length (by omega)]; omega
 have e4 : ((b.length : Int) - 4).toNat = b.length - 4 := by omega
 refine Ct.intro Tryz.func92 rfl rfl rfl (fun c hc => ?_)
 refine GC.sr_ ?_
 iterate 2 refine GL.as_ rfl rfl ?_
 refine GL.nl_ ?_; refine GC.seq' ?_; refine GC.sr_ ?_; refine GL.mv_ rfl rfl ?_; refine GL.pure rfl (p_len Tryz.underlying25 rfl) ?_; refine GL.pure rfl (p_lss rfl rfl) ?_; refine GL.nl_ ?_; refine GC.cond rfl (fun h1 => ?_) (fun h1 => ?_)
 ·try simp only [tst_] at h1
  first
  | (exfalso; omega)
  |(skip
    refine GC.sr_ ?_
    iterate 2 refine GL.as_ rfl rfl ?_
    refine GL.nl_ ?_; refine GC.ret ?_
    refine fun a w h => Fin.back (rs := [.tmp 2, .tmp 3]) (vs := [_, _]) (is := []) (js := []) rfl ⟨rfl, rfl, trivial⟩ rfl rfl ?_ h
    clear h
    skip)
 ·try simp only [tst_] at h1
  first
  | (exfalso; omega)
  |(skip
    refine GC.skip (?_ : GC _ _ _ _)
    refine GC.sr_ ?_
    iterate 2 refine GL.mv_ rfl rfl ?_
    refine GL.pure rfl (p_len Tryz.underlying25 rfl) ?_; refine GL.pure rfl (p_sub rfl rfl (w64 (by omega) (by omega))) ?_; refine GL.step rfl (t_cut_h (j := 0) rfl rfl rfl rfl Tryz.underlying25 sz_5 (by omega) (by omega) (by omega)) ?_
    rw [e4]
    refine GL.as_ rfl rfl ?_; refine GL.nl_ ?_; refine GC.seq' ?_; refine GC.sr_ ?_; refine GL.mv_ rfl rfl ?_; refine GL.step rfl (t_call rfl fn_83 rfl (is := []) (js := [0]) rfl rfl (by exact cSeal_ct _ (seg b 0 (b.length - 4)) _ (by omega) (by omega) (by omega))) (GL.ret ?_)
    rintro _ _ _ ⟨A14, cp14, l14, k14, rfl, rfl, rfl⟩
    refine GL.freezeB (i := 0) rfl ?_; refine GL.mv_ rfl rfl ?_; refine GL.step rfl (t_call rfl fn_128 rfl (is := []) (js := [0, 2]) rfl rfl (by exact bequal_ct _ (sealB (seg b 0 (b.length - 4))) _ _ b _ (by rw [sealB_len]; omega))) (GL.ret ?_)
    rintro _ _ _ ⟨rfl, rfl, rfl⟩
    refine GL.pure rfl (p_not rfl) ?_; refine GL.nl_ ?_; refine GC.cond rfl (fun h2 => ?_) (fun h2 => ?_)
    ·try simp only [tst_] at h2
     first
     | (exfalso; omega)
     |(skip
       refine GC.sr_ ?_
       iterate 2 refine GL.as_ rfl rfl ?_
       refine GL.nl_ ?_; refine GC.ret ?_
       refine fun a w h => Fin.back (rs := [.tmp 2, .tmp 3]) (vs := [_, _]) (is := []) (js := []) rfl ⟨rfl, rfl, trivial⟩ rfl rfl ?_ h
       clear h
       exact absurd ho (by assumption))
    ·try simp only [tst_] at h2
     first
     | (exfalso; omega)
     |(skip
       refine GC.skip (?_ : GC _ _ _ _)
       refine GC.sr_ ?_; refine GL.mv_ rfl rfl ?_; refine GL.step rfl (t_call rfl fn_118 rfl (is := []) (js := [1]) rfl rfl (by exact bclone_ct _ (seg b 0 (b.length - 4)) _ (by omega))) (GL.ret ?_)
       rintro _ _ _ ⟨A19, cp19, l19, k19, rfl, rfl, rfl⟩
       iterate 2 refine GL.as_ rfl rfl ?_
       refine GL.nl_ ?_; refine GC.ret ?_
       refine fun a w h => Fin.back (rs := [.tmp 2, .tmp 3]) (vs := [_, _]) (is := [0]) (js := []) rfl ⟨rfl, rfl, trivial⟩ rfl rfl ?_ h
       clear h
       exact ⟨_, _, l19, k19, rfl, rfl, rfl⟩))
theorem copen_bad (A : Option Addr) (b : List UInt8) (cp : Nat) (hb : b.length ≤ 10000000000000) (hcp : b.length ≤ cp) (hcp' : cp ≤ 9223372036854775807) (h4 : 4 ≤ b.length) (ho : ¬ sealB (seg b 0 (b.length - 4)) = b) : Ct Tryz.prog 92 [.slice A b.length cp] [] [Pers.row Kd.u8 A b]
    (fun u G Q => u = .tuple #[.slice none 0 0, .int .i64 31] ∧ G = [] ∧ Q = []) := by
 have hsl : (seg b 0 (b.length - 4)).length = b.length - 4 := by rw [seg_length (by omega)]; omega
 have e4 : ((b.length : Int) - 4).toNat = b.length - 4 := by omega
 refine Ct.intro Tryz.func92 rfl rfl rfl (fun c hc => ?_)
 refine GC.sr_ ?_
 iterate 2 refine GL.as_ rfl rfl ?_
 refine GL.nl_ ?_; refine GC.seq' ?_; refine GC.sr_ ?_; refine GL.mv_ rfl rfl ?_; refine GL.pure rfl (p_len Tryz.underlying25 rfl) ?_; refine GL.pure rfl (p_lss rfl rfl) ?_; refine GL.nl_ ?_; refine GC.cond rfl (fun h1 => ?_) (fun h1 => ?_)
 ·try simp only [tst_] at h1
  first
  | (exfalso; omega)
  |(skip
    refine GC.sr_ ?_
    iterate 2 refine GL.as_ rfl rfl ?_
    refine GL.nl_ ?_; refine GC.ret ?_
    refine fun a w h => Fin.back (rs := [.tmp 2, .tmp 3]) (vs := [_, _]) (is := []) (js := []) rfl ⟨rfl, rfl, trivial⟩ rfl rfl ?_ h
    clear h
    skip)
 ·try simp only [tst_] at h1
  first
  | (exfalso; omega)
  |(skip
    refine GC.skip (?_ : GC _ _ _ _)
    refine GC.sr_ ?_
    iterate 2 refine GL.mv_ rfl rfl ?_
    refine GL.pure rfl (p_len Tryz.underlying25 rfl) ?_; refine GL.pure rfl (p_sub rfl rfl (w64 (by omega) (by omega))) ?_; refine GL.step rfl (t_cut_h (j := 0) rfl rfl rfl rfl Tryz.underlying25 sz_5 (by omega) (by omega) (by omega)) ?_
    rw [e4]
    refine GL.as_ rfl rfl ?_; refine GL.nl_ ?_; refine GC.seq' ?_; refine GC.sr_ ?_; refine GL.mv_ rfl rfl ?_; refine GL.step rfl (t_call rfl fn_83 rfl (is := []) (js := [0]) rfl rfl (by exact cSeal_ct _ (seg b 0 (b.length - 4)) _ (by omega) (by omega) (by omega))) (GL.ret ?_)
    rintro _ _ _ ⟨A14, cp14, l14, k14, rfl, rfl, rfl⟩
    refine GL.freezeB (i := 0) rfl ?_; refine GL.mv_ rfl rfl ?_; refine GL.step rfl (t_call rfl fn_128 rfl (is := []) (js := [0, 2]) rfl rfl (by exact bequal_ct _ (sealB (seg b 0 (b.length - 4))) _ _ b _ (by rw [sealB_len]; omega))) (GL.ret ?_)
    rintro _ _ _ ⟨rfl, rfl, rfl⟩
    refine GL.pure rfl (p_not rfl) ?_; refine GL.nl_ ?_; refine GC.cond rfl (fun h2 => ?_) (fun h2 => ?_)
    ·try simp only [tst_] at h2
     first
     | (exfalso; omega)
     |(skip
       refine GC.sr_ ?_
       iterate 2 refine GL.as_ rfl rfl ?_
       refine GL.nl_ ?_; refine GC.ret ?_
       refine fun a w h => Fin.back (rs := [.tmp 2, .tmp 3]) (vs := [_, _]) (is := []) (js := []) rfl ⟨rfl, rfl, trivial⟩ rfl rfl ?_ h
       clear h
       exact ⟨rfl, rfl, rfl⟩)
    ·try simp only [tst_] at h2
     first
     | (exfalso; omega)
     |(skip
       refine GC.skip (?_ : GC _ _ _ _)
       refine GC.sr_ ?_; refine GL.mv_ rfl rfl ?_; refine GL.step rfl (t_call rfl fn_118 rfl (is := []) (js := [1]) rfl rfl (by exact bclone_ct _ (seg b 0 (b.length - 4)) _ (by omega))) (GL.ret ?_)
       rintro _ _ _ ⟨A19, cp19, l19, k19, rfl, rfl, rfl⟩
       iterate 2 refine GL.as_ rfl rfl ?_
       refine GL.nl_ ?_; refine GC.ret ?_
       refine fun a w h => Fin.back (rs := [.tmp 2, .tmp 3]) (vs := [_, _]) (is := []) (js := []) rfl ⟨rfl, rfl, trivial⟩ rfl rfl ?_ h
       clear h
       exact absurd (by assumption) ho))
def headB (body : List UInt8) : List UInt8 := [80, 76, 4, 0] ++ leN 8 0 ++ leN 4 body.length ++ body
def frameB (body : List UInt8) : List UInt8 := sealB (headB body)
theorem headB_len (body : List UInt8) : (headB body).length = body.length + 16 := by simp [headB, leN_length]; omega
theorem frameB_len (body : List UInt8) : (frameB body).length = body.length + 20 := by rw [frameB, sealB_len, headB_len]
theorem fwrite_ct (A : Option Addr) (b : List UInt8) (cp : Nat) (hb : b.length ≤ 16777216) : Ct Tryz.prog 46 [.agg #[.int .u8 4, .int .u64 0, .slice A b.length cp]] [] [Pers.row Kd.u8 A b]
    (fun u G Q => ∃ A' cp', (frameB b).length ≤ cp' ∧ cp' ≤ 9223372036854775807 ∧ u = .tuple #[.slice A' (frameB b).length cp', .int .i64 0] ∧ G = [rowOf A' cp' (frameB b)] ∧ Q = []) := by
 refine Ct.intro Tryz.func46 rfl rfl rfl (fun c hc => ?_)
 refine GC.sr_ ?_; refine GL.step rfl (t_box rfl rfl rfl) (GL.ex fun b_t1 => ?_)
 iterate 2 refine GL.as_ rfl rfl ?_
 refine GL.nl_ ?_; refine GC.sr_ ?_; refine GL.pure rfl (p_fieldAddr fo_55_0 rfl) ?_; refine GL.step rfl (t_mem rfl (m_load (i := 0) rfl rfl ag_5 rfl)) ?_; refine GL.step rfl (t_buildSlice rfl Tryz.underlying25 sz_5 ze_5 rfl rfl rfl rfl rfl rfl) (GL.ex fun b_t10 => ?_)
 refine GL.freezeC (enc := u8v) (xs := [(80 : UInt8), 76, 4, 0]) (h1 := fun _ => rfl) (i := 0) rfl ?_; refine GL.pure rfl (p_fieldAddr fo_55_1 rfl) ?_; refine GL.step rfl (t_mem rfl (m_load (i := 0) rfl rfl ag_23 rfl)) ?_
 refine GL.step rfl (t_call rfl fn_80 rfl (is := []) (js := [0]) rfl rfl (by exact oput_ct _ [(80 : UInt8), 76, 4, 0] _ 0 8 (by omega) (by omega) (by simp) (by decide))) (GL.ret ?_)
 rintro _ _ _ ⟨A13, cp13, l13, k13, rfl, rfl, rfl⟩
 refine GL.mv_ rfl rfl ?_
 iterate 2 refine GL.pure rfl (p_extract rfl rfl) ?_
 iterate 2 refine GL.as_ rfl rfl ?_
 refine GL.nl_ ?_; refine GC.sr_ ?_; refine GL.mv_ rfl rfl ?_; refine GL.pure rfl (p_fieldAddr fo_55_2 rfl) ?_; refine GL.step rfl (t_mem rfl (m_load (i := 1) rfl rfl ag_25 rfl)) ?_; refine GL.freezeB (i := 0) rfl ?_; refine GL.step rfl (t_call rfl fn_82 rfl (is := []) (js := [0, 2]) rfl rfl (by exact otext_ct _ ([(80 : UInt8), 76, 4, 0] ++ leN 8 0) _ _ b _ (by simp [leN_length]) hb)) (GL.ret ?_)
 rintro _ _ _ ⟨A20, cp20, l20, k20, rfl, rfl, rfl⟩
 refine GL.mv_ rfl rfl ?_
 iterate 2 refine GL.pure rfl (p_extract rfl rfl) ?_
 iterate 2 refine GL.as_ rfl rfl ?_
 refine GL.nl_ ?_; refine GC.seq' ?_; refine GC.sr_ ?_; refine GL.mv_ rfl rfl ?_; refine GL.pure rfl (p_neq rfl rfl) ?_; refine GL.nl_ ?_; refine GC.cond_false rfl ?_
 refine GC.skip (?_ : GC _ _ _ _)
 refine GC.sr_ ?_; refine GL.freezeB (i := 0) rfl ?_; refine GL.mv_ rfl rfl ?_; refine GL.step rfl (t_call rfl fn_83 rfl (is := []) (js := [0]) rfl rfl (by exact cSeal_ct _ (headB b) _ (by rw [headB_len]; omega) l20 k20)) (GL.ret ?_)
 rintro _ _ _ ⟨A27, cp27, l27, k27, rfl, rfl, rfl⟩
 iterate 2 refine GL.as_ rfl rfl ?_
 refine GL.nl_ ?_; refine GC.ret ?_
 refine fun a w h => Fin.back (rs := [.tmp 2, .tmp 3]) (vs := [_, _]) (is := [0]) (js := []) rfl ⟨rfl, rfl, trivial⟩ rfl rfl ?_ h
 clear h
 exact ⟨_, _, l27, k27, rfl, rfl, rfl⟩
end Go.Proofs.YtdhdmbmknpjhbaaGreat
namespace Go.Proofs.YtdhdmbmknpjhbaaGreat
open Go Go.Sx Go.Proofs
theorem seg_seg {α : Type} {b : List α} {m l h : Nat} (hh : h ≤ m) : seg (seg b 0 m) l h = seg b l h := by
  simp only [seg, List.drop_zero, List.take_take, Nat.min_eq_left hh]
theorem gt_seg {b : List UInt8} {m : Nat} {i : Nat} (hi : i < m) : gt (seg b 0 m) (i : Int) = gt b (i : Int) := by
  simp only [gt, seg, List.drop_zero, Int.toNat_natCast, List.getD_eq_getElem?_getD, List.getElem?_take, if_pos hi]
abbrev rdN (b : List UInt8) : Nat := valN (seg b 12 (12 + 4))
def rdE (b : List UInt8) : Int :=
  if b.length < 16 then 10
  else if ¬ ((gt b 0).toNat = 80 ∧ (gt b 1).toNat = 76 ∧ (gt b 3).toNat = 0 ∧ rdN b ≤ 16777216) then 30
  else if b.length < rdN b + 20 then 10
  else if ¬ sealB (seg b 0 (rdN b + 16)) = seg b 0 (rdN b + 20) then 31 else 0
theorem rd1 {b : List UInt8} (h : b.length < 16) : rdE b = 10 := if_pos h
theorem rd2 {b : List UInt8} (h : ¬ b.length < 16) (h2 : ¬ ((gt b 0).toNat = 80 ∧ (gt b 1).toNat = 76 ∧ (gt b 3).toNat = 0 ∧ rdN b ≤ 16777216)) : rdE b = 30 := by rw [rdE, if_neg h, if_pos h2]
theorem rd3 {b : List UInt8} (h : ¬ b.length < 16) (h2 : (gt b 0).toNat = 80 ∧ (gt b 1).toNat = 76 ∧ (gt b 3).toNat = 0 ∧ rdN b ≤ 16777216) (h3 : b.length < rdN b + 20) : rdE b = 10 := by rw [rdE, if_neg h, if_neg (not_not_intro h2), if_pos h3]
theorem rd4 {b : List UInt8} (h : ¬ b.length < 16) (h2 : (gt b 0).toNat = 80 ∧ (gt b 1).toNat = 76 ∧ (gt b 3).toNat = 0 ∧ rdN b ≤ 16777216) (h3 : ¬ b.length < rdN b + 20) (h4 : ¬ sealB (seg b 0 (rdN b + 16)) = seg b 0 (rdN b + 20)) : rdE b = 31 := by rw [rdE, if_neg h, if_neg (not_not_intro h2), if_neg h3, if_pos h4]
theorem rd5 {b : List UInt8} (h : ¬ b.length < 16) (h2 : (gt b 0).toNat = 80 ∧ (gt b 1).toNat = 76 ∧ (gt b 3).toNat = 0 ∧ rdN b ≤ 16777216) (h3 : ¬ b.length < rdN b + 20) (h4 : sealB (seg b 0 (rdN b + 16)) = seg b 0 (rdN b + 20)) : rdE b = 0 := by rw [rdE, if_neg h, if_neg (not_not_intro h2), if_neg h3, if_neg (not_not_intro h4)]
theorem copen_ok' (A : Option Addr) (b : List UInt8) (cp : Nat) (y : List UInt8) (hy : seg b 0 (b.length - 4) = y) (hb : b.length ≤ 10000000000000) (hcp : b.length ≤ cp) (hcp' : cp ≤ 9223372036854775807) (h4 : 4 ≤ b.length) (ho : sealB y = b) : Ct Tryz.prog 92 [.slice A b.length cp] [] [Pers.row Kd.u8 A b]
    (fun u G Q => ∃ A' cp', y.length ≤ cp' ∧ cp' ≤ 9223372036854775807 ∧ u = .tuple #[.slice A' y.length cp', .int .i64 0] ∧ G = [rowOf A' cp' y] ∧ Q = []) := by
  subst hy; exact copen_ok A b cp hb hcp hcp' h4 ho
def rdR (b : List UInt8) (k s : Int) (bd : List UInt8) (n : Int) : Prop := rdE b = 0 → k = ((gt b 2).toNat : Int) ∧ s = ((valN (seg b 4 12) : Nat) : Int) ∧ bd = seg b 16 (rdN b + 16) ∧ n = ((rdN b + 20 : Nat) : Int) ∧ rdN b + 20 ≤ b.length
theorem fread_ct (A : Option Addr) (b : List UInt8) (cp : Nat) (hb : b.length ≤ 200000000000000) (hcp : b.length ≤ cp) (hcp' : cp ≤ 9223372036854775807) : Ct Tryz.prog 48 [.slice A b.length cp, .int .i64 0] [] [Pers.row Kd.u8 A b]
    (fun u G Q => ∃ k s A' bd c' n, bd.length ≤ c' ∧ c' ≤ 9223372036854775807 ∧ rdR b k s bd n ∧ u = .tuple #[.agg #[.int .u8 k, .int .u64 s, .slice A' bd.length c'], .int .i64 n, .int .i64 (rdE b)] ∧ G = [] ∧ Q = [Pers.row Kd.u8 A' bd]) := by
 have hrd : valN (seg b 12 (12 + 4)) = rdN b := rfl
 refine Ct.intro Tryz.func48 rfl rfl rfl (fun c hc => ?_)
 refine GC.sr_ ?_; refine GL.step rfl (t_alloc rfl ze_55) (GL.ex fun b_t4 => ?_)
 iterate 2 refine GL.as_ rfl rfl ?_
 refine GL.nl_ ?_; refine GC.seq' ?_; refine GC.sr_ ?_; refine GL.mv_ rfl rfl ?_; refine GL.pure rfl (p_lss rfl rfl) ?_; refine GL.mv_ rfl rfl ?_; refine GL.split (i := 19) rfl (fun h1 => ?_) (fun h1 => ?_)
 ·try simp only [tst_] at h1
  first
  | (exfalso; omega)
  |(skip
    iterate 4 refine GL.pass (s := 19) rfl rfl rfl ?_
    refine GL.pure rfl (p_pick_true rfl rfl) ?_; refine GL.nl_ ?_; refine GC.cond_true rfl ?_; refine GC.sr_ ?_; refine GL.pure rfl (p_build ze_55 of_55 rfl rfl) ?_; refine GL.step rfl (t_storeN (i := 0) rfl rfl rfl sz_55 rfl rfl rfl) ?_
    iterate 2 refine GL.as_ rfl rfl ?_
    refine GL.nl_ ?_
    skip
    refine GC.ret ?_
    refine fun a w h => Fin.back (rs := [.cell 4 55, .tmp 5, .tmp 6]) (vs := [_, _, _]) (is := []) (js := [0]) rfl ⟨⟨0, _, _, _, _, rfl, rfl, .inr ⟨[_, _, _], rfl, ag_55, sz_55, ⟨rfl, rfl, rfl, trivial⟩⟩⟩, rfl, rfl, trivial⟩ rfl rfl ?_ h
    clear h
    skip)
 ·try simp only [tst_] at h1
  first
  | (exfalso; omega)
  |(skip
    iterate 2 refine GL.pureG (s := 19) rfl rfl rfl (p_move rfl) ?_
    refine GL.pureG (s := 19) rfl rfl rfl (p_len Tryz.underlying25 rfl) ?_; refine GL.pureG (s := 19) rfl rfl rfl (p_gtr rfl rfl) ?_; refine GL.pure rfl (p_pick_false rfl rfl) ?_; refine GL.nl_ ?_; refine GC.cond rfl (fun h2 => ?_) (fun h2 => ?_)
    ·try simp only [tst_] at h2
     first
     | (exfalso; omega)
     |(skip
       refine GC.sr_ ?_; refine GL.pure rfl (p_build ze_55 of_55 rfl rfl) ?_; refine GL.step rfl (t_storeN (i := 0) rfl rfl rfl sz_55 rfl rfl rfl) ?_
       iterate 2 refine GL.as_ rfl rfl ?_
       refine GL.nl_ ?_
       skip
       refine GC.ret ?_
       refine fun a w h => Fin.back (rs := [.cell 4 55, .tmp 5, .tmp 6]) (vs := [_, _, _]) (is := []) (js := [0]) rfl ⟨⟨0, _, _, _, _, rfl, rfl, .inr ⟨[_, _, _], rfl, ag_55, sz_55, ⟨rfl, rfl, rfl, trivial⟩⟩⟩, rfl, rfl, trivial⟩ rfl rfl ?_ h
       clear h
       skip)
    ·try simp only [tst_] at h2
     first
     | (exfalso; omega)
     |(skip
       refine GC.skip (?_ : GC _ _ _ _)
       refine GC.sr_ ?_
       iterate 2 refine GL.mv_ rfl rfl ?_
       refine GL.step rfl (t_cut_l (j := 0) rfl rfl rfl rfl Tryz.underlying25 sz_5 (by omega) (by omega) (by omega)) ?_
       rw [show (0 : Int).toNat = 0 from rfl, seg_all]
       refine GL.as_ rfl rfl ?_; refine GL.nl_ ?_; refine GC.seq' ?_; refine GC.sr_ ?_; refine GL.mv_ rfl rfl ?_; refine GL.pure rfl (p_len Tryz.underlying25 rfl) ?_; refine GL.pure rfl (p_lss rfl rfl) ?_; refine GL.nl_ ?_
       refine GC.cond rfl (fun h3 => ?_) (fun h3 => ?_)
       ·try simp only [tst_] at h3
        first
        | (exfalso; omega)
        |(skip
          refine GC.sr_ ?_; refine GL.pure rfl (p_build ze_55 of_55 rfl rfl) ?_; refine GL.step rfl (t_storeN (i := 0) rfl rfl rfl sz_55 rfl rfl rfl) ?_
          iterate 2 refine GL.as_ rfl rfl ?_
          refine GL.nl_ ?_; refine GC.know (q := Pers.row Kd.u8 none []) (fun _ _ _ => .inl rfl) ?_; refine GC.ret ?_
          refine fun a w h => Fin.back (rs := [.cell 4 55, .tmp 5, .tmp 6]) (vs := [_, _, _]) (is := []) (js := [0]) rfl ⟨⟨0, _, _, _, _, rfl, rfl, .inr ⟨[_, _, _], rfl, ag_55, sz_55, ⟨rfl, rfl, rfl, trivial⟩⟩⟩, rfl, rfl, trivial⟩ rfl rfl ?_ h
          clear h
          have e := rd1 (b := b) (by omega)
          exact ⟨0, 0, none, [], 0, 0, by simp, by simp, fun h => by omega, by rw [e]; rfl, rfl, rfl⟩)
       ·try simp only [tst_] at h3
        first
        | (exfalso; omega)
        |(skip
          refine GC.skip (?_ : GC _ _ _ _)
          refine GC.sr_ ?_; refine GL.mv_ rfl rfl ?_; refine GL.step rfl (t_call rfl fn_91 rfl (is := []) (js := [0]) rfl rfl (by exact get_ok _ b _ 12 4 (by omega) (by omega) (by omega) (by omega) (by omega))) (GL.ret ?_)
          rintro _ _ _ ⟨rfl, rfl, rfl⟩
          refine GL.mv_ rfl rfl ?_
          iterate 3 refine GL.pure rfl (p_extract rfl rfl) ?_
          iterate 3 refine GL.as_ rfl rfl ?_
          refine GL.nl_ ?_; refine GC.seq' ?_; refine GC.sr_ ?_; refine GL.mv_ rfl rfl ?_; refine GL.step rfl (t_index (i := 0) rfl rfl rfl rfl Tryz.underlying25 sz_5 (by omega) (gt_ok (by omega) (by omega))) (GL.ex fun p_x40 => GL.ex fun r_x40 => GL.and fun ok_x40 => ?_)
          rcases r_x40 with _
          refine GL.step rfl (t_mem rfl (m_loadP (i := 0) rfl rfl ag_5 rfl)) ?_; refine GL.pure rfl (p_neq rfl rfl) ?_; refine GL.mv_ rfl rfl ?_; refine GL.split (i := 43) rfl (fun h4 => ?_) (fun h4 => ?_)
          ·try simp only [tst_] at h4
           first
           | (exfalso; omega)
           |(skip
             iterate 4 refine GL.pass (s := 43) rfl rfl rfl ?_
             refine GL.pure rfl (p_pick_true rfl rfl) ?_; refine GL.mv_ rfl rfl ?_
             iterate 4 refine GL.pass (s := 49) rfl rfl rfl ?_
             refine GL.pure rfl (p_pick_true rfl rfl) ?_; refine GL.mv_ rfl rfl ?_
             iterate 2 refine GL.pass (s := 55) rfl rfl rfl ?_
             refine GL.pure rfl (p_pick_true rfl rfl) ?_; refine GL.nl_ ?_; refine GC.cond_true rfl ?_; refine GC.sr_ ?_; refine GL.pure rfl (p_build ze_55 of_55 rfl rfl) ?_; refine GL.step rfl (t_storeN (i := 0) rfl rfl rfl sz_55 rfl rfl rfl) ?_
             iterate 2 refine GL.as_ rfl rfl ?_
             refine GL.nl_ ?_; refine GC.know (q := Pers.row Kd.u8 none []) (fun _ _ _ => .inl rfl) ?_; refine GC.ret ?_
             refine fun a w h => Fin.back (rs := [.cell 4 55, .tmp 5, .tmp 6]) (vs := [_, _, _]) (is := []) (js := [0]) rfl ⟨⟨0, _, _, _, _, rfl, rfl, .inr ⟨[_, _, _], rfl, ag_55, sz_55, ⟨rfl, rfl, rfl, trivial⟩⟩⟩, rfl, rfl, trivial⟩ rfl rfl ?_ h
             clear h
             have e := rd2 (b := b) (by omega) (by omega)
             exact ⟨0, 0, none, [], 0, 0, by simp, by simp, fun h => by omega, by rw [e]; rfl, rfl, rfl⟩)
          ·try simp only [tst_] at h4
           first
           | (exfalso; omega)
           |(skip
             refine GL.pureG (s := 43) rfl rfl rfl (p_move rfl) ?_; refine GL.stepG rfl (s := 43) rfl rfl (t_index (i := 1) rfl rfl rfl rfl Tryz.underlying25 sz_5 (by omega) (gt_ok (by omega) (by omega))) (GL.ex fun p_x45 => GL.ex fun r_x45 => GL.and fun ok_x45 => ?_)
             rcases r_x45 with _
             refine GL.stepG rfl (s := 43) rfl rfl (t_mem rfl (m_loadP (i := 0) rfl rfl ag_5 rfl)) ?_; refine GL.pureG (s := 43) rfl rfl rfl (p_neq rfl rfl) ?_; refine GL.pure rfl (p_pick_false rfl rfl) ?_; refine GL.mv_ rfl rfl ?_
             refine GL.split (i := 49) rfl (fun h5 => ?_) (fun h5 => ?_)
             ·try simp only [tst_] at h5
              first
              | (exfalso; omega)
              |(skip
                iterate 4 refine GL.pass (s := 49) rfl rfl rfl ?_
                refine GL.pure rfl (p_pick_true rfl rfl) ?_; refine GL.mv_ rfl rfl ?_
                iterate 2 refine GL.pass (s := 55) rfl rfl rfl ?_
                refine GL.pure rfl (p_pick_true rfl rfl) ?_; refine GL.nl_ ?_; refine GC.cond_true rfl ?_; refine GC.sr_ ?_; refine GL.pure rfl (p_build ze_55 of_55 rfl rfl) ?_; refine GL.step rfl (t_storeN (i := 0) rfl rfl rfl sz_55 rfl rfl rfl) ?_
                iterate 2 refine GL.as_ rfl rfl ?_
                refine GL.nl_ ?_; refine GC.know (q := Pers.row Kd.u8 none []) (fun _ _ _ => .inl rfl) ?_; refine GC.ret ?_
                refine fun a w h => Fin.back (rs := [.cell 4 55, .tmp 5, .tmp 6]) (vs := [_, _, _]) (is := []) (js := [0]) rfl ⟨⟨0, _, _, _, _, rfl, rfl, .inr ⟨[_, _, _], rfl, ag_55, sz_55, ⟨rfl, rfl, rfl, trivial⟩⟩⟩, rfl, rfl, trivial⟩ rfl rfl ?_ h
                clear h
                have e := rd2 (b := b) (by omega) (by omega)
                exact ⟨0, 0, none, [], 0, 0, by simp, by simp, fun h => by omega, by rw [e]; rfl, rfl, rfl⟩)
             ·try simp only [tst_] at h5
              first
              | (exfalso; omega)
              |(skip
                refine GL.pureG (s := 49) rfl rfl rfl (p_move rfl) ?_; refine GL.stepG rfl (s := 49) rfl rfl (t_index (i := 2) rfl rfl rfl rfl Tryz.underlying25 sz_5 (by omega) (gt_ok (by omega) (by omega))) (GL.ex fun p_x51 => GL.ex fun r_x51 => GL.and fun ok_x51 => ?_)
                rcases r_x51 with _
                refine GL.stepG rfl (s := 49) rfl rfl (t_mem rfl (m_loadP (i := 0) rfl rfl ag_5 rfl)) ?_; refine GL.pureG (s := 49) rfl rfl rfl (p_neq rfl rfl) ?_; refine GL.pure rfl (p_pick_false rfl rfl) ?_; refine GL.mv_ rfl rfl ?_
                refine GL.split (i := 55) rfl (fun h6 => ?_) (fun h6 => ?_)
                ·try simp only [tst_] at h6
                 first
                 | (exfalso; omega)
                 |(skip
                   iterate 2 refine GL.pass (s := 55) rfl rfl rfl ?_
                   refine GL.pure rfl (p_pick_true rfl rfl) ?_; refine GL.nl_ ?_; refine GC.cond_true rfl ?_; refine GC.sr_ ?_; refine GL.pure rfl (p_build ze_55 of_55 rfl rfl) ?_; refine GL.step rfl (t_storeN (i := 0) rfl rfl rfl sz_55 rfl rfl rfl) ?_
                   iterate 2 refine GL.as_ rfl rfl ?_
                   refine GL.nl_ ?_; refine GC.know (q := Pers.row Kd.u8 none []) (fun _ _ _ => .inl rfl) ?_; refine GC.ret ?_
                   refine fun a w h => Fin.back (rs := [.cell 4 55, .tmp 5, .tmp 6]) (vs := [_, _, _]) (is := []) (js := [0]) rfl ⟨⟨0, _, _, _, _, rfl, rfl, .inr ⟨[_, _, _], rfl, ag_55, sz_55, ⟨rfl, rfl, rfl, trivial⟩⟩⟩, rfl, rfl, trivial⟩ rfl rfl ?_ h
                   clear h
                   have e := rd2 (b := b) (by omega) (by omega)
                   exact ⟨0, 0, none, [], 0, 0, by simp, by simp, fun h => by omega, by rw [e]; rfl, rfl, rfl⟩)
                ·try simp only [tst_] at h6
                 first
                 | (exfalso; omega)
                 |(skip
                   refine GL.pureG (s := 55) rfl rfl rfl (p_move rfl) ?_; refine GL.pureG (s := 55) rfl rfl rfl (p_gtr rfl rfl) ?_; refine GL.pure rfl (p_pick_false rfl rfl) ?_; refine GL.nl_ ?_; refine GC.cond rfl (fun h7 => ?_) (fun h7 => ?_)
                   ·try simp only [tst_] at h7
                    first
                    | (exfalso; omega)
                    |(skip
                      refine GC.sr_ ?_; refine GL.pure rfl (p_build ze_55 of_55 rfl rfl) ?_; refine GL.step rfl (t_storeN (i := 0) rfl rfl rfl sz_55 rfl rfl rfl) ?_
                      iterate 2 refine GL.as_ rfl rfl ?_
                      refine GL.nl_ ?_; refine GC.know (q := Pers.row Kd.u8 none []) (fun _ _ _ => .inl rfl) ?_; refine GC.ret ?_
                      refine fun a w h => Fin.back (rs := [.cell 4 55, .tmp 5, .tmp 6]) (vs := [_, _, _]) (is := []) (js := [0]) rfl ⟨⟨0, _, _, _, _, rfl, rfl, .inr ⟨[_, _, _], rfl, ag_55, sz_55, ⟨rfl, rfl, rfl, trivial⟩⟩⟩, rfl, rfl, trivial⟩ rfl rfl ?_ h
                      clear h
                      have e := rd2 (b := b) (by omega) (by omega)
                      exact ⟨0, 0, none, [], 0, 0, by simp, by simp, fun h => by omega, by rw [e]; rfl, rfl, rfl⟩)
                   ·try simp only [tst_] at h7
                    first
                    | (exfalso; omega)
                    |(skip
                      refine GC.skip (?_ : GC _ _ _ _)
                      refine GC.sr_ ?_; refine GL.mv_ rfl rfl ?_
                      have hnn : rdN b ≤ 16777216 := by omega
                      refine GL.pure rfl (p_convR (t := 23) (r := ((rdN b : Nat) : Int)) (by rw [Tryz.underlying23]; simp) Tryz.underlying3 rfl (cvI (by omega) (by omega))) ?_; refine GL.pure rfl (p_add rfl rfl (w64 (by omega) (by omega))) ?_
                      refine GL.as_ rfl rfl ?_; refine GL.nl_ ?_; refine GC.seq' ?_; refine GC.sr_ ?_; refine GL.mv_ rfl rfl ?_; refine GL.pure rfl (p_len Tryz.underlying25 rfl) ?_; refine GL.mv_ rfl rfl ?_; refine GL.pure rfl (p_lss rfl rfl) ?_
                      refine GL.nl_ ?_; refine GC.cond rfl (fun h8 => ?_) (fun h8 => ?_)
                      ·try simp only [tst_] at h8
                       first
                       | (exfalso; omega)
                       |(skip
                         refine GC.sr_ ?_; refine GL.pure rfl (p_build ze_55 of_55 rfl rfl) ?_; refine GL.step rfl (t_storeN (i := 0) rfl rfl rfl sz_55 rfl rfl rfl) ?_
                         iterate 2 refine GL.as_ rfl rfl ?_
                         refine GL.nl_ ?_; refine GC.know (q := Pers.row Kd.u8 none []) (fun _ _ _ => .inl rfl) ?_; refine GC.ret ?_
                         refine fun a w h => Fin.back (rs := [.cell 4 55, .tmp 5, .tmp 6]) (vs := [_, _, _]) (is := []) (js := [0]) rfl ⟨⟨0, _, _, _, _, rfl, rfl, .inr ⟨[_, _, _], rfl, ag_55, sz_55, ⟨rfl, rfl, rfl, trivial⟩⟩⟩, rfl, rfl, trivial⟩ rfl rfl ?_ h
                         clear h
                         have e := rd3 (b := b) (by omega) (by omega) (by omega)
                         exact ⟨0, 0, none, [], 0, 0, by simp, by simp, fun h => by omega, by rw [e]; rfl, rfl, rfl⟩)
                      ·try simp only [tst_] at h8
                       first
                       | (exfalso; omega)
                       |(skip
                         refine GC.skip (?_ : GC _ _ _ _)
                         refine GC.seq' ?_
                         have hsl : (seg b 0 (rdN b + 20)).length = rdN b + 20 := by rw [seg_length (by omega)]; omega
                         have hbl : (seg b 0 (rdN b + 16)).length = rdN b + 16 := by rw [seg_length (by omega)]; omega
                         have hsg : seg (seg b 0 (rdN b + 20)) 0 ((seg b 0 (rdN b + 20)).length - 4) = seg b 0 (rdN b + 16) := by rw [hsl]; exact seg_seg (by omega)
                         by_cases ho : sealB (seg b 0 (rdN b + 16)) = seg b 0 (rdN b + 20)
                         ·skip
                          refine GC.region ?_
                          iterate 2 refine GL.mv_ rfl rfl ?_
                          refine GL.step rfl (t_cut_h (j := 3) rfl rfl rfl rfl Tryz.underlying25 sz_5 (by omega) (by omega) (by omega)) ?_
                          rw [show (((rdN b : Nat) : Int) + 20).toNat = rdN b + 20 from rfl]
                          refine GL.step rfl (t_call rfl fn_92 rfl (is := []) (js := [0]) rfl rfl (by exact copen_ok' _ (seg b 0 (rdN b + 20)) _ (seg b 0 (rdN b + 16)) hsg (by omega) (by omega) (by omega) (by omega) ho)) (GL.ret ?_)
                          rintro _ _ _ ⟨A72, cp72, l72, k72, rfl, rfl, rfl⟩
                          refine GL.mv_ rfl rfl ?_
                          iterate 2 refine GL.pure rfl (p_extract rfl rfl) ?_
                          iterate 2 refine GL.as_ rfl rfl ?_
                          refine GL.nil (?_ : GC _ _ _ _)
                          refine GC.seq' ?_; refine GC.sr_ ?_; refine GL.mv_ rfl rfl ?_; refine GL.pure rfl (p_neq rfl rfl) ?_; refine GL.nl_ ?_; refine GC.cond_false rfl ?_
                          refine GC.skip (?_ : GC _ _ _ _)
                          refine GC.seq' ?_; refine GC.freezeB (i := 0) rfl ?_; refine GC.region ?_; refine GL.mv_ rfl rfl ?_; refine GL.step rfl (t_call rfl fn_91 rfl (is := []) (js := [0]) rfl rfl (by exact get_ok _ (seg b 0 (rdN b + 16)) _ 4 8 (by omega) (by omega) l72 (by omega) (by omega))) (GL.ret ?_)
                          rintro _ _ _ ⟨rfl, rfl, rfl⟩
                          refine GL.mv_ rfl rfl ?_
                          iterate 3 refine GL.pure rfl (p_extract rfl rfl) ?_
                          iterate 3 refine GL.as_ rfl rfl ?_
                          refine GL.nil (?_ : GC _ _ _ _)
                          refine GC.seq' ?_; refine GC.layQ (y := .const (.int .i64 (2))) (j := 0) rfl rfl (by omega) (gt_ok (by omega) (by omega)) (fun p_x85 r_x85 hA_x85 ok_x85 => ?_)
                          rcases r_x85 with _
                          refine GC.regionC (m := 13) (is := []) (js := [0, 1, 2, 3, 4, 5, 6, 7]) wide_ rfl rfl rfl ?_; refine GA.take 0 rfl (by kernel_rfl) (by kernel_rfl) (by kernel_rfl) rfl (fun a w h => h.mem (is := []) (js := [0, 1, 2, 3, 4, 5, 6, 7]) rfl rfl) (i_pure (p_move rfl)) ?_
                          refine GA.take 1 rfl (by kernel_rfl) (by kernel_rfl) (by kernel_rfl) rfl (fun a w h => h.mem (is := []) (js := [0, 1, 2, 3, 4, 5, 6, 7]) rfl rfl) (i_pure (p_indexL hA_x85 rfl rfl Tryz.underlying25 sz_5 (by omega) (by omega))) ?_
                          refine GA.take 2 rfl (by kernel_rfl) (by kernel_rfl) (by kernel_rfl) rfl (fun a w h => h.mem (is := []) (js := [0, 1, 2, 3, 4, 5, 6, 7]) rfl rfl) (i_mem (m_loadP (i := 0) rfl rfl ag_5 rfl)) ?_; refine GA.take 3 rfl (by kernel_rfl) (by kernel_rfl) (by kernel_rfl) rfl (fun a w h => h.mem (is := []) (js := [0, 1, 2, 3, 4, 5, 6, 7]) rfl rfl) (i_pure (p_move rfl)) ?_
                          refine GA.take 4 rfl (by kernel_rfl) (by kernel_rfl) (by kernel_rfl) rfl (fun a w h => h.mem (is := []) (js := [0, 1, 2, 3, 4, 5, 6, 7]) rfl rfl) (i_pure (p_move rfl)) ?_; refine GA.take 7 rfl (by kernel_rfl) (by kernel_rfl) (by kernel_rfl) rfl (fun a w h => h.mem (is := []) (js := [0, 1, 2, 3, 4, 5, 6, 7]) rfl rfl) (i_pure (p_move rfl)) ?_
                          refine GA.take 8 rfl (by kernel_rfl) (by kernel_rfl) (by kernel_rfl) rfl (fun a w h => h.mem (is := []) (js := [0, 1, 2, 3, 4, 5, 6, 7]) rfl rfl) (i_pure (p_move rfl)) ?_; refine GA.take 9 rfl (by kernel_rfl) (by kernel_rfl) (by kernel_rfl) rfl (fun a w h => h.mem (is := []) (js := [0, 1, 2, 3, 4, 5, 6, 7]) rfl rfl) (i_pure (p_add rfl rfl (w64 (by omega) (by omega)))) ?_
                          refine GA.all (rs := [5]) (by kernel_rfl) (by simp) ?_
                          refine GAs.cons (i := 5) rfl rfl (t_cut_l (j := 1) rfl rfl rfl rfl Tryz.underlying25 sz_5 (by omega) (by omega) (by omega)) (by rintro a w h; exact h.mem (is := []) (js := [1, 2, 3, 4, 5, 6, 7, 8]) rfl rfl) ?_ ?_
                          ·refine GA.take 6 rfl (by kernel_rfl) (by kernel_rfl) (by kernel_rfl) rfl (fun a w h => h.mem (is := []) (js := [1, 2, 3, 4, 5, 6, 7, 8]) rfl rfl) (i_pure (p_build ze_55 of_55 rfl rfl)) ?_; refine GA.all (rs := [10]) (by kernel_rfl) (by simp) ?_
                           refine GAs.cons (i := 10) rfl rfl (t_storeN (i := 0) rfl rfl rfl sz_55 rfl rfl rfl) (by rintro a w h; exact h.mem (is := []) (js := [1, 2, 3, 4, 5, 6, 7, 8]) rfl rfl) ?_ ?_
                           ·refine GA.take 11 rfl (by kernel_rfl) (by kernel_rfl) (by kernel_rfl) rfl (fun a w h => h.mem (is := []) (js := [1, 2, 3, 4, 5, 6, 7, 8]) rfl rfl) (i_pure (p_assign rfl)) ?_; refine GA.take 12 rfl (by kernel_rfl) (by kernel_rfl) (by kernel_rfl) rfl (fun a w h => h.mem (is := []) (js := [1, 2, 3, 4, 5, 6, 7, 8]) rfl rfl) (i_pure (p_assign rfl)) ?_
                            refine GA.done (by kernel_rfl) (?_ : GC _ _ _ _)
                            refine GC.ret ?_
                            refine fun a w h => Fin.back (rs := [.cell 4 55, .tmp 5, .tmp 6]) (vs := [_, _, _]) (is := []) (js := [0]) rfl ⟨⟨0, _, _, _, _, rfl, rfl, .inr ⟨[_, _, _], rfl, ag_55, sz_55, ⟨rfl, rfl, rfl, trivial⟩⟩⟩, rfl, rfl, trivial⟩ rfl rfl ?_ h
                            clear h
                            have e := rd5 (b := b) (by omega) (by omega) (by omega) ho
                            refine ⟨_, _, _, _, _, _, ?_, ?_, ?_, by rw [e]; rfl, rfl, rfl⟩
                            ·rw [seg_length (by omega), hbl]; show rdN b + 16 - 16 ≤ cp72 - 16; omega
                            ·show cp72 - 16 ≤ _; omega
                            ·exact fun h => ⟨by rw [show (2 : Int) = ((2 : Nat) : Int) from rfl, gt_seg (by omega)], by rw [seg_seg (by omega)], by rw [hbl]; exact seg_seg (by omega), by omega, by omega⟩
                           exact GAs.nil
                          exact GAs.nil
                         ·skip
                          refine GC.region ?_
                          iterate 2 refine GL.mv_ rfl rfl ?_
                          refine GL.step rfl (t_cut_h (j := 3) rfl rfl rfl rfl Tryz.underlying25 sz_5 (by omega) (by omega) (by omega)) ?_
                          rw [show (((rdN b : Nat) : Int) + 20).toNat = rdN b + 20 from rfl]
                          refine GL.step rfl (t_call rfl fn_92 rfl (is := []) (js := [0]) rfl rfl (by exact copen_bad _ (seg b 0 (rdN b + 20)) _ (by omega) (by omega) (by omega) (by omega) (by rw [hsg]; exact ho))) (GL.ret ?_)
                          rintro _ _ _ ⟨rfl, rfl, rfl⟩
                          refine GL.mv_ rfl rfl ?_
                          iterate 2 refine GL.pure rfl (p_extract rfl rfl) ?_
                          iterate 2 refine GL.as_ rfl rfl ?_
                          refine GL.nil (?_ : GC _ _ _ _)
                          refine GC.seq' ?_; refine GC.sr_ ?_; refine GL.mv_ rfl rfl ?_; refine GL.pure rfl (p_neq rfl rfl) ?_; refine GL.nl_ ?_; refine GC.cond_true rfl ?_; refine GC.sr_ ?_; refine GL.pure rfl (p_build ze_55 of_55 rfl rfl) ?_
                          refine GL.step rfl (t_storeN (i := 0) rfl rfl rfl sz_55 rfl rfl rfl) ?_
                          iterate 2 refine GL.as_ rfl rfl ?_
                          refine GL.nl_ ?_; refine GC.know (q := Pers.row Kd.u8 none []) (fun _ _ _ => .inl rfl) ?_; refine GC.ret ?_
                          refine fun a w h => Fin.back (rs := [.cell 4 55, .tmp 5, .tmp 6]) (vs := [_, _, _]) (is := []) (js := [0]) rfl ⟨⟨0, _, _, _, _, rfl, rfl, .inr ⟨[_, _, _], rfl, ag_55, sz_55, ⟨rfl, rfl, rfl, trivial⟩⟩⟩, rfl, rfl, trivial⟩ rfl rfl ?_ h
                          clear h
                          have e := rd4 (b := b) (by omega) (by omega) (by omega) ho
                          exact ⟨0, 0, none, [], 0, 0, by simp, by simp, fun h => by omega, by rw [e]; rfl, rfl, rfl⟩))))))))
end Go.Proofs.YtdhdmbmknpjhbaaGreat
namespace Go.Sx
open Go
section
variable {P : Program} {c : Cx} {n : Nat} {env env' : List (Nat × Value)} {G G' Gr : List Own} {Q Q' : List Pers} {d : Nat} {ty : TypeId} {pos : String} {aft : Array Edge} {x y : Operand} {a a' : Act} {w w' : World}
abbrev Cx.def_ (c : Cx) (f : FuncId) (us : List Value) : Cx := ⟨c.w0, c.S0, c.L0, [⟨.fn (.func f) us.toArray, #[]⟩]⟩
def FinD (P : Program) (fn : Func) (c : Cx) (R : Value → List Own → List Pers → Prop) : Exit → Asr := bodyPostD P fn (retOf c R)
theorem Ct.introD {f : FuncId} {fn : Func} {code : Code} {args : List Value} {R : Value → List Own → List Pers → Prop} (hf : P.funcs[f]? = some fn) (hb : fn.body = some code) (hn : fn.ntmps = n) (hl : Nat.ble args.length n = true)
    (h : ∀ c : Cx, c.L0 = keysOf G → c.D = [] → GC P (FinD P fn c R) code (St c n (enum 0 args) G Q)) : Ct P f args G Q R := by
  intro w S hh
  refine calls_of_wp_defers hf hb ?_
  have hl := Nat.le_of_ble_eq_true hl
  let c : Cx := ⟨w, S, keysOf G, []⟩
  refine Code.wp_mono ?_ (h c rfl rfl _ w ⟨S, ?_, hh, ?_⟩)
  · intro e a w' he
    exact he
  · refine ⟨⟨by simp [hn]; omega, fun i v hi => ?_⟩, rfl⟩
    obtain ⟨k, rfl, hk⟩ := look_enum args 0 i v hi
    rw [Nat.zero_add]
    have hlt : k < args.length := (List.getElem?_eq_some_iff.1 hk).1
    simp only [List.size_toArray]
    rw [Array.getElem?_append_left (by simpa using hlt)]
    simpa using hk
  · exact ⟨Fr.refl _ _, fun _ _ _ => Iff.rfl, fun k hk => .inl hk⟩
theorem FinD.of {fn : Func} {R : Value → List Own → List Pers → Prop} (hD : c.D = []) (h : Fin P fn c R .ret a w) : FinD P fn c R .ret a w := by
  obtain ⟨h1, h2⟩ := h hD
  show Leaves P fn a.tmps (retOf c R) a.defers .returning w
  rw [h1]
  exact h2
theorem FinD.back (hD : c.D = []) {fn : Func} {rs : List ResultVar} {vs : List Value} {is js : List Nat} {R : Value → List Own → List Pers → Prop} (hr : fn.results = rs.toArray) (hv : resV P env G rs vs) (hsel : sel G is = some (G', Gr)) (hq : pickQ Q js = some Q') (hR : R (tupV vs) G' Q') (h : St c n env G Q a w) : FinD P fn c R .ret a w :=
  FinD.of hD (Fin.back hr hv hsel hq hR h)
theorem GL.defer {ops : Array Oper} {X : Exit → Asr} {rest : List Oper} {f : FuncId} {us : List Value} {ts : Array TypeId} (hD : c.D = []) (hx : ev env x = some (.func (.func f) #[] us.toArray))
    (k : GL P ops X rest (St (c.def_ f us) n env G Q)) : GL P ops X (⟨none, .defer { callee := .value x, args := #[], argTypes := ts }, ty, pos, aft, none⟩ :: rest) (St c n env G Q) := by
  intro a w h
  refine wpList_plain rfl fun K hK => ?_
  unfold Oper.wp
  obtain ⟨S, he, hh, hrel⟩ := h
  have hrun : (execOp a.eval ⟨none, .defer { callee := .value x, args := #[], argTypes := ts }, ty, pos, aft, none⟩).run P w = .ok (.defer ⟨.fn (.func f) us.toArray, #[]⟩) w := by
    simp [execOp, resolve, he.eval hx, Deferred.ofValue]
  rw [hrun, Oper.upon_defer]
  refine hK _ _ (k _ w ⟨S, ⟨⟨he.size, he.has⟩, ?_⟩, hh, ⟨hrel.fr, hrel.old, hrel.key⟩⟩)
  show _ :: a.defers = _
  rw [he.defers, hD]
theorem FinD.back1 {f : FuncId} {us : List Value} (hf : Ent P f) (hi : ∀ w, CallsD P f us.toArray .returning w fun e u' w' => e = .returned (.tuple #[]) ∧ u' = .returning ∧ w' = w) {fn : Func} {rs : List ResultVar} {vs : List Value} {is js : List Nat} {R : Value → List Own → List Pers → Prop} (hr : fn.results = rs.toArray) (hv : resV P env G rs vs) (hsel : sel G is = some (G', Gr)) (hq : pickQ Q js = some Q') (hR : R (tupV vs) G' Q') (h : St (c.def_ f us) n env G Q a w) : FinD P fn c R .ret a w := by
  obtain ⟨S, he, hh, hrel⟩ := h
  have h0 : St ⟨c.w0, c.S0, c.L0, []⟩ n env G Q { a with defers := [] } w := ⟨S, ⟨⟨he.size, he.has⟩, rfl⟩, hh, ⟨hrel.fr, hrel.old, hrel.key⟩⟩
  obtain ⟨_, v, hrun, hret⟩ := Fin.back hr hv hsel hq hR h0 rfl
  show Leaves P fn a.tmps (retOf c R) a.defers .returning w
  have hd : a.defers = [⟨.fn (.func f) us.toArray, #[]⟩] := he.defers
  rw [hd]
  refine ⟨by simp, .func f, us.toArray, f, us.toArray, rfl, ?_, ?_⟩
  · have := hf us.toArray w
    simp only [invoke, Array.empty_append, this]
  · refine (hi w).mono ?_
    rintro e u' w' ⟨rfl, rfl, rfl⟩
    exact ⟨v, hrun, hret⟩
end
end Go.Sx
namespace Go.Proofs.YtdhdmbmknpjhbaaGreat
open Go Go.Sx Go.Proofs
def awM : Msg := ⟨5, 0, -5, 0, 3, 0, 0, 0, 0, 0, 0, zop, rz, zgr, zst, []⟩
abbrev lie0 : Lie := ⟨none, 0, none, 0, none, 0, none, 0, none, 0, none, 0, none, 0, none, 0⟩
abbrev awV : Value := .agg #[.int .u8 5, .int .i64 0, .int .i64 (-5), .int .i64 0, .int .i64 3, .int .i64 0, .int .i64 0, .int .i64 0, .int .u64 0, .int .i64 0, .int .i64 0, .int .u8 0, .int .i64 0, .int .i64 0, .slice none 0 0, .slice none 0 0, .int .u8 0, .slice none 0 0, .int .i64 0, .slice none 0 0, .int .i64 0, .int .i64 0, .int .i64 0, .slice none 0 0, .slice none 0 0, .int .i64 0, .slice none 0 0, .slice none 0 0]
theorem awM_len : MsgLen awM := ⟨by decide, by decide, by decide, by decide, ⟨by decide, by decide, by decide, by simp [awM, zst], by simp [awM, zst]⟩, by decide, by simp [awM]⟩
theorem nilq {q : Pers} (h : q ∈ msgQ awM lie0) : ∀ w S, q.h w S := by
  intro w S
  simp only [List.mem_cons, List.not_mem_nil, or_false] at h
  rcases h with rfl | rfl | rfl | rfl | rfl | rfl | rfl | rfl <;> exact .inl rfl
def awB : List UInt8 := [5] ++ flI 8 [0, 18446744073709551611, 0, 3, 0, 0, 0, 0, 0, 0] ++ [0] ++ leN 4 0
def awF : List UInt8 := frameB awB
theorem awB_len : awB.length = 86 := by decide
theorem awF_len : awF.length = 106 := by rw [awF, frameB_len, awB_len]
end Go.Proofs.YtdhdmbmknpjhbaaGreat
namespace Go.Proofs.YtdhdmbmknpjhbaaGreat
open Go Go.Sx Go.Proofs
theorem seg_drop {α : Type} (b : List α) (n : Nat) : seg b n b.length = b.drop n := by simp [seg]
abbrev leftG (p e : Nat) (A : Option Addr) (b : List UInt8) (cp : Nat) : List Own := [.cells p [.slice A b.length cp] e]
end Go.Proofs.YtdhdmbmknpjhbaaGreat
namespace Go.Proofs.YtdhdmbmknpjhbaaGreat
open Go Go.Sx Go.Proofs
theorem decode_idle (p q : Value) (w : World) : CallsD Tryz.prog 49 #[p, q] .returning w fun e u' w' => e = .returned (.tuple #[]) ∧ u' = .returning ∧ w' = w := by
  have hn : ∀ w : World, (binOp BinOp.eql 20 .nilIface .nilIface).run Tryz.prog w = .ok (.bool true) w := fun _ => by kernel_rfl
  refine callsD_of_wpS Tryz.func49 rfl fun c₀ cs hu => ?_
  apply wpS_seq
  apply wpS_region
  simp [wpOpsS, go_sem, recoverD, hu, Tryz.ntmps49, Exit.thenS]
  apply wpS_seq
  apply wpS_seq
  apply wpS_region
  simp [wpOpsS, go_sem, Exit.thenS, hn]
  refine wpS_cond (t := true) (by simp [Act.eval, Array.replicate]) ?_
  simp only [if_true]
  refine wpS_of_wp (wp_ret ?_)
  cases c₀
  simp_all [bodyPostS, results, Exit.thenS]
end Go.Proofs.YtdhdmbmknpjhbaaGreat
namespace Go.Proofs.YtdhdmbmknpjhbaaGreat
open Go Go.Sx Go.Proofs
def flZ (n : Nat) (l : List Int) : List UInt8 := l.flatMap (fun x => leN n x.toNat)
theorem flZ_length (n : Nat) (l : List Int) : (flZ n l).length = n * l.length := by
  unfold flZ
  induction l with
  | nil => simp
  | cons x r ih => rw [List.flatMap_cons, List.length_append, leN_length, ih, List.length_cons, Nat.mul_succ]; omega
theorem flZ_take {n : Nat} {l : List Int} {k : Nat} (h : k < l.length) : flZ n (l.take (k + 1)) = flZ n (l.take k) ++ leN n (gt l (k : Int)).toNat := by
  unfold flZ; rw [take_gt h, List.flatMap_append]; simp
def selV : Nat → Value → Value → Value
  | 0, a, _ => a
  | _ + 1, _, b => b
def selB : Nat → List UInt8 → List UInt8
  | 0, _ => []
  | _ + 1, b => b
theorem mput_ct (A : Option Addr) (b : List UInt8) (cp n : Nat) (L : Option Addr) (l : List Int) (cl : Nat) (hn : 1 ≤ n) (hn' : n ≤ 8) (hb : b.length + 8 * l.length ≤ 10000000000000) (hl : ∀ x ∈ l, 0 ≤ x ∧ x.toNat < 256 ^ n) (h0 : l ≠ []) : Ct Tryz.prog 122 [.slice A b.length cp, .int .i64 (n : Int), .slice L l.length cl] [] [Pers.row Kd.u8 A b, Pers.row kI L l]
    (fun u G Q => ∃ A' cp', (b ++ flZ n l).length ≤ cp' ∧ cp' ≤ 9223372036854775807 ∧ u = .slice A' (b ++ flZ n l).length cp' ∧ G = [rowOf A' cp' (b ++ flZ n l)] ∧ Q = []) := by
 have h8 : 256 ^ n ≤ 256 ^ 8 := Nat.pow_le_pow_right (by decide) hn'
 have hln : l.length ≠ 0 := fun h => h0 (List.length_eq_zero_iff.1 h)
 refine Ct.intro Tryz.func122 rfl rfl rfl (fun c hc => ?_)
 refine GC.sr_ ?_; refine GL.as_ rfl rfl ?_; refine GL.nl_ ?_
 iterate 2 refine GC.seq' ?_
 refine GC.nilrow 5 1 ?_; refine GC.region ?_; refine GL.mv_ rfl rfl ?_; refine GL.pure rfl (p_len Tryz.underlying31 rfl) ?_; refine GL.mv_ rfl rfl ?_
 refine GL.nil (?_ : GC _ _ _ _)
 refine GC.block ?_; refine GC.loopK3 (ks := [1, 9, 10]) (is := []) (js := [0, 1]) (fun (k : Nat) (A1 : Option Addr) (c1 : Nat) => k ≤ l.length ∧ (b ++ flZ n (l.take k)).length ≤ max c1 (if k = 0 then b.length else 0) ∧ c1 ≤ 9223372036854775807) (fun (k : Nat) (A1 : Option Addr) (c1 : Nat) => [(0, selV k (.slice A b.length cp) (.slice A1 (b ++ flZ n (l.take k)).length c1)), (11, .int .i64 (k : Int))]) (fun (k : Nat) (A1 : Option Addr) (c1 : Nat) => [.row (.slice A1 (selB k (b ++ flZ n (l.take k))).length c1) 5 1 (selB k (b ++ flZ n (l.take k))).length ((selB k (b ++ flZ n (l.take k))).map u8v)]) (fun (k : Nat) (A1 : Option Addr) (c1 : Nat) => []) (fun (k : Nat) (A1 : Option Addr) (c1 : Nat) => l.length - k) (0) (none) (0) rfl rfl rfl (fun a w h => ⟨⟨by omega, by simp [flZ], by omega⟩, h.cutK (is := [0]) (js := [0, 1]) (ks := [1, 9, 10]) ⟨rfl, rfl, trivial⟩ rfl rfl rfl⟩) ?_
 intro k A1 c1 hI0
 try dsimp only [List.cons_append, List.nil_append] at hI0 ⊢
 obtain ⟨hk, hc1, hc2⟩ := hI0
 refine GC.sr_ ?_; refine GL.pure rfl (p_lss rfl rfl) ?_; refine GL.nl_ ?_; refine GC.seq' ?_; refine GC.cond rfl (fun h1 => ?_) (fun h1 => ?_)
 ·try simp only [tst_] at h1
  refine GC.skip (?_ : GC _ _ _ _)
  refine GC.seq' ?_; refine GC.block ?_; refine GC.seq' ?_
  have hx := hl _ (gt_elem (l := l) (k := k) (by omega))
  have hnk := nk_le hn' (show k ≤ l.length by omega)
  refine GC.region ?_; refine GL.step rfl (t_index (i := 1) rfl rfl rfl rfl Tryz.underlying31 sz_3 (by omega) (gt_ok (by omega) (by omega))) (GL.ex fun p_x13 => GL.ex fun r_x13 => GL.and fun ok_x13 => ?_)
  rcases r_x13 with _
  refine GL.step rfl (t_mem rfl (m_loadP (i := 0) rfl rfl ag_3 rfl)) ?_; refine GL.as_ rfl rfl ?_
  refine GL.nil (?_ : GC _ _ _ _)
  rcases k with _ | k
  ·dsimp only [selV, selB]
   refine GC.region ?_
   skip
   iterate 2 refine GL.mv_ rfl rfl ?_
   refine GL.pure rfl (p_convR (t := 3) (r := (((gt l ((0 : Nat) : Int)).toNat : Nat) : Int)) (by rw [Tryz.underlying3]; simp) Tryz.underlying23 rfl (by rw [cvU (by omega) (by omega)]; omega)) ?_; refine GL.mv_ rfl rfl ?_
   refine GL.step rfl (t_call rfl fn_80 rfl (is := []) (js := [1]) rfl rfl (by exact oput_ct _ b _ (gt l ((0 : Nat) : Int)).toNat n hn hn' (by omega) hx.2)) (GL.ret ?_)
   rintro _ _ _ ⟨A20, cp20, l20, k20, rfl, rfl, rfl⟩
   refine GL.mv_ rfl rfl ?_
   iterate 2 refine GL.pure rfl (p_extract rfl rfl) ?_
   refine GL.as_ rfl rfl ?_
   refine GL.nil (?_ : GC _ _ _ _)
   refine GC.region ?_; refine GL.pure rfl (p_add rfl rfl (w64 (by omega) (by omega))) ?_; refine GL.mv_ rfl rfl ?_; refine GL.nil ?_
   exact fun a w h => ⟨(0 + 1), (A20), (cp20), (by omega), ⟨by omega, Nat.le_trans (by rw [flZ_take (by omega)]; simpa [flZ] using l20) (Nat.le_max_left _ _), k20⟩, by rw [show flZ n (l.take (0 + 1)) = leN n (gt l ((0 : Nat) : Int)).toNat from by rw [flZ_take (by omega)]; simp [flZ]]; exact h.cut (is := [0]) (js := [1, 2]) ⟨rfl, rfl, rfl, rfl, rfl, trivial⟩ rfl rfl⟩
  ·dsimp only [selV, selB]
   refine GC.region ?_
   skip
   refine GL.freezeB (i := 0) rfl ?_
   iterate 2 refine GL.mv_ rfl rfl ?_
   refine GL.pure rfl (p_convR (t := 3) (r := (((gt l ((k + 1 : Nat) : Int)).toNat : Nat) : Int)) (by rw [Tryz.underlying3]; simp) Tryz.underlying23 rfl (by rw [cvU (by omega) (by omega)]; omega)) ?_; refine GL.mv_ rfl rfl ?_
   refine GL.step rfl (t_call rfl fn_80 rfl (is := []) (js := [0]) rfl rfl (by exact oput_ct _ (b ++ flZ n (l.take (k + 1))) _ (gt l ((k + 1 : Nat) : Int)).toNat n hn hn' (by rw [List.length_append, flZ_length, List.length_take, Nat.min_eq_left (by omega)]; omega) hx.2)) (GL.ret ?_)
   rintro _ _ _ ⟨A20, cp20, l20, k20, rfl, rfl, rfl⟩
   refine GL.mv_ rfl rfl ?_
   iterate 2 refine GL.pure rfl (p_extract rfl rfl) ?_
   refine GL.as_ rfl rfl ?_
   refine GL.nil (?_ : GC _ _ _ _)
   refine GC.region ?_; refine GL.pure rfl (p_add rfl rfl (w64 (by omega) (by omega))) ?_; refine GL.mv_ rfl rfl ?_; refine GL.nil ?_
   exact fun a w h => ⟨(k + 1 + 1), (A20), (cp20), (by omega), ⟨by omega, Nat.le_trans (by rw [flZ_take (by omega), ← List.append_assoc]; exact l20) (Nat.le_max_left _ _), k20⟩, by rw [flZ_take (by omega), ← List.append_assoc]; exact h.cut (is := [0]) (js := [2, 3]) ⟨rfl, rfl, rfl, rfl, rfl, trivial⟩ rfl rfl⟩
 ·try simp only [tst_] at h1
  refine GC.exit (?_ : GC _ _ _ _)
  refine GC.sr_ ?_; refine GL.mv_ rfl rfl ?_; refine GL.as_ rfl rfl ?_; refine GL.nl_ ?_
  obtain rfl : k = l.length := by omega
  obtain ⟨j, hj⟩ : ∃ j, l.length = j + 1 := ⟨l.length - 1, by omega⟩
  rw [List.take_length, hj] at *
  rw [if_neg (by omega), Nat.max_zero] at hc1
  refine GC.ret ?_
  refine fun a w h => Fin.back (rs := [.tmp 6]) (vs := [_]) (is := [0]) (js := []) rfl ⟨rfl, trivial⟩ rfl rfl ?_ h
  clear h
  exact ⟨_, _, hc1, hc2, rfl, rfl, rfl⟩
end Go.Proofs.YtdhdmbmknpjhbaaGreat
namespace Go.Proofs.YtdhdmbmknpjhbaaGreat
open Go Go.Sx Go.Proofs
def byI (x : Int) : UInt8 := UInt8.ofNat x.toNat
theorem byI_eq {x : Int} (h : 0 ≤ x) (h' : x < 256) : x = (((byI x).toNat : Nat) : Int) := by
  unfold byI
  have : (UInt8.ofNat x.toNat).toNat = x.toNat := by simp; omega
  rw [this]; omega
theorem cvZ {x : Int} (h : 0 ≤ x) (h' : x < 18446744073709551616) : IntKind.u64.wrap x = ((x.toNat : Nat) : Int) := by rw [cvU h h']; omega
theorem p256_4 : (256 : Nat) ^ 4 = 4294967296 := by decide
theorem p256_8 : (256 : Nat) ^ 8 = 18446744073709551616 := by decide
theorem p256_1 : (256 : Nat) ^ 1 = 256 := by decide
def opB (o : OpD) : List UInt8 := [byI o.kind] ++ flI 4 [o.at_.toNat, o.n.toNat] ++ leN 4 o.data.length ++ o.data ++ leN 4 o.old.length ++ o.old
def resB (r : Res) : List UInt8 := [byI r.code] ++ leN 4 r.data.length ++ r.data
def grpB (g : Grp) : List UInt8 := flZ 8 [g.epoch] ++ flZ 1 [(g.members.length : Int)] ++ flZ 1 g.members
def entB (e : Entry) : List UInt8 := [byI e.kind] ++ flZ 8 [e.num, e.view, e.client, e.serial] ++ (if e.kind = 2 then grpB e.grp else opB e.op)
theorem form_rng {o : OpD} (h : formD o) : 1 ≤ o.kind ∧ o.kind ≤ 5 ∧ 0 ≤ o.at_ ∧ o.at_ ≤ 2147483647 ∧ 0 ≤ o.n ∧ o.n ≤ 2147483647 ∧ o.data.length ≤ 262144 ∧ o.old.length ≤ 4096 := by
  obtain ⟨h1, h2, h3, h4, h5, h6, h7⟩ := h
  refine ⟨?_, ?_, h1, h2, h3, h4, h5, h6⟩ <;> unfold bareP at h7 <;> omega
theorem form_ok (o : OpD) (h : formD o) (A : Option Addr) (cp : Nat) (B : Option Addr) (cq : Nat) : Ct Tryz.prog 60 [opD o A cp B cq] [] [] (fun v G Q => v = .int .i64 0 ∧ G = [] ∧ Q = []) := by
  have := form_ct o.kind o.at_ o.n A o.data.length cp B o.old.length cq
  rw [(formE_iff ..).2 h] at this
  exact this
theorem opB_len {o : OpD} (h : formD o) : (opB o).length ≤ 300000 := by
  have := form_rng h
  simp [opB, flI_length, leN_length]; omega
theorem encop_ct (o : OpD) (A : Option Addr) (cp : Nat) (B : Option Addr) (cq : Nat) (hf : formD o) : Ct Tryz.prog 77 [opD o A cp B cq] [] [Pers.row Kd.u8 A o.data, Pers.row Kd.u8 B o.old]
    (fun u G Q => ∃ A' cp', (opB o).length ≤ cp' ∧ cp' ≤ 9223372036854775807 ∧ u = .tuple #[.slice A' (opB o).length cp', .int .i64 0] ∧ G = [rowOf A' cp' (opB o)] ∧ Q = []) := by
 obtain ⟨r1, r2, r3, r4, r5, r6, r7, r8⟩ := form_rng hf
 refine Ct.intro Tryz.func77 rfl rfl rfl (fun c hc => ?_)
 refine GC.sr_ ?_; refine GL.step rfl (t_box rfl rfl rfl) (GL.ex fun b_t1 => ?_)
 iterate 2 refine GL.as_ rfl rfl ?_
 refine GL.nl_ ?_; refine GC.seq' ?_; refine GC.sr_ ?_; refine GL.step rfl (t_mem rfl (m_loadN (i := 0) rfl rfl ag_27 (vs := [_, _, _, _, _]) sz_27 ⟨rfl, rfl, rfl, rfl, rfl, trivial⟩)) ?_; refine GL.step rfl (t_call rfl fn_60 rfl (is := []) (js := []) rfl rfl (by exact form_ok o hf _ _ _ _)) (GL.ret ?_)
 rintro _ _ _ ⟨rfl, rfl, rfl⟩
 refine GL.as_ rfl rfl ?_; refine GL.nl_ ?_; refine GC.sr_ ?_; refine GL.mv_ rfl rfl ?_; refine GL.pure rfl (p_neq rfl rfl) ?_; refine GL.nl_ ?_; refine GC.cond_false rfl ?_
 refine GC.skip (?_ : GC _ _ _ _)
 refine GC.sr_ ?_; refine GL.pure rfl (p_fieldAddr fo_27_0 rfl) ?_; refine GL.step rfl (t_mem rfl (m_load (i := 0) rfl rfl ag_24 rfl)) ?_; refine GL.reval 14 rfl (congrArg (Value.int .u8) (byI_eq (by omega) (by omega))) ?_
 refine GL.step rfl (t_buildSlice rfl Tryz.underlying25 sz_5 ze_5 rfl rfl rfl rfl rfl rfl) (GL.ex fun b_t15 => ?_); refine GL.pure rfl (p_fieldAddr fo_27_1 rfl) ?_; refine GL.step rfl (t_mem rfl (m_load (i := 1) rfl rfl ag_3 rfl)) ?_
 refine GL.pure rfl (p_convR (t := 3) (r := ((o.at_.toNat : Nat) : Int)) (by rw [Tryz.underlying3]; simp) Tryz.underlying23 rfl (cvZ (by omega) (by omega))) ?_; refine GL.pure rfl (p_fieldAddr fo_27_2 rfl) ?_; refine GL.step rfl (t_mem rfl (m_load (i := 1) rfl rfl ag_3 rfl)) ?_
 refine GL.pure rfl (p_convR (t := 3) (r := ((o.n.toNat : Nat) : Int)) (by rw [Tryz.underlying3]; simp) Tryz.underlying23 rfl (cvZ (by omega) (by omega))) ?_; refine GL.step rfl (t_buildSlice rfl Tryz.underlying126 sz_23 ze_23 rfl rfl rfl rfl rfl rfl) (GL.ex fun b_t22 => ?_)
 refine GL.freezeC (enc := u8v) (xs := [byI o.kind]) (h1 := fun _ => rfl) (i := 1) rfl ?_; refine GL.freezeC (enc := uv) (xs := [o.at_.toNat, o.n.toNat]) (h1 := fun _ => rfl) (i := 0) rfl ?_; refine GL.step rfl (t_call rfl fn_76 rfl (is := []) (js := [1, 0]) rfl rfl (by exact putall_ct _ [byI o.kind] _ 4 _ [o.at_.toNat, o.n.toNat] _ (by omega) (by omega) (by simp) (by rw [p256_4]; intro x hx; simp at hx; omega))) (GL.ret ?_)
 rintro _ _ _ ⟨A23, cp23, l23, k23, rfl, rfl, rfl⟩
 refine GL.mv_ rfl rfl ?_
 iterate 2 refine GL.pure rfl (p_extract rfl rfl) ?_
 iterate 2 refine GL.as_ rfl rfl ?_
 refine GL.nl_ ?_; refine GC.sr_ ?_; refine GL.mv_ rfl rfl ?_; refine GL.pure rfl (p_fieldAddr fo_27_3 rfl) ?_; refine GL.step rfl (t_mem rfl (m_load (i := 1) rfl rfl ag_25 rfl)) ?_; refine GL.freezeB (i := 0) rfl ?_; refine GL.step rfl (t_call rfl fn_82 rfl (is := []) (js := [0, 3]) rfl rfl (by exact otext_ct _ ([byI o.kind] ++ flI 4 [o.at_.toNat, o.n.toNat]) _ _ o.data _ (by simp [flI_length]) (by omega))) (GL.ret ?_)
 rintro _ _ _ ⟨A30, cp30, l30, k30, rfl, rfl, rfl⟩
 refine GL.mv_ rfl rfl ?_
 iterate 2 refine GL.pure rfl (p_extract rfl rfl) ?_
 refine GL.as_ rfl rfl ?_; refine GL.nl_ ?_; refine GC.sr_ ?_; refine GL.mv_ rfl rfl ?_; refine GL.pure rfl (p_fieldAddr fo_27_4 rfl) ?_; refine GL.step rfl (t_mem rfl (m_load (i := 1) rfl rfl ag_25 rfl)) ?_; refine GL.freezeB (i := 0) rfl ?_
 refine GL.step rfl (t_call rfl fn_82 rfl (is := []) (js := [0, 5]) rfl rfl (by exact otext_ct _ ([byI o.kind] ++ flI 4 [o.at_.toNat, o.n.toNat] ++ leN 4 o.data.length ++ o.data) _ _ o.old _ (by simp [flI_length, leN_length]; omega) (by omega))) (GL.ret ?_)
 rintro _ _ _ ⟨A37, cp37, l37, k37, rfl, rfl, rfl⟩
 refine GL.mv_ rfl rfl ?_
 iterate 2 refine GL.pure rfl (p_extract rfl rfl) ?_
 refine GL.as_ rfl rfl ?_; refine GL.nl_ ?_; refine GC.sr_ ?_; refine GL.mv_ rfl rfl ?_
 iterate 2 refine GL.as_ rfl rfl ?_
 refine GL.nl_ ?_; refine GC.ret ?_
 refine fun a w h => Fin.back (rs := [.tmp 2, .tmp 3]) (vs := [_, _]) (is := [0]) (js := []) rfl ⟨rfl, rfl, trivial⟩ rfl rfl ?_ h
 clear h
 exact ⟨_, _, l37, k37, rfl, rfl, rfl⟩
theorem res_rng {r : Res} (h : resOk r.code r.data.length = true) : 1 ≤ r.code ∧ r.code ≤ 4 ∧ r.data.length ≤ 262144 := by
  simp only [resOk, Bool.or_eq_true, Bool.and_eq_true, decide_eq_true_eq] at h; omega
theorem bres_ok (r : Res) (h : resOk r.code r.data.length = true) (A : Option Addr) (cp : Nat) : Ct Tryz.prog 61 [.agg #[.int .u8 r.code, .slice A r.data.length cp]] [] [] (fun v G Q => v = .int .i64 0 ∧ G = [] ∧ Q = []) := by
  have := bres_ct r.code A r.data.length cp
  rw [if_pos h] at this
  exact this
theorem encres_ct (r : Res) (A : Option Addr) (cp : Nat) (hf : resOk r.code r.data.length = true) : Ct Tryz.prog 78 [.agg #[.int .u8 r.code, .slice A r.data.length cp]] [] [Pers.row Kd.u8 A r.data]
    (fun u G Q => ∃ A' cp', (resB r).length ≤ cp' ∧ cp' ≤ 9223372036854775807 ∧ u = .tuple #[.slice A' (resB r).length cp', .int .i64 0] ∧ G = [rowOf A' cp' (resB r)] ∧ Q = []) := by
 obtain ⟨r1, r2, r3⟩ := res_rng hf
 refine Ct.intro Tryz.func78 rfl rfl rfl (fun c hc => ?_)
 refine GC.sr_ ?_; refine GL.step rfl (t_box rfl rfl rfl) (GL.ex fun b_t1 => ?_)
 iterate 2 refine GL.as_ rfl rfl ?_
 refine GL.nl_ ?_; refine GC.seq' ?_; refine GC.sr_ ?_; refine GL.step rfl (t_mem rfl (m_loadN (i := 0) rfl rfl ag_30 (vs := [_, _]) sz_30 ⟨rfl, rfl, trivial⟩)) ?_; refine GL.step rfl (t_call rfl fn_61 rfl (is := []) (js := []) rfl rfl (by exact bres_ok r hf _ _)) (GL.ret ?_)
 rintro _ _ _ ⟨rfl, rfl, rfl⟩
 refine GL.as_ rfl rfl ?_; refine GL.nl_ ?_; refine GC.sr_ ?_; refine GL.mv_ rfl rfl ?_; refine GL.pure rfl (p_neq rfl rfl) ?_; refine GL.nl_ ?_; refine GC.cond_false rfl ?_
 refine GC.skip (?_ : GC _ _ _ _)
 refine GC.sr_ ?_; refine GL.pure rfl (p_fieldAddr fo_30_0 rfl) ?_; refine GL.step rfl (t_mem rfl (m_load (i := 0) rfl rfl ag_28 rfl)) ?_; refine GL.reval 11 rfl (congrArg (Value.int .u8) (byI_eq (by omega) (by omega))) ?_
 refine GL.step rfl (t_buildSlice rfl Tryz.underlying25 sz_5 ze_5 rfl rfl rfl rfl rfl rfl) (GL.ex fun b_t12 => ?_); refine GL.pure rfl (p_fieldAddr fo_30_1 rfl) ?_; refine GL.step rfl (t_mem rfl (m_load (i := 1) rfl rfl ag_25 rfl)) ?_
 refine GL.freezeC (enc := u8v) (xs := [byI r.code]) (h1 := fun _ => rfl) (i := 0) rfl ?_; refine GL.step rfl (t_call rfl fn_82 rfl (is := []) (js := [0, 1]) rfl rfl (by exact otext_ct _ [byI r.code] _ _ r.data _ (by simp) (by omega))) (GL.ret ?_)
 rintro _ _ _ ⟨A15, cp15, l15, k15, rfl, rfl, rfl⟩
 iterate 2 refine GL.pure rfl (p_extract rfl rfl) ?_
 iterate 2 refine GL.as_ rfl rfl ?_
 refine GL.nl_ ?_; refine GC.ret ?_
 refine fun a w h => Fin.back (rs := [.tmp 2, .tmp 3]) (vs := [_, _]) (is := [0]) (js := []) rfl ⟨rfl, rfl, trivial⟩ rfl rfl ?_ h
 clear h
 exact ⟨_, _, l15, k15, rfl, rfl, rfl⟩
theorem resB_len {r : Res} (h : resOk r.code r.data.length = true) : (resB r).length ≤ 300000 := by
  have := res_rng h
  simp [resB, leN_length]; omega
theorem incI_rng : ∀ {l : List Int} {b : Int}, incI b l = true → -1 ≤ b → ∀ x ∈ l, 0 ≤ x ∧ x < 64
  | [], b, h, hb, x, hx => by cases hx
  | y :: r, b, h, hb, x, hx => by
    simp only [incI, Bool.and_eq_true, decide_eq_true_eq] at h
    obtain ⟨⟨h1, h2⟩, h3⟩ := h
    rcases List.mem_cons.1 hx with rfl | hx
    · omega
    · exact incI_rng h3 (by omega) x hx
theorem grp_rng {g : Grp} (h : groupOk g.epoch g.members = true) : (∀ x ∈ g.members, 0 ≤ x ∧ x < 64) ∧ 1 ≤ g.members.length ∧ g.members.length ≤ 9 ∧ 0 ≤ g.epoch ∧ g.epoch ≤ 4611686018427387904 := by
  refine ⟨incI_rng (b := -1) ?_ (by omega), grp_len h⟩
  simp only [groupOk, Bool.and_eq_true] at h
  exact h.2
theorem grpB_len {g : Grp} (h : groupOk g.epoch g.members = true) : (grpB g).length ≤ 100 := by
  have := grp_rng h
  simp [grpB, flZ_length]; omega
theorem mput_nil (n : Nat) (L : Option Addr) (l : List Int) (cl : Nat) (hn : 1 ≤ n) (hn' : n ≤ 8) (hb : 8 * l.length ≤ 10000000000000) (hl : ∀ x ∈ l, 0 ≤ x ∧ x.toNat < 256 ^ n) (h0 : l ≠ []) : Ct Tryz.prog 122 [.slice none 0 0, .int .i64 (n : Int), .slice L l.length cl] [] [Pers.row kI L l]
    (fun u G Q => ∃ A' cp', (flZ n l).length ≤ cp' ∧ cp' ≤ 9223372036854775807 ∧ u = .slice A' (flZ n l).length cp' ∧ G = [rowOf A' cp' (flZ n l)] ∧ Q = []) :=
  Ct.free (mput_ct none [] 0 n L l cl hn hn' (by simpa using hb) hl h0) nil8
theorem mpg_ct (A : Option Addr) (b : List UInt8) (cp : Nat) (g : Grp) (B : Option Addr) (cq : Nat) (hg : groupOk g.epoch g.members = true) (hb : b.length ≤ 1000000000000) : Ct Tryz.prog 123 [.slice A b.length cp, grpV g.epoch B g.members.length cq] [] [Pers.row Kd.u8 A b, Pers.row kI B g.members]
    (fun u G Q => ∃ A' cp', (b ++ grpB g).length ≤ cp' ∧ cp' ≤ 9223372036854775807 ∧ u = .slice A' (b ++ grpB g).length cp' ∧ G = [rowOf A' cp' (b ++ grpB g)] ∧ Q = []) := by
 obtain ⟨r1, r2, r3, r4, r5⟩ := grp_rng hg
 have hgm : g.members ≠ [] := fun h => by rw [h] at r2; simp at r2
 have e : b ++ flZ 8 [g.epoch] ++ flZ 1 [(g.members.length : Int)] ++ flZ 1 g.members = b ++ grpB g := by simp [grpB, List.append_assoc]
 rw [← e]
 refine Ct.intro Tryz.func123 rfl rfl rfl (fun c hc => ?_)
 refine GC.sr_ ?_; refine GL.step rfl (t_box rfl rfl rfl) (GL.ex fun b_t3 => ?_); refine GL.as_ rfl rfl ?_; refine GL.nl_ ?_; refine GC.seq' ?_; refine GC.regionC (m := 14) (is := [0]) (js := [0, 1]) wide_ rfl rfl rfl ?_
 refine GA.take 0 rfl (by kernel_rfl) (by kernel_rfl) (by kernel_rfl) rfl (fun a w h => h.mem (is := [0]) (js := [0, 1]) rfl rfl) (i_pure (p_move rfl)) ?_; refine GA.take 1 rfl (by kernel_rfl) (by kernel_rfl) (by kernel_rfl) rfl (fun a w h => h.mem (is := [0]) (js := [0, 1]) rfl rfl) (i_pure (p_fieldAddr fo_33_0 rfl)) ?_
 refine GA.take 2 rfl (by kernel_rfl) (by kernel_rfl) (by kernel_rfl) rfl (fun a w h => h.mem (is := [0]) (js := [0, 1]) rfl rfl) (i_mem (m_load (i := 0) rfl rfl ag_3 rfl)) ?_; refine GA.take 5 rfl (by kernel_rfl) (by kernel_rfl) (by kernel_rfl) rfl (fun a w h => h.mem (is := [0]) (js := [0, 1]) rfl rfl) (i_pure (p_fieldAddr fo_33_1 rfl)) ?_
 refine GA.take 6 rfl (by kernel_rfl) (by kernel_rfl) (by kernel_rfl) rfl (fun a w h => h.mem (is := [0]) (js := [0, 1]) rfl rfl) (i_mem (m_load (i := 0) rfl rfl ag_31 rfl)) ?_; refine GA.take 7 rfl (by kernel_rfl) (by kernel_rfl) (by kernel_rfl) rfl (fun a w h => h.mem (is := [0]) (js := [0, 1]) rfl rfl) (i_pure (p_len Tryz.underlying31 rfl)) ?_
 refine GA.take 10 rfl (by kernel_rfl) (by kernel_rfl) (by kernel_rfl) rfl (fun a w h => h.mem (is := [0]) (js := [0, 1]) rfl rfl) (i_pure (p_fieldAddr fo_33_1 rfl)) ?_; refine GA.take 11 rfl (by kernel_rfl) (by kernel_rfl) (by kernel_rfl) rfl (fun a w h => h.mem (is := [0]) (js := [0, 1]) rfl rfl) (i_mem (m_load (i := 0) rfl rfl ag_31 rfl)) ?_
 refine GA.all (rs := [3, 8]) (by kernel_rfl) (by simp) ?_
 refine GAs.cons (i := 3) rfl rfl (t_buildSlice rfl Tryz.underlying31 sz_3 ze_3 rfl rfl rfl rfl rfl rfl) (by rintro a w ⟨_, h⟩; exact h.mem (is := [1]) (js := [0, 1]) rfl rfl) (GA.ex fun b_t8 => ?_) ?_
 ·refine GA.freezeC (enc := iv) (xs := [g.epoch]) (h1 := fun _ => rfl) (i := 0) rfl ?_; refine GA.all (rs := [4, 8]) (by kernel_rfl) (by simp) ?_
  refine GAs.cons (i := 4) rfl rfl (t_call rfl fn_122 rfl (is := []) (js := [1, 0]) rfl rfl (by exact mput_ct _ b _ 8 _ [g.epoch] _ (by omega) (by omega) (by simp; omega) (by rw [p256_8]; intro x hx; simp at hx; omega) (by simp))) (by rintro a w ⟨_, _, _, ⟨A9, cp9, l9, k9, rfl, rfl, rfl⟩, h⟩; exact h.mem (is := [1]) (js := [1, 2]) rfl rfl) (GA.ret ?_) ?_
  ·rintro _ _ _ ⟨A9, cp9, l9, k9, rfl, rfl, rfl⟩
   refine GA.all (rs := [8]) (by kernel_rfl) (by simp) ?_
   refine GAs.cons (i := 8) rfl rfl (t_buildSlice rfl Tryz.underlying31 sz_3 ze_3 rfl rfl rfl rfl rfl rfl) (by rintro a w ⟨_, h⟩; exact h.mem (is := [2]) (js := [1, 2]) rfl rfl) (GA.ex fun b_t13 => ?_) ?_
   ·refine GA.freezeC (enc := iv) (xs := [(g.members.length : Int)]) (h1 := fun _ => rfl) (i := 0) rfl ?_; refine GA.freezeB (i := 0) rfl ?_; refine GA.all (rs := [9]) (by kernel_rfl) (by simp) ?_
    refine GAs.cons (i := 9) rfl rfl (t_call rfl fn_122 rfl (is := []) (js := [0, 1]) rfl rfl (by exact mput_ct _ (b ++ flZ 8 [g.epoch]) _ 1 _ [(g.members.length : Int)] _ (by omega) (by omega) (by simp [flZ_length]; omega) (by rw [p256_1]; intro x hx; simp at hx; omega) (by simp))) (by rintro a w ⟨_, _, _, ⟨A14, cp14, l14, k14, rfl, rfl, rfl⟩, h⟩; exact h.mem (is := [1]) (js := [3, 4]) rfl rfl) (GA.ret ?_) ?_
    ·rintro _ _ _ ⟨A14, cp14, l14, k14, rfl, rfl, rfl⟩
     refine GA.freezeB (i := 0) rfl ?_; refine GA.all (rs := [12]) (by kernel_rfl) (by simp) ?_
     refine GAs.cons (i := 12) rfl rfl (t_call rfl fn_122 rfl (is := []) (js := [0, 5]) rfl rfl (by exact mput_ct _ (b ++ flZ 8 [g.epoch] ++ flZ 1 [(g.members.length : Int)]) _ 1 _ g.members _ (by omega) (by omega) (by simp [flZ_length]; omega) (by rw [p256_1]; intro x hx; have := r1 x hx; omega) hgm)) (by rintro a w ⟨_, _, _, ⟨A17, cp17, l17, k17, rfl, rfl, rfl⟩, h⟩; exact h.mem (is := [1]) (js := [4, 5]) rfl rfl) (GA.ret ?_) ?_
     ·rintro _ _ _ ⟨A17, cp17, l17, k17, rfl, rfl, rfl⟩
      refine GA.take 13 rfl (by kernel_rfl) (by kernel_rfl) (by kernel_rfl) rfl (fun a w h => h.mem (is := [1]) (js := [4, 5]) rfl rfl) (i_pure (p_assign rfl)) ?_
      refine GA.done (by kernel_rfl) (?_ : GC _ _ _ _)
      refine GC.ret ?_
      refine fun a w h => Fin.back (rs := [.tmp 4]) (vs := [_]) (is := [0]) (js := []) rfl ⟨rfl, trivial⟩ rfl rfl ?_ h
      clear h
      exact ⟨_, _, l17, k17, rfl, rfl, rfl⟩
     exact GAs.nil
    exact GAs.nil
   exact GAs.nil
  refine GAs.cons (i := 8) rfl rfl (t_buildSlice rfl Tryz.underlying31 sz_3 ze_3 rfl rfl rfl rfl rfl rfl) (by rintro a w ⟨_, h⟩; exact h.mem (is := [1]) (js := [1, 2]) rfl rfl) (GA.ex fun b_t13 => ?_) ?_
  ·refine GA.all (rs := [4]) (by kernel_rfl) (by simp) ?_
   refine GAs.cons (i := 4) rfl rfl (t_call rfl fn_122 rfl (is := []) (js := [1, 0]) rfl rfl (by exact mput_ct _ b _ 8 _ [g.epoch] _ (by omega) (by omega) (by simp; omega) (by rw [p256_8]; intro x hx; simp at hx; omega) (by simp))) (by rintro a w ⟨_, _, _, ⟨A9, cp9, l9, k9, rfl, rfl, rfl⟩, h⟩; exact h.mem (is := [2]) (js := [1, 2]) rfl rfl) (GA.ret ?_) ?_
   ·rintro _ _ _ ⟨A9, cp9, l9, k9, rfl, rfl, rfl⟩
    refine GA.freezeC (enc := iv) (xs := [(g.members.length : Int)]) (h1 := fun _ => rfl) (i := 1) rfl ?_; refine GA.freezeB (i := 0) rfl ?_; refine GA.all (rs := [9]) (by kernel_rfl) (by simp) ?_
    refine GAs.cons (i := 9) rfl rfl (t_call rfl fn_122 rfl (is := []) (js := [0, 1]) rfl rfl (by exact mput_ct _ (b ++ flZ 8 [g.epoch]) _ 1 _ [(g.members.length : Int)] _ (by omega) (by omega) (by simp [flZ_length]; omega) (by rw [p256_1]; intro x hx; simp at hx; omega) (by simp))) (by rintro a w ⟨_, _, _, ⟨A14, cp14, l14, k14, rfl, rfl, rfl⟩, h⟩; exact h.mem (is := [1]) (js := [3, 4]) rfl rfl) (GA.ret ?_) ?_
    ·rintro _ _ _ ⟨A14, cp14, l14, k14, rfl, rfl, rfl⟩
     refine GA.freezeB (i := 0) rfl ?_; refine GA.all (rs := [12]) (by kernel_rfl) (by simp) ?_
     refine GAs.cons (i := 12) rfl rfl (t_call rfl fn_122 rfl (is := []) (js := [0, 5]) rfl rfl (by exact mput_ct _ (b ++ flZ 8 [g.epoch] ++ flZ 1 [(g.members.length : Int)]) _ 1 _ g.members _ (by omega) (by omega) (by simp [flZ_length]; omega) (by rw [p256_1]; intro x hx; have := r1 x hx; omega) hgm)) (by rintro a w ⟨_, _, _, ⟨A17, cp17, l17, k17, rfl, rfl, rfl⟩, h⟩; exact h.mem (is := [1]) (js := [4, 5]) rfl rfl) (GA.ret ?_) ?_
     ·rintro _ _ _ ⟨A17, cp17, l17, k17, rfl, rfl, rfl⟩
      refine GA.take 13 rfl (by kernel_rfl) (by kernel_rfl) (by kernel_rfl) rfl (fun a w h => h.mem (is := [1]) (js := [4, 5]) rfl rfl) (i_pure (p_assign rfl)) ?_
      refine GA.done (by kernel_rfl) (?_ : GC _ _ _ _)
      refine GC.ret ?_
      refine fun a w h => Fin.back (rs := [.tmp 4]) (vs := [_]) (is := [0]) (js := []) rfl ⟨rfl, trivial⟩ rfl rfl ?_ h
      clear h
      exact ⟨_, _, l17, k17, rfl, rfl, rfl⟩
     exact GAs.nil
    exact GAs.nil
   exact GAs.nil
  exact GAs.nil
 refine GAs.cons (i := 8) rfl rfl (t_buildSlice rfl Tryz.underlying31 sz_3 ze_3 rfl rfl rfl rfl rfl rfl) (by rintro a w ⟨_, h⟩; exact h.mem (is := [1]) (js := [0, 1]) rfl rfl) (GA.ex fun b_t13 => ?_) ?_
 ·refine GA.all (rs := [3]) (by kernel_rfl) (by simp) ?_
  refine GAs.cons (i := 3) rfl rfl (t_buildSlice rfl Tryz.underlying31 sz_3 ze_3 rfl rfl rfl rfl rfl rfl) (by rintro a w ⟨_, h⟩; exact h.mem (is := [2]) (js := [0, 1]) rfl rfl) (GA.ex fun b_t8 => ?_) ?_
  ·refine GA.freezeC (enc := iv) (xs := [g.epoch]) (h1 := fun _ => rfl) (i := 0) rfl ?_; refine GA.all (rs := [4]) (by kernel_rfl) (by simp) ?_
   refine GAs.cons (i := 4) rfl rfl (t_call rfl fn_122 rfl (is := []) (js := [1, 0]) rfl rfl (by exact mput_ct _ b _ 8 _ [g.epoch] _ (by omega) (by omega) (by simp; omega) (by rw [p256_8]; intro x hx; simp at hx; omega) (by simp))) (by rintro a w ⟨_, _, _, ⟨A9, cp9, l9, k9, rfl, rfl, rfl⟩, h⟩; exact h.mem (is := [2]) (js := [1, 2]) rfl rfl) (GA.ret ?_) ?_
   ·rintro _ _ _ ⟨A9, cp9, l9, k9, rfl, rfl, rfl⟩
    refine GA.freezeC (enc := iv) (xs := [(g.members.length : Int)]) (h1 := fun _ => rfl) (i := 1) rfl ?_; refine GA.freezeB (i := 0) rfl ?_; refine GA.all (rs := [9]) (by kernel_rfl) (by simp) ?_
    refine GAs.cons (i := 9) rfl rfl (t_call rfl fn_122 rfl (is := []) (js := [0, 1]) rfl rfl (by exact mput_ct _ (b ++ flZ 8 [g.epoch]) _ 1 _ [(g.members.length : Int)] _ (by omega) (by omega) (by simp [flZ_length]; omega) (by rw [p256_1]; intro x hx; simp at hx; omega) (by simp))) (by rintro a w ⟨_, _, _, ⟨A14, cp14, l14, k14, rfl, rfl, rfl⟩, h⟩; exact h.mem (is := [1]) (js := [3, 4]) rfl rfl) (GA.ret ?_) ?_
    ·rintro _ _ _ ⟨A14, cp14, l14, k14, rfl, rfl, rfl⟩
     refine GA.freezeB (i := 0) rfl ?_; refine GA.all (rs := [12]) (by kernel_rfl) (by simp) ?_
     refine GAs.cons (i := 12) rfl rfl (t_call rfl fn_122 rfl (is := []) (js := [0, 5]) rfl rfl (by exact mput_ct _ (b ++ flZ 8 [g.epoch] ++ flZ 1 [(g.members.length : Int)]) _ 1 _ g.members _ (by omega) (by omega) (by simp [flZ_length]; omega) (by rw [p256_1]; intro x hx; have := r1 x hx; omega) hgm)) (by rintro a w ⟨_, _, _, ⟨A17, cp17, l17, k17, rfl, rfl, rfl⟩, h⟩; exact h.mem (is := [1]) (js := [4, 5]) rfl rfl) (GA.ret ?_) ?_
     ·rintro _ _ _ ⟨A17, cp17, l17, k17, rfl, rfl, rfl⟩
      refine GA.take 13 rfl (by kernel_rfl) (by kernel_rfl) (by kernel_rfl) rfl (fun a w h => h.mem (is := [1]) (js := [4, 5]) rfl rfl) (i_pure (p_assign rfl)) ?_
      refine GA.done (by kernel_rfl) (?_ : GC _ _ _ _)
      refine GC.ret ?_
      refine fun a w h => Fin.back (rs := [.tmp 4]) (vs := [_]) (is := [0]) (js := []) rfl ⟨rfl, trivial⟩ rfl rfl ?_ h
      clear h
      exact ⟨_, _, l17, k17, rfl, rfl, rfl⟩
     exact GAs.nil
    exact GAs.nil
   exact GAs.nil
  exact GAs.nil
 exact GAs.nil
theorem mpg_nil (g : Grp) (B : Option Addr) (cq : Nat) (hg : groupOk g.epoch g.members = true) : Ct Tryz.prog 123 [.slice none 0 0, grpV g.epoch B g.members.length cq] [] [Pers.row kI B g.members]
    (fun u G Q => ∃ A' cp', (grpB g).length ≤ cp' ∧ cp' ≤ 9223372036854775807 ∧ u = .slice A' (grpB g).length cp' ∧ G = [rowOf A' cp' (grpB g)] ∧ Q = []) :=
  Ct.free (mpg_ct none [] 0 g B cq hg (by simp)) nil8
theorem ent_rng {e : Entry} (h : entOk e) : (1 ≤ e.num ∧ e.num ≤ 4611686018427387904) ∧ (1 ≤ e.client ∧ e.client ≤ 4611686018427387904) ∧ (1 ≤ e.serial ∧ e.serial ≤ 4611686018427387904) ∧ (0 ≤ e.view ∧ e.view ≤ 4611686018427387904) ∧ (e.kind = 1 ∨ e.kind = 2) ∧ (e.kind = 2 → groupOk e.grp.epoch e.grp.members = true) ∧ (e.kind ≠ 2 → formD e.op) := by
  obtain ⟨h1, h2, h3, h4, h5⟩ := h
  refine ⟨isNum_in h1, isNum_in h2, isNum_in h3, h4, ?_, fun g => ?_, fun g => ?_⟩
  · rcases h5 with h5 | h5 <;> omega
  · rcases h5 with h5 | h5
    · omega
    · exact h5.2.2.1
  · rcases h5 with h5 | h5
    · exact h5.2.1
    · omega
theorem ment_ok (e : Entry) (h : entOk e) (A : Option Addr) (cp : Nat) (B : Option Addr) (cq : Nat) (C : Option Addr) (cr : Nat) (hl : e.grp.members.length ≤ 140737488355328) : Ct Tryz.prog 112 [entV e A cp B cq C cr] [] (entQ e A B C) (fun u G Q => u = .int .i64 0 ∧ G = [] ∧ Q = []) := by
  have := ment_ct e A cp B cq C cr hl
  rw [show entE e = 0 from if_pos h] at this
  exact this
theorem entB_len {e : Entry} (h : entOk e) : (entB e).length ≤ 400000 := by
  have r := ent_rng h
  simp only [entB, List.length_append, flZ_length]
  by_cases h2 : e.kind = 2
  · rw [if_pos h2]; have := grpB_len (r.2.2.2.2.2.1 h2); simp; omega
  · rw [if_neg h2]; have := opB_len (r.2.2.2.2.2.2 h2); simp; omega
theorem encent_ct (e : Entry) (A : Option Addr) (cp : Nat) (B : Option Addr) (cq : Nat) (C : Option Addr) (cr : Nat) (he_ : entOk e) (hl : e.grp.members.length ≤ 140737488355328) : Ct Tryz.prog 81 [entV e A cp B cq C cr] [] (entQ e A B C)
    (fun u G Q => ∃ A' cp', (entB e).length ≤ cp' ∧ cp' ≤ 9223372036854775807 ∧ u = .tuple #[.slice A' (entB e).length cp', .int .i64 0] ∧ G = [rowOf A' cp' (entB e)] ∧ Q = []) := by
 obtain ⟨r1, r2, r3, r4, r5, r6, r7⟩ := ent_rng he_
 refine Ct.intro Tryz.func81 rfl rfl rfl (fun c hc => ?_)
 refine GC.sr_ ?_; refine GL.step rfl (t_box rfl rfl rfl) (GL.ex fun b_t1 => ?_)
 iterate 2 refine GL.as_ rfl rfl ?_
 refine GL.nl_ ?_; refine GC.seq' ?_; refine GC.sr_ ?_; refine GL.step rfl (t_mem rfl (m_loadN (i := 0) rfl rfl ag_64 (vs := [_, _, _, _, _, _, _, _, _, _, _, _]) sz_64 ⟨rfl, rfl, rfl, rfl, rfl, rfl, rfl, rfl, rfl, rfl, rfl, rfl, trivial⟩)) ?_
 refine GL.step rfl (t_call rfl fn_112 rfl (is := []) (js := [0, 1, 2]) rfl rfl (by exact ment_ok e he_ _ _ _ _ _ _ hl)) (GL.ret ?_)
 rintro _ _ _ ⟨rfl, rfl, rfl⟩
 refine GL.as_ rfl rfl ?_; refine GL.nl_ ?_; refine GC.sr_ ?_; refine GL.mv_ rfl rfl ?_; refine GL.pure rfl (p_neq rfl rfl) ?_; refine GL.nl_ ?_; refine GC.cond_false rfl ?_
 refine GC.skip (?_ : GC _ _ _ _)
 refine GC.sr_ ?_; refine GL.pure rfl (p_fieldAddr fo_64_0 rfl) ?_; refine GL.step rfl (t_mem rfl (m_load (i := 0) rfl rfl ag_62 rfl)) ?_; refine GL.reval 14 rfl (congrArg (Value.int .u8) (byI_eq (by omega) (by omega))) ?_
 refine GL.step rfl (t_buildSlice rfl Tryz.underlying25 sz_5 ze_5 rfl rfl rfl rfl rfl rfl) (GL.ex fun b_t15 => ?_); refine GL.pure rfl (p_fieldAddr fo_64_1 rfl) ?_; refine GL.step rfl (t_mem rfl (m_load (i := 1) rfl rfl ag_3 rfl)) ?_
 refine GL.pure rfl (p_fieldAddr fo_64_2 rfl) ?_; refine GL.step rfl (t_mem rfl (m_load (i := 1) rfl rfl ag_3 rfl)) ?_; refine GL.pure rfl (p_fieldAddr fo_64_3 rfl) ?_; refine GL.step rfl (t_mem rfl (m_load (i := 1) rfl rfl ag_3 rfl)) ?_
 refine GL.pure rfl (p_fieldAddr fo_64_4 rfl) ?_; refine GL.step rfl (t_mem rfl (m_load (i := 1) rfl rfl ag_3 rfl)) ?_; refine GL.step rfl (t_buildSlice rfl Tryz.underlying31 sz_3 ze_3 rfl rfl rfl rfl rfl rfl) (GL.ex fun b_t24 => ?_)
 refine GL.freezeC (enc := u8v) (xs := [byI e.kind]) (h1 := fun _ => rfl) (i := 1) rfl ?_; refine GL.freezeC (enc := iv) (xs := [e.num, e.view, e.client, e.serial]) (h1 := fun _ => rfl) (i := 0) rfl ?_; refine GL.step rfl (t_call rfl fn_122 rfl (is := []) (js := [1, 0]) rfl rfl (by exact mput_ct _ [byI e.kind] _ 8 _ [e.num, e.view, e.client, e.serial] _ (by omega) (by omega) (by simp) (by rw [p256_8]; intro x hx; simp at hx; omega) (by simp))) (GL.ret ?_)
 rintro _ _ _ ⟨A25, cp25, l25, k25, rfl, rfl, rfl⟩
 refine GL.as_ rfl rfl ?_; refine GL.nl_ ?_; refine GC.seq' ?_; refine GC.sr_ ?_; refine GL.pure rfl (p_fieldAddr fo_64_0 rfl) ?_; refine GL.step rfl (t_mem rfl (m_load (i := 1) rfl rfl ag_62 rfl)) ?_; refine GL.pure rfl (p_eql rfl rfl) ?_
 refine GL.nl_ ?_; refine GC.cond rfl (fun h1 => ?_) (fun h1 => ?_)
 ·try simp only [tst_] at h1
  refine GC.sr_ ?_; refine GL.mv_ rfl rfl ?_; refine GL.pure rfl (p_fieldAddr fo_64_6 rfl) ?_; refine GL.step rfl (t_mem rfl (m_loadN (i := 1) rfl rfl ag_33 (vs := [_, _]) sz_33 ⟨rfl, rfl, trivial⟩)) ?_; refine GL.freezeB (i := 0) rfl ?_
  refine GL.step rfl (t_call rfl fn_123 rfl (is := []) (js := [0, 5]) rfl rfl (by exact mpg_ct _ ([byI e.kind] ++ flZ 8 [e.num, e.view, e.client, e.serial]) _ e.grp _ _ (r6 (by assumption)) (by simp [flZ_length]))) (GL.ret ?_)
  rintro _ _ _ ⟨A32, cp32, l32, k32, rfl, rfl, rfl⟩
  iterate 2 refine GL.as_ rfl rfl ?_
  refine GL.nl_ ?_; refine GC.ret ?_
  refine fun a w h => Fin.back (rs := [.tmp 2, .tmp 3]) (vs := [_, _]) (is := [0]) (js := []) rfl ⟨rfl, rfl, trivial⟩ rfl rfl ?_ h
  clear h
  have eb : entB e = [byI e.kind] ++ flZ 8 [e.num, e.view, e.client, e.serial] ++ grpB e.grp := by rw [entB, if_pos (by assumption)]
  rw [eb]
  exact ⟨_, _, l32, k32, rfl, rfl, rfl⟩
 ·try simp only [tst_] at h1
  refine GC.skip (?_ : GC _ _ _ _)
  refine GC.sr_ ?_; refine GL.pure rfl (p_fieldAddr fo_64_5 rfl) ?_; refine GL.step rfl (t_mem rfl (m_loadN (i := 1) rfl rfl ag_27 (vs := [_, _, _, _, _]) sz_27 ⟨rfl, rfl, rfl, rfl, rfl, trivial⟩)) ?_; refine GL.step rfl (t_call rfl fn_77 rfl (is := []) (js := [2, 3]) rfl rfl (by exact encop_ct e.op _ _ _ _ (r7 (by assumption)))) (GL.ret ?_)
  rintro _ _ _ ⟨A36, cp36, l36, k36, rfl, rfl, rfl⟩
  refine GL.mv_ rfl rfl ?_
  iterate 2 refine GL.pure rfl (p_extract rfl rfl) ?_
  iterate 2 refine GL.as_ rfl rfl ?_
  refine GL.nl_ ?_; refine GC.sr_ ?_
  iterate 2 refine GL.mv_ rfl rfl ?_
  refine GL.freezeB (i := 0) rfl ?_; refine GL.step rfl (t_appendS (i := 0) (k := 0) rfl el_25 rfl rfl rfl rfl (by have := opB_len (r7 (by assumption)); simp [flZ_length]; omega) (fun _ => rfl)) (GL.ex fun v41 => ?_)
  refine GL.rowIs (i := 0) (m' := (([byI e.kind] ++ flZ 8 [e.num, e.view, e.client, e.serial] ++ opB e.op)).length) (cs' := (([byI e.kind] ++ flZ 8 [e.num, e.view, e.client, e.serial] ++ opB e.op)).map u8v) rfl (by first | (simp only [List.length_append, List.length_cons, List.length_nil, List.append_assoc]; done) | (simp only [List.length_append, List.length_cons, List.length_nil, List.append_assoc]; omega) | (simp [flZ_length]; done) | (simp [flZ_length]; omega) | rfl) (by first | (simp only [List.map_append, List.map_cons, List.map_nil, List.append_assoc]; done) | (simp [flZ_length]; done) | rfl) rfl ?_
  refine GL.shape (i := 0) rfl (fun A_mp25 c_mp25 e_mp25 l_mp25 k_mp25 => ?_)
  subst e_mp25
  refine GL.mv_ rfl rfl ?_
  iterate 2 refine GL.as_ rfl rfl ?_
  refine GL.nl_ ?_; refine GC.ret ?_
  refine fun a w h => Fin.back (rs := [.tmp 2, .tmp 3]) (vs := [_, _]) (is := [0]) (js := []) rfl ⟨rfl, rfl, trivial⟩ rfl rfl ?_ h
  clear h
  have eb : entB e = [byI e.kind] ++ flZ 8 [e.num, e.view, e.client, e.serial] ++ opB e.op := by rw [entB, if_neg (by assumption)]
  rw [eb]
  exact ⟨_, _, l_mp25, k_mp25, rfl, rfl, rfl⟩
end Go.Proofs.YtdhdmbmknpjhbaaGreat
namespace Go.Proofs.YtdhdmbmknpjhbaaGreat
open Go Go.Sx Go.Proofs
def pgB (p : Page) : List UInt8 := flZ 4 [p.at_] ++ flZ 8 [p.ver] ++ leN 4 p.data.length ++ p.data
def rowBy (r : Row) : List UInt8 := flZ 8 [r.client, r.serial] ++ resB r.result
def sttH (s : Stt) : List UInt8 := flZ 8 [s.num] ++ flZ 4 [s.shp.bl, s.shp.sz, (s.pages.length : Int)]
def sttB (s : Stt) : List UInt8 := sttH s ++ s.pages.flatMap pgB ++ [byI (s.rows.length : Int)] ++ s.rows.flatMap rowBy ++ grpB s.grp
theorem fm_take {α β : Type} [Inhabited α] {f : α → List β} {l : List α} {k : Nat} (h : k < l.length) : (l.take (k + 1)).flatMap f = (l.take k).flatMap f ++ f (gt l (k : Int)) := by
  rw [take_gt h, List.flatMap_append]; simp
theorem fm_len {α β : Type} {f : α → List β} {n : Nat} : ∀ {l : List α}, (∀ x ∈ l, (f x).length ≤ n) → (l.flatMap f).length ≤ l.length * n
  | [], _ => by simp
  | x :: r, h => by
    have h1 := h x (List.mem_cons_self ..)
    have h2 := fm_len (f := f) (l := r) fun y hy => h y (List.mem_cons_of_mem _ hy)
    rw [List.flatMap_cons, List.length_append, List.length_cons, Nat.succ_mul]; omega
theorem cv8 {x : Int} (h : 0 ≤ x) (h' : x < 256) : IntKind.u8.wrap x = (((byI x).toNat : Nat) : Int) := by
  rw [← byI_eq h h']; simp [IntKind.wrap, IntKind.bits, IntKind.signed]; omega
theorem laid_len {bl sz : Int} : ∀ {l : List Page} {last : Int}, laidF bl sz last l = true → last < bl → (l.length : Int) ≤ bl - last - 1
  | [], last, h, hb => by simp; omega
  | p :: r, last, h, hb => by
    by_cases hbad : badP bl sz last p
    · rw [laidF, if_pos hbad] at h; cases h
    · rw [laidF, if_neg hbad] at h
      simp only [badP, not_or] at hbad
      have := laid_len h (by omega)
      rw [List.length_cons]; omega
structure HeldR (s : Stt) : Prop where
  num : 0 ≤ s.num ∧ s.num ≤ 4611686018427387904
  bl : 1 ≤ s.shp.bl ∧ s.shp.bl ≤ 4096
  sz : 1 ≤ s.shp.sz ∧ s.shp.sz ≤ 4096
  pl : s.pages.length ≤ 4096
  rl : s.rows.length ≤ 64
  pg : ∀ p ∈ s.pages, 0 ≤ p.at_ ∧ p.at_ ≤ 4096 ∧ 1 ≤ p.ver ∧ p.ver ≤ 4611686018427387904 ∧ p.data.length ≤ 4096
  rw_ : ∀ r ∈ s.rows, (1 ≤ r.client ∧ r.client ≤ 4611686018427387904) ∧ (1 ≤ r.serial ∧ r.serial ≤ 4611686018427387904) ∧ resOk r.result.code r.result.data.length = true
  gr : groupOk s.grp.epoch s.grp.members = true
theorem held_rng {s : Stt} (h : heldOk s) : HeldR s := by
  obtain ⟨h1, h2, h3, h4, h5, h6⟩ := h
  simp only [shapeOk] at h3
  refine ⟨h1, ⟨h3.1, h3.2.1⟩, ⟨h3.2.2.1, h3.2.2.2⟩, ?_, ?_, fun p hp => ?_, fun r hr => ?_, h2⟩
  · have := laid_len h4 (by omega); omega
  · simp only [rightF, Bool.and_eq_true, decide_eq_true_eq] at h5; exact h5.1
  · obtain ⟨a, b, c, d, e⟩ := laidF_all h4 (by omega) p hp
    exact ⟨a, by omega, c, d, by omega⟩
  · obtain ⟨j, hj, rfl⟩ := mem_gt hr
    have := (right_at h5 j hj).1
    simp only [rowOk, Bool.and_eq_true] at this
    exact ⟨isNum_in this.1.1, isNum_in this.1.2, this.2⟩
theorem pgB_len {p : Page} (h : p.data.length ≤ 4096) : (pgB p).length ≤ 5000 := by simp [pgB, flZ_length, leN_length]; omega
theorem rowBy_len {r : Row} (h : resOk r.result.code r.result.data.length = true) : (rowBy r).length ≤ 400000 := by
  have := resB_len h; simp [rowBy, flZ_length]; omega
theorem pgs_len {s : Stt} (h : HeldR s) (k : Nat) : ((s.pages.take k).flatMap pgB).length ≤ 20480000 := by
  have := fm_len (f := pgB) (n := 5000) (l := s.pages.take k) fun x hx => pgB_len (h.pg x (List.mem_of_mem_take hx)).2.2.2.2
  have hl := h.pl
  rw [List.length_take] at this
  have : min k s.pages.length * 5000 ≤ 4096 * 5000 := Nat.mul_le_mul_right _ (by omega)
  omega
theorem rws_len {s : Stt} (h : HeldR s) (k : Nat) : ((s.rows.take k).flatMap rowBy).length ≤ 25600000 := by
  have := fm_len (f := rowBy) (n := 400000) (l := s.rows.take k) fun x hx => rowBy_len (h.rw_ x (List.mem_of_mem_take hx)).2.2
  have hl := h.rl
  rw [List.length_take] at this
  have : min k s.rows.length * 400000 ≤ 64 * 400000 := Nat.mul_le_mul_right _ (by omega)
  omega
theorem pgs_all {s : Stt} (h : HeldR s) : (s.pages.flatMap pgB).length ≤ 20480000 := by have := pgs_len h s.pages.length; rwa [List.take_length] at this
theorem rws_all {s : Stt} (h : HeldR s) : (s.rows.flatMap rowBy).length ≤ 25600000 := by have := rws_len h s.rows.length; rwa [List.take_length] at this
theorem sttH_len (s : Stt) : (sttH s).length = 20 := by simp [sttH, flZ_length]
theorem held_ok (s : Stt) (h : heldOk s) (A : Option Addr) (cp : Nat) (B : Option Addr) (cq : Nat) (C : Option Addr) (cr : Nat) (hs : SttLen s) : Ct Tryz.prog 121 [sttV s A cp B cq C cr] [] (sttQ s A B C) (fun u G Q => ∃ x, u = .tuple #[.pointer x, .bool true] ∧ G = [] ∧ Q = []) := by
  have := held_ct s A cp B cq C cr hs
  rw [decide_eq_true h] at this
  exact this
set_option maxHeartbeats 2000000 in
theorem encstt_all (s : Stt) (A : Option Addr) (cp : Nat) (B : Option Addr) (cq : Nat) (C : Option Addr) (cr : Nat) (hs : SttLen s) (hh : heldOk s) : Ct Tryz.prog 79 [sttV s A cp B cq C cr] [] (sttQ s A B C)
    (fun u G Q => ((sttB s).length ≤ 33554432 ∧ ∃ A' cp', (sttB s).length ≤ cp' ∧ cp' ≤ 9223372036854775807 ∧ u = .tuple #[.slice A' (sttB s).length cp', .int .i64 0] ∧ G = [rowOf A' cp' (sttB s)] ∧ Q = []) ∨ (33554432 < (sttB s).length ∧ u = .tuple #[.slice none 0 0, .int .i64 2] ∧ G = [] ∧ Q = [])) := by
 have hr := held_rng hh
 obtain ⟨n1, b1, s1, pl, rl, pg, rw_, gr⟩ := held_rng hh
 have hH := sttH_len s
 have hpa := pgs_all hr
 have hra := rws_all hr
 have hgl := grpB_len gr
 refine Ct.intro Tryz.func79 rfl rfl rfl (fun c hc => ?_)
 refine GC.sr_ ?_; refine GL.step rfl (t_box rfl rfl rfl) (GL.ex fun b_t1 => ?_)
 iterate 2 refine GL.as_ rfl rfl ?_
 refine GL.nl_ ?_; refine GC.seq' ?_; refine GC.sr_ ?_; refine GL.step rfl (t_mem rfl (m_loadN (i := 0) rfl rfl ag_39 (vs := [_, _, _, _, _, _, _]) sz_39 ⟨rfl, rfl, rfl, rfl, rfl, rfl, rfl, trivial⟩)) ?_; refine GL.step rfl (t_call rfl fn_121 rfl (is := []) (js := [0, 1, 2]) rfl rfl (by exact held_ok s hh _ _ _ _ _ _ hs)) (GL.ret ?_)
 rintro _ _ _ ⟨x17, rfl, rfl, rfl⟩
 refine GL.mv_ rfl rfl ?_
 iterate 2 refine GL.pure rfl (p_extract rfl rfl) ?_
 iterate 2 refine GL.as_ rfl rfl ?_
 refine GL.nl_ ?_; refine GC.sr_ ?_; refine GL.mv_ rfl rfl ?_; refine GL.pure rfl (p_not rfl) ?_; refine GL.nl_ ?_; refine GC.cond_false rfl ?_
 refine GC.skip (?_ : GC _ _ _ _)
 refine GC.joinK2 (ks := [1, 2, 3]) (is := [0]) (js := [0, 1, 2]) (fun (A1 : Option Addr) (c1 : Nat) => (sttH s).length ≤ c1 ∧ c1 ≤ 9223372036854775807) (fun (A1 : Option Addr) (c1 : Nat) => [(6, .slice A1 (sttH s).length c1)]) (fun (A1 : Option Addr) (c1 : Nat) => [rowOf A1 c1 (sttH s)]) (fun (A1 : Option Addr) (c1 : Nat) => []) rfl rfl rfl ?_ ?_
 ·refine GC.regionC (m := 16) (is := [0]) (js := [0, 1, 2]) wide_ rfl rfl rfl ?_; refine GA.take 0 rfl (by kernel_rfl) (by kernel_rfl) (by kernel_rfl) rfl (fun a w h => h.mem (is := [0]) (js := [0, 1, 2]) rfl rfl) (i_pure (p_fieldAddr fo_39_0 rfl)) ?_
  refine GA.take 1 rfl (by kernel_rfl) (by kernel_rfl) (by kernel_rfl) rfl (fun a w h => h.mem (is := [0]) (js := [0, 1, 2]) rfl rfl) (i_mem (m_load (i := 0) rfl rfl ag_3 rfl)) ?_; refine GA.take 4 rfl (by kernel_rfl) (by kernel_rfl) (by kernel_rfl) rfl (fun a w h => h.mem (is := [0]) (js := [0, 1, 2]) rfl rfl) (i_pure (p_fieldAddr fo_39_1 rfl)) ?_
  refine GA.take 5 rfl (by kernel_rfl) (by kernel_rfl) (by kernel_rfl) rfl (fun a w h => h.mem (is := [0]) (js := [0, 1, 2]) rfl rfl) (i_pure (p_fieldAddr fo_35_0 rfl)) ?_; refine GA.take 6 rfl (by kernel_rfl) (by kernel_rfl) (by kernel_rfl) rfl (fun a w h => h.mem (is := [0]) (js := [0, 1, 2]) rfl rfl) (i_mem (m_load (i := 0) rfl rfl ag_3 rfl)) ?_
  refine GA.take 7 rfl (by kernel_rfl) (by kernel_rfl) (by kernel_rfl) rfl (fun a w h => h.mem (is := [0]) (js := [0, 1, 2]) rfl rfl) (i_pure (p_fieldAddr fo_39_1 rfl)) ?_; refine GA.take 8 rfl (by kernel_rfl) (by kernel_rfl) (by kernel_rfl) rfl (fun a w h => h.mem (is := [0]) (js := [0, 1, 2]) rfl rfl) (i_pure (p_fieldAddr fo_35_1 rfl)) ?_
  refine GA.take 9 rfl (by kernel_rfl) (by kernel_rfl) (by kernel_rfl) rfl (fun a w h => h.mem (is := [0]) (js := [0, 1, 2]) rfl rfl) (i_mem (m_load (i := 0) rfl rfl ag_3 rfl)) ?_; refine GA.take 10 rfl (by kernel_rfl) (by kernel_rfl) (by kernel_rfl) rfl (fun a w h => h.mem (is := [0]) (js := [0, 1, 2]) rfl rfl) (i_pure (p_fieldAddr fo_39_2 rfl)) ?_
  refine GA.take 11 rfl (by kernel_rfl) (by kernel_rfl) (by kernel_rfl) rfl (fun a w h => h.mem (is := [0]) (js := [0, 1, 2]) rfl rfl) (i_mem (m_load (i := 0) rfl rfl ag_36 rfl)) ?_; refine GA.take 12 rfl (by kernel_rfl) (by kernel_rfl) (by kernel_rfl) rfl (fun a w h => h.mem (is := [0]) (js := [0, 1, 2]) rfl rfl) (i_pure (p_len Tryz.underlying36 rfl)) ?_
  refine GA.all (rs := [2, 13]) (by kernel_rfl) (by simp) ?_
  refine GAs.cons (i := 2) rfl rfl (t_buildSlice rfl Tryz.underlying31 sz_3 ze_3 rfl rfl rfl rfl rfl rfl) (by rintro a w ⟨_, h⟩; exact h.mem (is := [1]) (js := [0, 1, 2]) rfl rfl) (GA.ex fun b_t24 => ?_) ?_
  ·refine GA.freezeC (enc := iv) (xs := [s.num]) (h1 := fun _ => rfl) (i := 0) rfl ?_; refine GA.all (rs := [3, 13]) (by kernel_rfl) (by simp) ?_
   refine GAs.cons (i := 3) rfl rfl (t_call rfl fn_122 rfl (is := []) (js := [0]) rfl rfl (by exact mput_nil 8 _ [s.num] _ (by omega) (by omega) (by simp) (by rw [p256_8]; intro x hx; simp at hx; omega) (by simp))) (by rintro a w ⟨_, _, _, ⟨A25, cp25, l25, k25, rfl, rfl, rfl⟩, h⟩; exact h.mem (is := [1]) (js := [1, 2, 3]) rfl rfl) (GA.ret ?_) ?_
   ·rintro _ _ _ ⟨A25, cp25, l25, k25, rfl, rfl, rfl⟩
    refine GA.all (rs := [13]) (by kernel_rfl) (by simp) ?_
    refine GAs.cons (i := 13) rfl rfl (t_buildSlice rfl Tryz.underlying31 sz_3 ze_3 rfl rfl rfl rfl rfl rfl) (by rintro a w ⟨_, h⟩; exact h.mem (is := [2]) (js := [1, 2, 3]) rfl rfl) (GA.ex fun b_t35 => ?_) ?_
    ·refine GA.freezeC (enc := iv) (xs := [s.shp.bl, s.shp.sz, (s.pages.length : Int)]) (h1 := fun _ => rfl) (i := 0) rfl ?_; refine GA.freezeB (i := 0) rfl ?_; refine GA.all (rs := [14]) (by kernel_rfl) (by simp) ?_
     refine GAs.cons (i := 14) rfl rfl (t_call rfl fn_122 rfl (is := []) (js := [0, 1]) rfl rfl (by exact mput_ct _ (flZ 8 [s.num]) _ 4 _ [s.shp.bl, s.shp.sz, (s.pages.length : Int)] _ (by omega) (by omega) (by simp [flZ_length]) (by rw [p256_4]; intro x hx; simp at hx; omega) (by simp))) (by rintro a w ⟨_, _, _, ⟨A36, cp36, l36, k36, rfl, rfl, rfl⟩, h⟩; exact h.mem (is := [1]) (js := [3, 4, 5]) rfl rfl) (GA.ret ?_) ?_
     ·rintro _ _ _ ⟨A36, cp36, l36, k36, rfl, rfl, rfl⟩
      refine GA.take 15 rfl (by kernel_rfl) (by kernel_rfl) (by kernel_rfl) rfl (fun a w h => h.mem (is := [1]) (js := [3, 4, 5]) rfl rfl) (i_pure (p_assign rfl)) ?_; refine GA.done (by kernel_rfl) ?_
      exact fun a w h => ⟨(A36), (cp36), ⟨l36, k36⟩, h.cut (is := [0, 0]) (js := [3, 4, 5]) ⟨rfl, rfl, rfl, rfl, trivial⟩ rfl rfl⟩
     exact GAs.nil
    exact GAs.nil
   refine GAs.cons (i := 13) rfl rfl (t_buildSlice rfl Tryz.underlying31 sz_3 ze_3 rfl rfl rfl rfl rfl rfl) (by rintro a w ⟨_, h⟩; exact h.mem (is := [1]) (js := [1, 2, 3]) rfl rfl) (GA.ex fun b_t35 => ?_) ?_
   ·refine GA.all (rs := [3]) (by kernel_rfl) (by simp) ?_
    refine GAs.cons (i := 3) rfl rfl (t_call rfl fn_122 rfl (is := []) (js := [0]) rfl rfl (by exact mput_nil 8 _ [s.num] _ (by omega) (by omega) (by simp) (by rw [p256_8]; intro x hx; simp at hx; omega) (by simp))) (by rintro a w ⟨_, _, _, ⟨A25, cp25, l25, k25, rfl, rfl, rfl⟩, h⟩; exact h.mem (is := [2]) (js := [1, 2, 3]) rfl rfl) (GA.ret ?_) ?_
    ·rintro _ _ _ ⟨A25, cp25, l25, k25, rfl, rfl, rfl⟩
     refine GA.freezeC (enc := iv) (xs := [s.shp.bl, s.shp.sz, (s.pages.length : Int)]) (h1 := fun _ => rfl) (i := 1) rfl ?_; refine GA.freezeB (i := 0) rfl ?_; refine GA.all (rs := [14]) (by kernel_rfl) (by simp) ?_
     refine GAs.cons (i := 14) rfl rfl (t_call rfl fn_122 rfl (is := []) (js := [0, 1]) rfl rfl (by exact mput_ct _ (flZ 8 [s.num]) _ 4 _ [s.shp.bl, s.shp.sz, (s.pages.length : Int)] _ (by omega) (by omega) (by simp [flZ_length]) (by rw [p256_4]; intro x hx; simp at hx; omega) (by simp))) (by rintro a w ⟨_, _, _, ⟨A36, cp36, l36, k36, rfl, rfl, rfl⟩, h⟩; exact h.mem (is := [1]) (js := [3, 4, 5]) rfl rfl) (GA.ret ?_) ?_
     ·rintro _ _ _ ⟨A36, cp36, l36, k36, rfl, rfl, rfl⟩
      refine GA.take 15 rfl (by kernel_rfl) (by kernel_rfl) (by kernel_rfl) rfl (fun a w h => h.mem (is := [1]) (js := [3, 4, 5]) rfl rfl) (i_pure (p_assign rfl)) ?_; refine GA.done (by kernel_rfl) ?_
      exact fun a w h => ⟨(A36), (cp36), ⟨l36, k36⟩, h.cut (is := [0, 0]) (js := [3, 4, 5]) ⟨rfl, rfl, rfl, rfl, trivial⟩ rfl rfl⟩
     exact GAs.nil
    exact GAs.nil
   exact GAs.nil
  refine GAs.cons (i := 13) rfl rfl (t_buildSlice rfl Tryz.underlying31 sz_3 ze_3 rfl rfl rfl rfl rfl rfl) (by rintro a w ⟨_, h⟩; exact h.mem (is := [1]) (js := [0, 1, 2]) rfl rfl) (GA.ex fun b_t35 => ?_) ?_
  ·refine GA.all (rs := [2]) (by kernel_rfl) (by simp) ?_
   refine GAs.cons (i := 2) rfl rfl (t_buildSlice rfl Tryz.underlying31 sz_3 ze_3 rfl rfl rfl rfl rfl rfl) (by rintro a w ⟨_, h⟩; exact h.mem (is := [2]) (js := [0, 1, 2]) rfl rfl) (GA.ex fun b_t24 => ?_) ?_
   ·refine GA.freezeC (enc := iv) (xs := [s.num]) (h1 := fun _ => rfl) (i := 0) rfl ?_; refine GA.all (rs := [3]) (by kernel_rfl) (by simp) ?_
    refine GAs.cons (i := 3) rfl rfl (t_call rfl fn_122 rfl (is := []) (js := [0]) rfl rfl (by exact mput_nil 8 _ [s.num] _ (by omega) (by omega) (by simp) (by rw [p256_8]; intro x hx; simp at hx; omega) (by simp))) (by rintro a w ⟨_, _, _, ⟨A25, cp25, l25, k25, rfl, rfl, rfl⟩, h⟩; exact h.mem (is := [2]) (js := [1, 2, 3]) rfl rfl) (GA.ret ?_) ?_
    ·rintro _ _ _ ⟨A25, cp25, l25, k25, rfl, rfl, rfl⟩
     refine GA.freezeC (enc := iv) (xs := [s.shp.bl, s.shp.sz, (s.pages.length : Int)]) (h1 := fun _ => rfl) (i := 1) rfl ?_; refine GA.freezeB (i := 0) rfl ?_; refine GA.all (rs := [14]) (by kernel_rfl) (by simp) ?_
     refine GAs.cons (i := 14) rfl rfl (t_call rfl fn_122 rfl (is := []) (js := [0, 1]) rfl rfl (by exact mput_ct _ (flZ 8 [s.num]) _ 4 _ [s.shp.bl, s.shp.sz, (s.pages.length : Int)] _ (by omega) (by omega) (by simp [flZ_length]) (by rw [p256_4]; intro x hx; simp at hx; omega) (by simp))) (by rintro a w ⟨_, _, _, ⟨A36, cp36, l36, k36, rfl, rfl, rfl⟩, h⟩; exact h.mem (is := [1]) (js := [3, 4, 5]) rfl rfl) (GA.ret ?_) ?_
     ·rintro _ _ _ ⟨A36, cp36, l36, k36, rfl, rfl, rfl⟩
      refine GA.take 15 rfl (by kernel_rfl) (by kernel_rfl) (by kernel_rfl) rfl (fun a w h => h.mem (is := [1]) (js := [3, 4, 5]) rfl rfl) (i_pure (p_assign rfl)) ?_; refine GA.done (by kernel_rfl) ?_
      exact fun a w h => ⟨(A36), (cp36), ⟨l36, k36⟩, h.cut (is := [0, 0]) (js := [3, 4, 5]) ⟨rfl, rfl, rfl, rfl, trivial⟩ rfl rfl⟩
     exact GAs.nil
    exact GAs.nil
   exact GAs.nil
  exact GAs.nil
 ·intro A1 c1 hj4
  try dsimp only [List.cons_append, List.nil_append] at hj4 ⊢
  refine GC.seq' ?_; refine GC.sr_ ?_; refine GL.pure rfl (p_fieldAddr fo_39_2 rfl) ?_; refine GL.step rfl (t_mem rfl (m_load (i := 1) rfl rfl ag_36 rfl)) ?_; refine GL.pure rfl (p_len Tryz.underlying36 rfl) ?_; refine GL.mv_ rfl rfl ?_
  refine GL.nl_ ?_; refine GC.block ?_; refine GC.loopK3 (ks := [1, 38, 39]) (is := [1]) (js := [0, 1, 2]) (fun (k : Nat) (A1 : Option Addr) (c1 : Nat) => k ≤ s.pages.length) (fun (k : Nat) (A1 : Option Addr) (c1 : Nat) => [(6, .slice A1 (sttH s ++ (s.pages.take k).flatMap pgB).length c1), (40, .int .i64 (k : Int))]) (fun (k : Nat) (A1 : Option Addr) (c1 : Nat) => [rowOf A1 c1 (sttH s ++ (s.pages.take k).flatMap pgB)]) (fun (k : Nat) (A1 : Option Addr) (c1 : Nat) => []) (fun (k : Nat) (A1 : Option Addr) (c1 : Nat) => s.pages.length - k) (0) (_) (_) rfl rfl rfl (fun a w h => ⟨by omega, by simp only [List.take_zero, List.flatMap_nil, List.append_nil]; exact h.cutK (is := [0, 0]) (js := [0, 1, 2]) (ks := [1, 38, 39]) ⟨rfl, rfl, trivial⟩ rfl rfl rfl⟩) ?_
  intro k A1 c1 hk
  try dsimp only [List.cons_append, List.nil_append] at hk ⊢
  refine GC.sr_ ?_; refine GL.pure rfl (p_lss rfl rfl) ?_; refine GL.nl_ ?_; refine GC.seq' ?_; refine GC.cond rfl (fun h1 => ?_) (fun h1 => ?_)
  ·try simp only [tst_] at h1
   first
   | (exfalso; omega)
   |(skip
     refine GC.skip (?_ : GC _ _ _ _)
     refine GC.seq' ?_; refine GC.block ?_; refine GC.seq' ?_
     have hx := pg _ (gt_elem (l := s.pages) (k := k) (by omega))
     refine GC.region ?_; refine GL.step rfl (t_index (i := 0) rfl rfl rfl rfl Tryz.underlying36 sz_59 (by omega) (gt_ok (by omega) (by omega))) (GL.ex fun p_x42 => GL.ex fun r_x42 => GL.and fun ok_x42 => ?_)
     rcases r_x42 with ⟨_, ⟨_, ⟨Ax42_0, cpx42_0⟩⟩⟩
     refine GL.step rfl (t_mem rfl (m_loadPN (i := 0) rfl rfl ag_59 (vs := [_, _, _]) sz_59 ⟨rfl, rfl, rfl, trivial⟩)) ?_; refine GL.step rfl (t_alloc rfl ze_59) (GL.ex fun b_t8 => ?_); refine GL.step rfl (t_storeN (i := 0) rfl rfl rfl sz_59 rfl rfl rfl) ?_
     refine GL.nil (?_ : GC _ _ _ _)
     refine GC.joinK2 (ks := [1, 6, 38, 39, 40]) (is := [0, 1, 2]) (js := [0, 1, 2, 3, 4]) (fun (A2 : Option Addr) (c2 : Nat) => (pgB (gt s.pages (k : Int))).length ≤ c2 ∧ c2 ≤ 9223372036854775807) (fun (A2 : Option Addr) (c2 : Nat) => [(9, .slice A2 (pgB (gt s.pages (k : Int))).length c2)]) (fun (A2 : Option Addr) (c2 : Nat) => [rowOf A2 c2 (pgB (gt s.pages (k : Int)))]) (fun (A2 : Option Addr) (c2 : Nat) => []) rfl rfl rfl ?_ ?_
     ·refine GC.regionC (m := 16) (is := [0, 0, 0]) (js := [0, 1, 2, 3, 4]) wide_ rfl rfl rfl ?_; refine GA.take 0 rfl (by kernel_rfl) (by kernel_rfl) (by kernel_rfl) rfl (fun a w h => h.mem (is := [0, 0, 0]) (js := [0, 1, 2, 3, 4]) rfl rfl) (i_pure (p_fieldAddr fo_59_0 rfl)) ?_
      refine GA.take 1 rfl (by kernel_rfl) (by kernel_rfl) (by kernel_rfl) rfl (fun a w h => h.mem (is := [0, 0, 0]) (js := [0, 1, 2, 3, 4]) rfl rfl) (i_mem (m_load (i := 0) rfl rfl ag_3 rfl)) ?_; refine GA.take 4 rfl (by kernel_rfl) (by kernel_rfl) (by kernel_rfl) rfl (fun a w h => h.mem (is := [0, 0, 0]) (js := [0, 1, 2, 3, 4]) rfl rfl) (i_pure (p_fieldAddr fo_59_1 rfl)) ?_
      refine GA.take 5 rfl (by kernel_rfl) (by kernel_rfl) (by kernel_rfl) rfl (fun a w h => h.mem (is := [0, 0, 0]) (js := [0, 1, 2, 3, 4]) rfl rfl) (i_mem (m_load (i := 0) rfl rfl ag_3 rfl)) ?_; refine GA.take 8 rfl (by kernel_rfl) (by kernel_rfl) (by kernel_rfl) rfl (fun a w h => h.mem (is := [0, 0, 0]) (js := [0, 1, 2, 3, 4]) rfl rfl) (i_pure (p_fieldAddr fo_59_2 rfl)) ?_
      refine GA.take 9 rfl (by kernel_rfl) (by kernel_rfl) (by kernel_rfl) rfl (fun a w h => h.mem (is := [0, 0, 0]) (js := [0, 1, 2, 3, 4]) rfl rfl) (i_mem (m_load (i := 0) rfl rfl ag_25 rfl)) ?_; refine GA.all (rs := [2, 6]) (by kernel_rfl) (by simp) ?_
      refine GAs.cons (i := 2) rfl rfl (t_buildSlice rfl Tryz.underlying31 sz_3 ze_3 rfl rfl rfl rfl rfl rfl) (by rintro a w ⟨_, h⟩; exact h.mem (is := [1, 1, 1]) (js := [0, 1, 2, 3, 4]) rfl rfl) (GA.ex fun b_t47 => ?_) ?_
      ·refine GA.freezeC (enc := iv) (xs := [(gt s.pages (k : Int)).at_]) (h1 := fun _ => rfl) (i := 0) rfl ?_; refine GA.all (rs := [3, 6]) (by kernel_rfl) (by simp) ?_
       refine GAs.cons (i := 3) rfl rfl (t_call rfl fn_122 rfl (is := []) (js := [0]) rfl rfl (by exact mput_nil 4 _ [(gt s.pages (k : Int)).at_] _ (by omega) (by omega) (by simp) (by rw [p256_4]; intro x hx; simp at hx; omega) (by simp))) (by rintro a w ⟨_, _, _, ⟨A48, cp48, l48, k48, rfl, rfl, rfl⟩, h⟩; exact h.mem (is := [1, 1, 1]) (js := [1, 2, 3, 4, 5]) rfl rfl) (GA.ret ?_) ?_
       ·rintro _ _ _ ⟨A48, cp48, l48, k48, rfl, rfl, rfl⟩
        refine GA.all (rs := [6]) (by kernel_rfl) (by simp) ?_
        refine GAs.cons (i := 6) rfl rfl (t_buildSlice rfl Tryz.underlying31 sz_3 ze_3 rfl rfl rfl rfl rfl rfl) (by rintro a w ⟨_, h⟩; exact h.mem (is := [2, 2, 2]) (js := [1, 2, 3, 4, 5]) rfl rfl) (GA.ex fun b_t51 => ?_) ?_
        ·refine GA.freezeC (enc := iv) (xs := [(gt s.pages (k : Int)).ver]) (h1 := fun _ => rfl) (i := 0) rfl ?_; refine GA.freezeB (i := 0) rfl ?_; refine GA.all (rs := [7]) (by kernel_rfl) (by simp) ?_
         refine GAs.cons (i := 7) rfl rfl (t_call rfl fn_122 rfl (is := []) (js := [0, 1]) rfl rfl (by exact mput_ct _ (flZ 4 [(gt s.pages (k : Int)).at_]) _ 8 _ [(gt s.pages (k : Int)).ver] _ (by omega) (by omega) (by simp [flZ_length]) (by rw [p256_8]; intro x hx; simp at hx; omega) (by simp))) (by rintro a w ⟨_, _, _, ⟨A52, cp52, l52, k52, rfl, rfl, rfl⟩, h⟩; exact h.mem (is := [1, 1, 1]) (js := [3, 4, 5, 6, 7]) rfl rfl) (GA.ret ?_) ?_
         ·rintro _ _ _ ⟨A52, cp52, l52, k52, rfl, rfl, rfl⟩
          refine GA.freezeB (i := 0) rfl ?_; refine GA.all (rs := [10]) (by kernel_rfl) (by simp) ?_
          refine GAs.cons (i := 10) rfl rfl (t_call rfl fn_82 rfl (is := []) (js := [0, 5]) rfl rfl (by exact otext_ct _ (flZ 4 [(gt s.pages (k : Int)).at_] ++ flZ 8 [(gt s.pages (k : Int)).ver]) _ _ (gt s.pages (k : Int)).data _ (by simp [flZ_length]) (by omega))) (by rintro a w ⟨_, _, _, ⟨A55, cp55, l55, k55, rfl, rfl, rfl⟩, h⟩; exact h.mem (is := [1, 1, 1]) (js := [4, 5, 6, 7, 8]) rfl rfl) (GA.ret ?_) ?_
          ·rintro _ _ _ ⟨A55, cp55, l55, k55, rfl, rfl, rfl⟩
           refine GA.take 11 rfl (by kernel_rfl) (by kernel_rfl) (by kernel_rfl) rfl (fun a w h => h.mem (is := [1, 1, 1]) (js := [4, 5, 6, 7, 8]) rfl rfl) (i_pure (p_move rfl)) ?_; refine GA.take 12 rfl (by kernel_rfl) (by kernel_rfl) (by kernel_rfl) rfl (fun a w h => h.mem (is := [1, 1, 1]) (js := [4, 5, 6, 7, 8]) rfl rfl) (i_pure (p_extract rfl rfl)) ?_
           refine GA.take 13 rfl (by kernel_rfl) (by kernel_rfl) (by kernel_rfl) rfl (fun a w h => h.mem (is := [1, 1, 1]) (js := [4, 5, 6, 7, 8]) rfl rfl) (i_pure (p_extract rfl rfl)) ?_; refine GA.take 14 rfl (by kernel_rfl) (by kernel_rfl) (by kernel_rfl) rfl (fun a w h => h.mem (is := [1, 1, 1]) (js := [4, 5, 6, 7, 8]) rfl rfl) (i_pure (p_assign rfl)) ?_
           refine GA.take 15 rfl (by kernel_rfl) (by kernel_rfl) (by kernel_rfl) rfl (fun a w h => h.mem (is := [1, 1, 1]) (js := [4, 5, 6, 7, 8]) rfl rfl) (i_pure (p_assign rfl)) ?_; refine GA.done (by kernel_rfl) ?_
           exact fun a w h => ⟨(A55), (cp55), ⟨l55, k55⟩, h.cut (is := [0, 0, 0, 0]) (js := [4, 5, 6, 7, 8]) ⟨rfl, rfl, rfl, rfl, rfl, rfl, trivial⟩ rfl rfl⟩
          exact GAs.nil
         exact GAs.nil
        exact GAs.nil
       refine GAs.cons (i := 6) rfl rfl (t_buildSlice rfl Tryz.underlying31 sz_3 ze_3 rfl rfl rfl rfl rfl rfl) (by rintro a w ⟨_, h⟩; exact h.mem (is := [1, 1, 1]) (js := [1, 2, 3, 4, 5]) rfl rfl) (GA.ex fun b_t51 => ?_) ?_
       ·refine GA.all (rs := [3]) (by kernel_rfl) (by simp) ?_
        refine GAs.cons (i := 3) rfl rfl (t_call rfl fn_122 rfl (is := []) (js := [0]) rfl rfl (by exact mput_nil 4 _ [(gt s.pages (k : Int)).at_] _ (by omega) (by omega) (by simp) (by rw [p256_4]; intro x hx; simp at hx; omega) (by simp))) (by rintro a w ⟨_, _, _, ⟨A48, cp48, l48, k48, rfl, rfl, rfl⟩, h⟩; exact h.mem (is := [2, 2, 2]) (js := [1, 2, 3, 4, 5]) rfl rfl) (GA.ret ?_) ?_
        ·rintro _ _ _ ⟨A48, cp48, l48, k48, rfl, rfl, rfl⟩
         refine GA.freezeC (enc := iv) (xs := [(gt s.pages (k : Int)).ver]) (h1 := fun _ => rfl) (i := 1) rfl ?_; refine GA.freezeB (i := 0) rfl ?_; refine GA.all (rs := [7]) (by kernel_rfl) (by simp) ?_
         refine GAs.cons (i := 7) rfl rfl (t_call rfl fn_122 rfl (is := []) (js := [0, 1]) rfl rfl (by exact mput_ct _ (flZ 4 [(gt s.pages (k : Int)).at_]) _ 8 _ [(gt s.pages (k : Int)).ver] _ (by omega) (by omega) (by simp [flZ_length]) (by rw [p256_8]; intro x hx; simp at hx; omega) (by simp))) (by rintro a w ⟨_, _, _, ⟨A52, cp52, l52, k52, rfl, rfl, rfl⟩, h⟩; exact h.mem (is := [1, 1, 1]) (js := [3, 4, 5, 6, 7]) rfl rfl) (GA.ret ?_) ?_
         ·rintro _ _ _ ⟨A52, cp52, l52, k52, rfl, rfl, rfl⟩
          refine GA.freezeB (i := 0) rfl ?_; refine GA.all (rs := [10]) (by kernel_rfl) (by simp) ?_
          refine GAs.cons (i := 10) rfl rfl (t_call rfl fn_82 rfl (is := []) (js := [0, 5]) rfl rfl (by exact otext_ct _ (flZ 4 [(gt s.pages (k : Int)).at_] ++ flZ 8 [(gt s.pages (k : Int)).ver]) _ _ (gt s.pages (k : Int)).data _ (by simp [flZ_length]) (by omega))) (by rintro a w ⟨_, _, _, ⟨A55, cp55, l55, k55, rfl, rfl, rfl⟩, h⟩; exact h.mem (is := [1, 1, 1]) (js := [4, 5, 6, 7, 8]) rfl rfl) (GA.ret ?_) ?_
          ·rintro _ _ _ ⟨A55, cp55, l55, k55, rfl, rfl, rfl⟩
           refine GA.take 11 rfl (by kernel_rfl) (by kernel_rfl) (by kernel_rfl) rfl (fun a w h => h.mem (is := [1, 1, 1]) (js := [4, 5, 6, 7, 8]) rfl rfl) (i_pure (p_move rfl)) ?_; refine GA.take 12 rfl (by kernel_rfl) (by kernel_rfl) (by kernel_rfl) rfl (fun a w h => h.mem (is := [1, 1, 1]) (js := [4, 5, 6, 7, 8]) rfl rfl) (i_pure (p_extract rfl rfl)) ?_
           refine GA.take 13 rfl (by kernel_rfl) (by kernel_rfl) (by kernel_rfl) rfl (fun a w h => h.mem (is := [1, 1, 1]) (js := [4, 5, 6, 7, 8]) rfl rfl) (i_pure (p_extract rfl rfl)) ?_; refine GA.take 14 rfl (by kernel_rfl) (by kernel_rfl) (by kernel_rfl) rfl (fun a w h => h.mem (is := [1, 1, 1]) (js := [4, 5, 6, 7, 8]) rfl rfl) (i_pure (p_assign rfl)) ?_
           refine GA.take 15 rfl (by kernel_rfl) (by kernel_rfl) (by kernel_rfl) rfl (fun a w h => h.mem (is := [1, 1, 1]) (js := [4, 5, 6, 7, 8]) rfl rfl) (i_pure (p_assign rfl)) ?_; refine GA.done (by kernel_rfl) ?_
           exact fun a w h => ⟨(A55), (cp55), ⟨l55, k55⟩, h.cut (is := [0, 0, 0, 0]) (js := [4, 5, 6, 7, 8]) ⟨rfl, rfl, rfl, rfl, rfl, rfl, trivial⟩ rfl rfl⟩
          exact GAs.nil
         exact GAs.nil
        exact GAs.nil
       exact GAs.nil
      refine GAs.cons (i := 6) rfl rfl (t_buildSlice rfl Tryz.underlying31 sz_3 ze_3 rfl rfl rfl rfl rfl rfl) (by rintro a w ⟨_, h⟩; exact h.mem (is := [1, 1, 1]) (js := [0, 1, 2, 3, 4]) rfl rfl) (GA.ex fun b_t51 => ?_) ?_
      ·refine GA.all (rs := [2]) (by kernel_rfl) (by simp) ?_
       refine GAs.cons (i := 2) rfl rfl (t_buildSlice rfl Tryz.underlying31 sz_3 ze_3 rfl rfl rfl rfl rfl rfl) (by rintro a w ⟨_, h⟩; exact h.mem (is := [2, 2, 2]) (js := [0, 1, 2, 3, 4]) rfl rfl) (GA.ex fun b_t47 => ?_) ?_
       ·refine GA.freezeC (enc := iv) (xs := [(gt s.pages (k : Int)).at_]) (h1 := fun _ => rfl) (i := 0) rfl ?_; refine GA.all (rs := [3]) (by kernel_rfl) (by simp) ?_
        refine GAs.cons (i := 3) rfl rfl (t_call rfl fn_122 rfl (is := []) (js := [0]) rfl rfl (by exact mput_nil 4 _ [(gt s.pages (k : Int)).at_] _ (by omega) (by omega) (by simp) (by rw [p256_4]; intro x hx; simp at hx; omega) (by simp))) (by rintro a w ⟨_, _, _, ⟨A48, cp48, l48, k48, rfl, rfl, rfl⟩, h⟩; exact h.mem (is := [2, 2, 2]) (js := [1, 2, 3, 4, 5]) rfl rfl) (GA.ret ?_) ?_
        ·rintro _ _ _ ⟨A48, cp48, l48, k48, rfl, rfl, rfl⟩
         refine GA.freezeC (enc := iv) (xs := [(gt s.pages (k : Int)).ver]) (h1 := fun _ => rfl) (i := 1) rfl ?_; refine GA.freezeB (i := 0) rfl ?_; refine GA.all (rs := [7]) (by kernel_rfl) (by simp) ?_
         refine GAs.cons (i := 7) rfl rfl (t_call rfl fn_122 rfl (is := []) (js := [0, 1]) rfl rfl (by exact mput_ct _ (flZ 4 [(gt s.pages (k : Int)).at_]) _ 8 _ [(gt s.pages (k : Int)).ver] _ (by omega) (by omega) (by simp [flZ_length]) (by rw [p256_8]; intro x hx; simp at hx; omega) (by simp))) (by rintro a w ⟨_, _, _, ⟨A52, cp52, l52, k52, rfl, rfl, rfl⟩, h⟩; exact h.mem (is := [1, 1, 1]) (js := [3, 4, 5, 6, 7]) rfl rfl) (GA.ret ?_) ?_
         ·rintro _ _ _ ⟨A52, cp52, l52, k52, rfl, rfl, rfl⟩
          refine GA.freezeB (i := 0) rfl ?_; refine GA.all (rs := [10]) (by kernel_rfl) (by simp) ?_
          refine GAs.cons (i := 10) rfl rfl (t_call rfl fn_82 rfl (is := []) (js := [0, 5]) rfl rfl (by exact otext_ct _ (flZ 4 [(gt s.pages (k : Int)).at_] ++ flZ 8 [(gt s.pages (k : Int)).ver]) _ _ (gt s.pages (k : Int)).data _ (by simp [flZ_length]) (by omega))) (by rintro a w ⟨_, _, _, ⟨A55, cp55, l55, k55, rfl, rfl, rfl⟩, h⟩; exact h.mem (is := [1, 1, 1]) (js := [4, 5, 6, 7, 8]) rfl rfl) (GA.ret ?_) ?_
          ·rintro _ _ _ ⟨A55, cp55, l55, k55, rfl, rfl, rfl⟩
           refine GA.take 11 rfl (by kernel_rfl) (by kernel_rfl) (by kernel_rfl) rfl (fun a w h => h.mem (is := [1, 1, 1]) (js := [4, 5, 6, 7, 8]) rfl rfl) (i_pure (p_move rfl)) ?_; refine GA.take 12 rfl (by kernel_rfl) (by kernel_rfl) (by kernel_rfl) rfl (fun a w h => h.mem (is := [1, 1, 1]) (js := [4, 5, 6, 7, 8]) rfl rfl) (i_pure (p_extract rfl rfl)) ?_
           refine GA.take 13 rfl (by kernel_rfl) (by kernel_rfl) (by kernel_rfl) rfl (fun a w h => h.mem (is := [1, 1, 1]) (js := [4, 5, 6, 7, 8]) rfl rfl) (i_pure (p_extract rfl rfl)) ?_; refine GA.take 14 rfl (by kernel_rfl) (by kernel_rfl) (by kernel_rfl) rfl (fun a w h => h.mem (is := [1, 1, 1]) (js := [4, 5, 6, 7, 8]) rfl rfl) (i_pure (p_assign rfl)) ?_
           refine GA.take 15 rfl (by kernel_rfl) (by kernel_rfl) (by kernel_rfl) rfl (fun a w h => h.mem (is := [1, 1, 1]) (js := [4, 5, 6, 7, 8]) rfl rfl) (i_pure (p_assign rfl)) ?_; refine GA.done (by kernel_rfl) ?_
           exact fun a w h => ⟨(A55), (cp55), ⟨l55, k55⟩, h.cut (is := [0, 0, 0, 0]) (js := [4, 5, 6, 7, 8]) ⟨rfl, rfl, rfl, rfl, rfl, rfl, trivial⟩ rfl rfl⟩
          exact GAs.nil
         exact GAs.nil
        exact GAs.nil
       exact GAs.nil
      exact GAs.nil
     ·intro A2 c2 hj8
      try dsimp only [List.cons_append, List.nil_append] at hj8 ⊢
      refine GC.region ?_
      iterate 2 refine GL.mv_ rfl rfl ?_
      refine GL.freezeB (i := 0) rfl ?_; refine GL.step rfl (t_appendS (i := 1) (k := 0) rfl el_25 rfl rfl rfl rfl (by (try simp only [List.length_append, List.length_cons, List.length_nil, List.length_map, flZ_length, flI_length, leN_length]); first | omega | (have := pgs_len hr k; have := pgB_len (pg _ (gt_elem (l := s.pages) (k := k) (by omega))).2.2.2.2; omega) | (have := rws_len hr k; have := rowBy_len (rw_ _ (gt_elem (l := s.rows) (k := k) (by omega))).2.2; simp only [rowBy, List.length_append, flZ_length, List.length_cons, List.length_nil] at this; omega)) (fun _ => rfl)) (GL.ex fun v60 => ?_)
      refine GL.rowIs (i := 1) (m' := ((sttH s ++ (s.pages.take k).flatMap pgB ++ pgB (gt s.pages (k : Int)))).length) (cs' := ((sttH s ++ (s.pages.take k).flatMap pgB ++ pgB (gt s.pages (k : Int)))).map u8v) rfl (by first | (simp only [List.length_append, List.length_cons, List.length_nil, List.append_assoc]; done) | (simp only [List.length_append, List.length_cons, List.length_nil, List.append_assoc]; omega) | (simp [rowBy]; done) | (simp [rowBy]; omega) | rfl) (by first | (simp only [List.map_append, List.map_cons, List.map_nil, List.append_assoc]; done) | (simp [rowBy]; done) | rfl) rfl ?_
      refine GL.shape (i := 1) rfl (fun A_b c_b e_b l_b k_b => ?_)
      subst e_b
      refine GL.as_ rfl rfl ?_
      refine GL.nil (?_ : GC _ _ _ _)
      refine GC.region ?_; refine GL.pure rfl (p_add rfl rfl (w64 (by omega) (by omega))) ?_; refine GL.mv_ rfl rfl ?_; refine GL.nil ?_
      exact fun a w h => ⟨(k + 1), (A_b), (c_b), (by omega), by omega, by rw [fm_take (by omega), ← List.append_assoc]; exact h.cut (is := [1, 1]) (js := [3, 4, 5]) ⟨rfl, rfl, rfl, rfl, rfl, trivial⟩ rfl rfl⟩)
  ·try simp only [tst_] at h1
   first
   | (exfalso; omega)
   |(skip
     refine GC.exit (?_ : GC _ _ _ _)
     refine GC.seq' ?_
     obtain rfl : k = s.pages.length := by omega
     rw [List.take_length]
     refine GC.region ?_; refine GL.mv_ rfl rfl ?_; refine GL.pure rfl (p_fieldAddr fo_39_3 rfl) ?_; refine GL.step rfl (t_mem rfl (m_load (i := 1) rfl rfl ag_37 rfl)) ?_; refine GL.pure rfl (p_len Tryz.underlying37 rfl) ?_
     refine GL.pure rfl (p_convR (t := 3) (r := (((byI (s.rows.length : Int)).toNat : Nat) : Int)) (by rw [Tryz.underlying3]; simp) Tryz.underlying5 rfl (cv8 (by omega) (by omega))) ?_; refine GL.step rfl (t_buildSlice rfl Tryz.underlying25 sz_5 ze_5 rfl rfl rfl rfl rfl rfl) (GL.ex fun b_t67 => ?_)
     refine GL.step rfl (t_append (i := 1) (k := 0) rfl el_25 rfl rfl rfl rfl rfl (allOne_mem rfl) (by (try simp only [List.length_append, List.length_cons, List.length_nil, List.length_map, flZ_length, flI_length, leN_length]); first | omega | (have := pgs_len hr k; have := pgB_len (pg _ (gt_elem (l := s.pages) (k := k) (by omega))).2.2.2.2; omega) | (have := rws_len hr k; have := rowBy_len (rw_ _ (gt_elem (l := s.rows) (k := k) (by omega))).2.2; simp only [rowBy, List.length_append, flZ_length, List.length_cons, List.length_nil] at this; omega)) (fun _ => rfl)) (GL.ex fun v68 => ?_)
     refine GL.rowIs (i := 1) (m' := ((sttH s ++ s.pages.flatMap pgB ++ [byI (s.rows.length : Int)])).length) (cs' := ((sttH s ++ s.pages.flatMap pgB ++ [byI (s.rows.length : Int)])).map u8v) rfl (by first | (simp only [List.length_append, List.length_cons, List.length_nil, List.append_assoc]; done) | (simp only [List.length_append, List.length_cons, List.length_nil, List.append_assoc]; omega) | (simp [rowBy]; done) | (simp [rowBy]; omega) | rfl) (by first | (simp only [List.map_append, List.map_cons, List.map_nil, List.append_assoc]; done) | (simp [rowBy]; done) | rfl) rfl ?_
     refine GL.shape (i := 1) rfl (fun A_b c_b e_b l_b k_b => ?_)
     subst e_b
     refine GL.as_ rfl rfl ?_
     refine GL.nil (?_ : GC _ _ _ _)
     refine GC.seq' ?_; refine GC.sr_ ?_; refine GL.pure rfl (p_fieldAddr fo_39_3 rfl) ?_; refine GL.step rfl (t_mem rfl (m_load (i := 2) rfl rfl ag_37 rfl)) ?_; refine GL.pure rfl (p_len Tryz.underlying37 rfl) ?_; refine GL.mv_ rfl rfl ?_
     refine GL.nl_ ?_; refine GC.block ?_; refine GC.loopK3 (ks := [1, 70, 71]) (is := [0, 2]) (js := [0, 1, 2]) (fun (k : Nat) (A1 : Option Addr) (c1 : Nat) => k ≤ s.rows.length) (fun (k : Nat) (A1 : Option Addr) (c1 : Nat) => [(6, .slice A1 (sttH s ++ s.pages.flatMap pgB ++ [byI (s.rows.length : Int)] ++ (s.rows.take k).flatMap rowBy).length c1), (72, .int .i64 (k : Int))]) (fun (k : Nat) (A1 : Option Addr) (c1 : Nat) => [rowOf A1 c1 (sttH s ++ s.pages.flatMap pgB ++ [byI (s.rows.length : Int)] ++ (s.rows.take k).flatMap rowBy)]) (fun (k : Nat) (A1 : Option Addr) (c1 : Nat) => []) (fun (k : Nat) (A1 : Option Addr) (c1 : Nat) => s.rows.length - k) (0) (_) (_) rfl rfl rfl (fun a w h => ⟨by omega, by simp only [List.take_zero, List.flatMap_nil, List.append_nil]; exact h.cutK (is := [1, 0, 0]) (js := [0, 1, 2]) (ks := [1, 70, 71]) ⟨rfl, rfl, trivial⟩ rfl rfl rfl⟩) ?_
     intro k A1 c1 hk
     try dsimp only [List.cons_append, List.nil_append] at hk ⊢
     refine GC.sr_ ?_; refine GL.pure rfl (p_lss rfl rfl) ?_; refine GL.nl_ ?_; refine GC.seq' ?_; refine GC.cond rfl (fun h2 => ?_) (fun h2 => ?_)
     ·try simp only [tst_] at h2
      first
      | (exfalso; omega)
      |(skip
        refine GC.skip (?_ : GC _ _ _ _)
        refine GC.seq' ?_; refine GC.block ?_; refine GC.seq' ?_
        have hx := rw_ _ (gt_elem (l := s.rows) (k := k) (by omega))
        refine GC.region ?_; refine GL.step rfl (t_index (i := 1) rfl rfl rfl rfl Tryz.underlying37 sz_61 (by omega) (gt_ok (by omega) (by omega))) (GL.ex fun p_x74 => GL.ex fun r_x74 => GL.and fun ok_x74 => ?_)
        rcases r_x74 with ⟨_, ⟨_, ⟨_, ⟨Ax74_0, cpx74_0⟩⟩⟩⟩
        refine GL.step rfl (t_mem rfl (m_loadPN (i := 0) rfl rfl ag_61 (vs := [_, _, _, _]) sz_61 ⟨rfl, rfl, rfl, rfl, trivial⟩)) ?_; refine GL.step rfl (t_alloc rfl ze_61) (GL.ex fun b_t12 => ?_); refine GL.step rfl (t_storeN (i := 0) rfl rfl rfl sz_61 rfl rfl rfl) ?_
        refine GL.nil (?_ : GC _ _ _ _)
        refine GC.sr_ ?_; refine GL.pure rfl (p_fieldAddr fo_61_2 rfl) ?_; refine GL.step rfl (t_mem rfl (m_loadN (i := 0) rfl rfl ag_30 (vs := [_, _]) sz_30 ⟨rfl, rfl, trivial⟩)) ?_; refine GL.step rfl (t_call rfl fn_78 rfl (is := []) (js := [1]) rfl rfl (by exact encres_ct (gt s.rows (k : Int)).result _ _ hx.2.2)) (GL.ret ?_)
        rintro _ _ _ ⟨A79, cp79, l79, k79, rfl, rfl, rfl⟩
        refine GL.mv_ rfl rfl ?_
        iterate 2 refine GL.pure rfl (p_extract rfl rfl) ?_
        iterate 2 refine GL.as_ rfl rfl ?_
        refine GL.nl_ ?_; refine GC.region ?_; refine GL.mv_ rfl rfl ?_; refine GL.pure rfl (p_fieldAddr fo_61_0 rfl) ?_; refine GL.step rfl (t_mem rfl (m_load (i := 1) rfl rfl ag_3 rfl)) ?_; refine GL.pure rfl (p_fieldAddr fo_61_1 rfl) ?_
        refine GL.step rfl (t_mem rfl (m_load (i := 1) rfl rfl ag_3 rfl)) ?_; refine GL.step rfl (t_buildSlice rfl Tryz.underlying31 sz_3 ze_3 rfl rfl rfl rfl rfl rfl) (GL.ex fun b_t87 => ?_); refine GL.freezeC (enc := iv) (xs := [(gt s.rows (k : Int)).client, (gt s.rows (k : Int)).serial]) (h1 := fun _ => rfl) (i := 0) rfl ?_
        refine GL.step rfl (t_call rfl fn_122 rfl (is := []) (js := [0]) rfl rfl (by exact mput_nil 8 _ [(gt s.rows (k : Int)).client, (gt s.rows (k : Int)).serial] _ (by omega) (by omega) (by simp) (by rw [p256_8]; intro x hx; simp at hx; omega) (by simp))) (GL.ret ?_)
        rintro _ _ _ ⟨A88, cp88, l88, k88, rfl, rfl, rfl⟩
        refine GL.freezeB (i := 0) rfl ?_; refine GL.step rfl (t_appendS (i := 2) (k := 0) rfl el_25 rfl rfl rfl rfl (by (try simp only [List.length_append, List.length_cons, List.length_nil, List.length_map, flZ_length, flI_length, leN_length]); first | omega | (have := pgs_len hr k; have := pgB_len (pg _ (gt_elem (l := s.pages) (k := k) (by omega))).2.2.2.2; omega) | (have := rws_len hr k; have := rowBy_len (rw_ _ (gt_elem (l := s.rows) (k := k) (by omega))).2.2; simp only [rowBy, List.length_append, flZ_length, List.length_cons, List.length_nil] at this; omega)) (fun _ => rfl)) (GL.ex fun v89 => ?_)
        refine GL.mv_ rfl rfl ?_; refine GL.freezeB (i := 0) rfl ?_; refine GL.step rfl (t_appendS (i := 1) (k := 0) rfl el_25 rfl rfl rfl rfl (by (try simp only [List.length_append, List.length_cons, List.length_nil, List.length_map, flZ_length, flI_length, leN_length]); first | omega | (have := pgs_len hr k; have := pgB_len (pg _ (gt_elem (l := s.pages) (k := k) (by omega))).2.2.2.2; omega) | (have := rws_len hr k; have := rowBy_len (rw_ _ (gt_elem (l := s.rows) (k := k) (by omega))).2.2; simp only [rowBy, List.length_append, flZ_length, List.length_cons, List.length_nil] at this; omega)) (fun _ => rfl)) (GL.ex fun v91 => ?_)
        refine GL.rowIs (i := 1) (m' := ((sttH s ++ s.pages.flatMap pgB ++ [byI (s.rows.length : Int)] ++ (s.rows.take k).flatMap rowBy ++ rowBy (gt s.rows (k : Int)))).length) (cs' := ((sttH s ++ s.pages.flatMap pgB ++ [byI (s.rows.length : Int)] ++ (s.rows.take k).flatMap rowBy ++ rowBy (gt s.rows (k : Int)))).map u8v) rfl (by first | (simp only [List.length_append, List.length_cons, List.length_nil, List.append_assoc]; done) | (simp only [List.length_append, List.length_cons, List.length_nil, List.append_assoc]; omega) | (simp [rowBy]; done) | (simp [rowBy]; omega) | rfl) (by first | (simp only [List.map_append, List.map_cons, List.map_nil, List.append_assoc]; done) | (simp [rowBy]; done) | rfl) rfl ?_
        refine GL.shape (i := 1) rfl (fun A_b c_b e_b l_b k_b => ?_)
        subst e_b
        refine GL.as_ rfl rfl ?_
        refine GL.nil (?_ : GC _ _ _ _)
        refine GC.region ?_; refine GL.pure rfl (p_add rfl rfl (w64 (by omega) (by omega))) ?_; refine GL.mv_ rfl rfl ?_; refine GL.nil ?_
        exact fun a w h => ⟨(k + 1), (A_b), (c_b), (by omega), by omega, by rw [fm_take (by omega), ← List.append_assoc]; exact h.cut (is := [1, 1, 1]) (js := [5, 6, 7]) ⟨rfl, rfl, rfl, rfl, rfl, trivial⟩ rfl rfl⟩)
     ·try simp only [tst_] at h2
      first
      | (exfalso; omega)
      |(skip
        refine GC.exit (?_ : GC _ _ _ _)
        refine GC.seq' ?_
        obtain rfl : k = s.rows.length := by omega
        rw [List.take_length]
        refine GC.region ?_; refine GL.mv_ rfl rfl ?_; refine GL.pure rfl (p_fieldAddr fo_39_4 rfl) ?_; refine GL.step rfl (t_mem rfl (m_loadN (i := 2) rfl rfl ag_33 (vs := [_, _]) sz_33 ⟨rfl, rfl, trivial⟩)) ?_; refine GL.step rfl (t_call rfl fn_123 rfl (is := []) (js := [2]) rfl rfl (by exact mpg_nil s.grp _ _ gr)) (GL.ret ?_)
        rintro _ _ _ ⟨A96, cp96, l96, k96, rfl, rfl, rfl⟩
        refine GL.freezeB (i := 0) rfl ?_; refine GL.step rfl (t_appendS (i := 0) (k := 0) rfl el_25 rfl rfl rfl rfl (by (try simp only [List.length_append, List.length_cons, List.length_nil, List.length_map, flZ_length, flI_length, leN_length]); first | omega | (have := pgs_len hr k; have := pgB_len (pg _ (gt_elem (l := s.pages) (k := k) (by omega))).2.2.2.2; omega) | (have := rws_len hr k; have := rowBy_len (rw_ _ (gt_elem (l := s.rows) (k := k) (by omega))).2.2; simp only [rowBy, List.length_append, flZ_length, List.length_cons, List.length_nil] at this; omega)) (fun _ => rfl)) (GL.ex fun v97 => ?_)
        refine GL.rowIs (i := 0) (m' := ((sttH s ++ s.pages.flatMap pgB ++ [byI (s.rows.length : Int)] ++ s.rows.flatMap rowBy ++ grpB s.grp)).length) (cs' := ((sttH s ++ s.pages.flatMap pgB ++ [byI (s.rows.length : Int)] ++ s.rows.flatMap rowBy ++ grpB s.grp)).map u8v) rfl (by first | (simp only [List.length_append, List.length_cons, List.length_nil, List.append_assoc]; done) | (simp only [List.length_append, List.length_cons, List.length_nil, List.append_assoc]; omega) | (simp [rowBy]; done) | (simp [rowBy]; omega) | rfl) (by first | (simp only [List.map_append, List.map_cons, List.map_nil, List.append_assoc]; done) | (simp [rowBy]; done) | rfl) rfl ?_
        refine GL.shape (i := 0) rfl (fun A_b c_b e_b l_b k_b => ?_)
        subst e_b
        refine GL.as_ rfl rfl ?_
        refine GL.nil (?_ : GC _ _ _ _)
        iterate 2 refine GC.seq' ?_
        have hsb : (sttH s ++ s.pages.flatMap pgB ++ [byI (s.rows.length : Int)] ++ s.rows.flatMap rowBy ++ grpB s.grp).length = (sttB s).length := rfl
        refine GC.region ?_; refine GL.mv_ rfl rfl ?_; refine GL.pure rfl (p_len Tryz.underlying25 rfl) ?_; refine GL.pure rfl (p_gtr rfl rfl) ?_
        refine GL.nil (?_ : GC _ _ _ _)
        refine GC.cond rfl (fun h3 => ?_) (fun h3 => ?_)
        ·try simp only [tst_] at h3
         first
         | (exfalso; omega)
         |(skip
           refine GC.sr_ ?_
           iterate 2 refine GL.as_ rfl rfl ?_
           refine GL.nl_ ?_; refine GC.ret ?_
           refine fun a w h => Fin.back (rs := [.tmp 2, .tmp 3]) (vs := [_, _]) (is := []) (js := []) rfl ⟨rfl, rfl, trivial⟩ rfl rfl ?_ h
           clear h
           exact .inr ⟨by omega, rfl, rfl, rfl⟩)
        ·try simp only [tst_] at h3
         first
         | (exfalso; omega)
         |(skip
           refine GC.skip (?_ : GC _ _ _ _)
           refine GC.sr_ ?_; refine GL.mv_ rfl rfl ?_
           iterate 2 refine GL.as_ rfl rfl ?_
           refine GL.nl_ ?_; refine GC.ret ?_
           refine fun a w h => Fin.back (rs := [.tmp 2, .tmp 3]) (vs := [_, _]) (is := [0]) (js := []) rfl ⟨rfl, rfl, trivial⟩ rfl rfl ?_ h
           clear h
           exact .inl ⟨by omega, _, _, l_b, k_b, rfl, rfl, rfl⟩)))
theorem encstt_ok (s : Stt) (A : Option Addr) (cp : Nat) (B : Option Addr) (cq : Nat) (C : Option Addr) (cr : Nat) (hs : SttLen s) (hh : heldOk s) (hl : (sttB s).length ≤ 33554432) : Ct Tryz.prog 79 [sttV s A cp B cq C cr] [] (sttQ s A B C)
    (fun u G Q => ∃ A' cp', (sttB s).length ≤ cp' ∧ cp' ≤ 9223372036854775807 ∧ u = .tuple #[.slice A' (sttB s).length cp', .int .i64 0] ∧ G = [rowOf A' cp' (sttB s)] ∧ Q = []) :=
  Ct.mono (encstt_all s A cp B cq C cr hs hh) fun u G Q h => h.elim (fun h => h.2) (fun h => by omega)
theorem encstt_long (s : Stt) (A : Option Addr) (cp : Nat) (B : Option Addr) (cq : Nat) (C : Option Addr) (cr : Nat) (hs : SttLen s) (hh : heldOk s) (hl : 33554432 < (sttB s).length) : Ct Tryz.prog 79 [sttV s A cp B cq C cr] [] (sttQ s A B C)
    (fun u G Q => u = .tuple #[.slice none 0 0, .int .i64 2] ∧ G = [] ∧ Q = []) :=
  Ct.mono (encstt_all s A cp B cq C cr hs hh) fun u G Q h => h.elim (fun h => by omega) (fun h => h.2)
end Go.Proofs.YtdhdmbmknpjhbaaGreat
namespace Go.Proofs.YtdhdmbmknpjhbaaGreat
open Go Go.Sx Go.Proofs
def u64 (x : Int) : Nat := (x % 18446744073709551616).toNat
theorem u64_lt (x : Int) : u64 x < 18446744073709551616 := by unfold u64; omega
theorem cvU64 (x : Int) : IntKind.u64.wrap x = ((u64 x : Nat) : Int) := cvU' x
theorem u64_eq {x : Int} (h : 0 ≤ x) (h' : x < 18446744073709551616) : x = ((u64 x : Nat) : Int) := by unfold u64; omega
theorem partsN_rng (m : Msg) : 0 ≤ partsN m ∧ partsN m < 256 := by
  unfold partsN pbit
  repeat' split
  all_goals omega
theorem flZ1 (l : List Int) (h : ∀ x ∈ l, 0 ≤ x ∧ x < 256) : flZ 1 l = l.map byI := by
  unfold flZ
  induction l with
  | nil => rfl
  | cons x r ih =>
    have hx := h x (List.mem_cons_self ..)
    rw [List.flatMap_cons, ih fun y hy => h y (List.mem_cons_of_mem _ hy), List.map_cons]
    have : x.toNat % 256 = x.toNat := by omega
    simp [leN, byI, this]
def pO (m : Msg) : List UInt8 := if m.op = zop then [] else opB m.op
def pR (m : Msg) : List UInt8 := if m.res = rz then [] else resB m.res
def pG (m : Msg) : List UInt8 := if m.grp = zgr then [] else grpB m.grp
def pS (m : Msg) : List UInt8 := if m.stt = zst then [] else sttB m.stt
def hdB (m : Msg) : List UInt8 := [byI m.kind] ++ flI 8 [u64 m.src, u64 m.dst, u64 m.epoch, u64 m.view, u64 m.num, u64 m.commit, u64 m.normal, u64 m.nonce, u64 m.client, u64 m.serial] ++ [byI (partsN m)]
def preB (m : Msg) : List UInt8 := hdB m ++ pO m ++ pR m ++ pG m ++ pS m ++ leN 4 m.log.length
def bodyB (m : Msg) : List UInt8 := preB m ++ m.log.flatMap entB
structure MsgR (m : Msg) : Prop where
  kind : 1 ≤ m.kind ∧ m.kind ≤ 14
  op : ¬ m.op = zop → formD m.op
  res : ¬ m.res = rz → resOk m.res.code m.res.data.length = true
  grp : ¬ m.grp = zgr → groupOk m.grp.epoch m.grp.members = true
  stt : ¬ m.stt = zst → heldOk m.stt
  log : ∀ e ∈ m.log, entOk e
theorem msg_rng {m : Msg} (h : msgOk m) : MsgR m := by
  obtain ⟨h1, h2, h3, h4, h5, ⟨g1, g2, g3, g4⟩, h7⟩ := h
  refine ⟨⟨h2, h3⟩, g1.resolve_left, g2.resolve_left, g3.resolve_left, g4.resolve_left, fun e he => ?_⟩
  obtain ⟨j, hj, rfl⟩ := mem_gt he
  exact (h7 j hj).1
theorem hdB_len (m : Msg) : (hdB m).length = 82 := by simp [hdB, flI_length]
theorem pO_len {m : Msg} (h : MsgR m) : (pO m).length ≤ 300000 := by
  unfold pO; split
  · simp
  · exact opB_len (h.op (by assumption))
theorem pR_len {m : Msg} (h : MsgR m) : (pR m).length ≤ 300000 := by
  unfold pR; split
  · simp
  · exact resB_len (h.res (by assumption))
theorem pG_len {m : Msg} (h : MsgR m) : (pG m).length ≤ 100 := by
  unfold pG; split
  · simp
  · exact grpB_len (h.grp (by assumption))
theorem sttB_len {s : Stt} (h : heldOk s) : (sttB s).length ≤ 100000000 := by
  have hr := held_rng h
  have := pgs_all hr
  have := rws_all hr
  have := grpB_len hr.gr
  have := sttH_len s
  simp only [sttB, List.length_append, List.length_cons, List.length_nil]; omega
theorem pS_len {m : Msg} (h : MsgR m) : (pS m).length ≤ 100000000 := by
  unfold pS; split
  · simp
  · exact sttB_len (h.stt (by assumption))
theorem preB_len {m : Msg} (h : MsgR m) : (preB m).length ≤ 200000000 := by
  have := hdB_len m
  have := pO_len h
  have := pR_len h
  have := pG_len h
  have := pS_len h
  simp only [preB, List.length_append, leN_length]; omega
theorem log_len {m : Msg} (h : MsgR m) (k : Nat) : ((m.log.take k).flatMap entB).length ≤ k * 400000 := by
  have := fm_len (f := entB) (n := 400000) (l := m.log.take k) fun x hx => entB_len (h.log x (List.mem_of_mem_take hx))
  rw [List.length_take] at this
  exact Nat.le_trans this (Nat.mul_le_mul_right _ (by omega))
theorem body_ge {m : Msg} {k : Nat} (hk : k ≤ m.log.length) : (preB m).length + ((m.log.take k).flatMap entB).length ≤ (bodyB m).length := by
  have e : m.log.flatMap entB = (m.log.take k).flatMap entB ++ (m.log.drop k).flatMap entB := by rw [← List.flatMap_append, List.take_append_drop]
  rw [bodyB, e]; simp only [List.length_append]; omega
theorem body_ge' {m : Msg} {k : Nat} (hk : k < m.log.length) : (preB m).length + ((m.log.take k).flatMap entB).length + (entB (gt m.log (k : Int))).length ≤ (bodyB m).length := by
  have := body_ge (m := m) (k := k + 1) (by omega)
  rw [fm_take hk, List.length_append] at this
  omega
theorem pS_body (m : Msg) : (pS m).length ≤ (bodyB m).length := by simp only [bodyB, preB, List.length_append]; omega
theorem putall_nil (n : Nat) (L : Option Addr) (l : List Nat) (cl : Nat) (hn : 1 ≤ n) (hn' : n ≤ 8) (hb : 8 * l.length ≤ 100000000000000) (hl : ∀ x ∈ l, x < 256 ^ n) : Ct Tryz.prog 76 [.slice none 0 0, .int .i64 (n : Int), .slice L l.length cl] [] [Pers.row kU L l]
    (fun u G Q => ∃ A' cp', (flI n l).length ≤ cp' ∧ cp' ≤ 9223372036854775807 ∧ u = .tuple #[.slice A' (flI n l).length cp', .int .i64 0] ∧ G = [rowOf A' cp' (flI n l)] ∧ Q = []) :=
  Ct.free (putall_ct none [] 0 n L l cl hn hn' (by simpa using hb) hl) nil8
theorem flI_flZ {x : Int} (h : 0 ≤ x) (h' : x < 18446744073709551616) : flI 8 [u64 x] = flZ 8 [x] := by
  have : u64 x = x.toNat := by unfold u64; omega
  simp [flI, flZ, this]
set_option maxHeartbeats 2000000 in
theorem wbody_all (m : Msg) (s : Lie) (hm : MsgLen m) (hok : msgOk m) (hn : 0 ≤ m.nonce ∧ m.nonce < 18446744073709551616) (hlog : m.log.length < 100000) : Ct Tryz.prog 45 [msgV m s] [] (msgQ m s)
    (fun u G Q => ((bodyB m).length ≤ 16777216 ∧ ∃ A cp, (bodyB m).length ≤ cp ∧ cp ≤ 9223372036854775807 ∧ u = .tuple #[.slice A (bodyB m).length cp, .bool true] ∧ G = [rowOf A cp (bodyB m)] ∧ Q = []) ∨ (16777216 < (bodyB m).length ∧ (∃ A n cp, u = .tuple #[.slice A n cp, .bool false]) ∧ G = [] ∧ Q = [])) := by
 have hr := msg_rng hok
 have hpn := partsN_rng m
 have hk := hr.kind
 have l0 := hdB_len m
 have l1 := pO_len hr
 have l2 := pR_len hr
 have l3 := pG_len hr
 have l4 := pS_len hr
 have l5 := preB_len hr
 have lS := pS_body m
 refine Ct.intro Tryz.func45 rfl rfl rfl (fun c hc => ?_)
 refine GC.sr_ ?_; refine GL.step rfl (t_box rfl rfl rfl) (GL.ex fun b_t1 => ?_)
 iterate 2 refine GL.as_ rfl rfl ?_
 refine GL.nl_ ?_; refine GC.sr_ ?_; refine GL.step rfl (t_mem rfl (m_loadN (i := 0) rfl rfl ag_42 (vs := [_, _, _, _, _, _, _, _, _, _, _, _, _, _, _, _, _, _, _, _, _, _, _, _, _, _, _, _]) sz_42 ⟨rfl, rfl, rfl, rfl, rfl, rfl, rfl, rfl, rfl, rfl, rfl, rfl, rfl, rfl, rfl, rfl, rfl, rfl, rfl, rfl, rfl, rfl, rfl, rfl, rfl, rfl, rfl, rfl, trivial⟩)) ?_
 refine GL.step rfl (t_call rfl fn_59 rfl (is := []) (js := [0, 1, 2, 3, 4, 5, 6, 7]) rfl rfl (by exact parts_ct m s hm)) (GL.ret ?_)
 rintro _ _ _ ⟨rfl, rfl, rfl⟩
 refine GL.as_ rfl rfl ?_; refine GL.nl_ ?_; refine GC.sr_ ?_; refine GL.pure rfl (p_fieldAddr fo_42_0 rfl) ?_; refine GL.step rfl (t_mem rfl (m_load (i := 0) rfl rfl ag_22 rfl)) ?_; refine GL.reval 18 rfl (congrArg (Value.int .u8) (byI_eq (by omega) (by omega))) ?_
 refine GL.step rfl (t_buildSlice rfl Tryz.underlying25 sz_5 ze_5 rfl rfl rfl rfl rfl rfl) (GL.ex fun b_t19 => ?_); refine GL.pure rfl (p_fieldAddr fo_42_1 rfl) ?_; refine GL.step rfl (t_mem rfl (m_load (i := 1) rfl rfl ag_3 rfl)) ?_
 refine GL.pure rfl (p_convR (t := 3) (by rw [Tryz.underlying3]; simp) Tryz.underlying23 rfl (cvU64 m.src)) ?_; refine GL.pure rfl (p_fieldAddr fo_42_2 rfl) ?_; refine GL.step rfl (t_mem rfl (m_load (i := 1) rfl rfl ag_3 rfl)) ?_
 refine GL.pure rfl (p_convR (t := 3) (by rw [Tryz.underlying3]; simp) Tryz.underlying23 rfl (cvU64 m.dst)) ?_; refine GL.pure rfl (p_fieldAddr fo_42_3 rfl) ?_; refine GL.step rfl (t_mem rfl (m_load (i := 1) rfl rfl ag_3 rfl)) ?_
 refine GL.pure rfl (p_convR (t := 3) (by rw [Tryz.underlying3]; simp) Tryz.underlying23 rfl (cvU64 m.epoch)) ?_; refine GL.pure rfl (p_fieldAddr fo_42_4 rfl) ?_; refine GL.step rfl (t_mem rfl (m_load (i := 1) rfl rfl ag_3 rfl)) ?_
 refine GL.pure rfl (p_convR (t := 3) (by rw [Tryz.underlying3]; simp) Tryz.underlying23 rfl (cvU64 m.view)) ?_; refine GL.pure rfl (p_fieldAddr fo_42_5 rfl) ?_; refine GL.step rfl (t_mem rfl (m_load (i := 1) rfl rfl ag_3 rfl)) ?_
 refine GL.pure rfl (p_convR (t := 3) (by rw [Tryz.underlying3]; simp) Tryz.underlying23 rfl (cvU64 m.num)) ?_; refine GL.pure rfl (p_fieldAddr fo_42_6 rfl) ?_; refine GL.step rfl (t_mem rfl (m_load (i := 1) rfl rfl ag_3 rfl)) ?_
 refine GL.pure rfl (p_convR (t := 3) (by rw [Tryz.underlying3]; simp) Tryz.underlying23 rfl (cvU64 m.commit)) ?_; refine GL.pure rfl (p_fieldAddr fo_42_7 rfl) ?_; refine GL.step rfl (t_mem rfl (m_load (i := 1) rfl rfl ag_3 rfl)) ?_
 refine GL.pure rfl (p_convR (t := 3) (by rw [Tryz.underlying3]; simp) Tryz.underlying23 rfl (cvU64 m.normal)) ?_; refine GL.pure rfl (p_fieldAddr fo_42_8 rfl) ?_; refine GL.step rfl (t_mem rfl (m_load (i := 1) rfl rfl ag_23 rfl)) ?_
 refine GL.reval 42 rfl (congrArg (Value.int .u64) (u64_eq hn.1 hn.2)) ?_; refine GL.pure rfl (p_fieldAddr fo_42_9 rfl) ?_; refine GL.step rfl (t_mem rfl (m_load (i := 1) rfl rfl ag_3 rfl)) ?_; refine GL.pure rfl (p_convR (t := 3) (by rw [Tryz.underlying3]; simp) Tryz.underlying23 rfl (cvU64 m.client)) ?_
 refine GL.pure rfl (p_fieldAddr fo_42_10 rfl) ?_; refine GL.step rfl (t_mem rfl (m_load (i := 1) rfl rfl ag_3 rfl)) ?_; refine GL.pure rfl (p_convR (t := 3) (by rw [Tryz.underlying3]; simp) Tryz.underlying23 rfl (cvU64 m.serial)) ?_
 refine GL.step rfl (t_buildSlice rfl Tryz.underlying126 sz_23 ze_23 rfl rfl rfl rfl rfl rfl) (GL.ex fun b_t49 => ?_); refine GL.freezeC (enc := u8v) (xs := [byI m.kind]) (h1 := fun _ => rfl) (i := 1) rfl ?_; refine GL.freezeC (enc := uv) (xs := [u64 m.src, u64 m.dst, u64 m.epoch, u64 m.view, u64 m.num, u64 m.commit, u64 m.normal, u64 m.nonce, u64 m.client, u64 m.serial]) (h1 := fun _ => rfl) (i := 0) rfl ?_
 refine GL.step rfl (t_call rfl fn_76 rfl (is := []) (js := [1, 0]) rfl rfl (by exact putall_ct _ [byI m.kind] _ 8 _ [u64 m.src, u64 m.dst, u64 m.epoch, u64 m.view, u64 m.num, u64 m.commit, u64 m.normal, u64 m.nonce, u64 m.client, u64 m.serial] _ (by omega) (by omega) (by simp) (by rw [p256_8]; intro x hx; simp only [List.mem_cons, List.not_mem_nil, or_false] at hx; rcases hx with rfl | rfl | rfl | rfl | rfl | rfl | rfl | rfl | rfl | rfl <;> exact u64_lt _))) (GL.ret ?_)
 rintro _ _ _ ⟨A50, cp50, l50, k50, rfl, rfl, rfl⟩
 refine GL.mv_ rfl rfl ?_
 iterate 2 refine GL.pure rfl (p_extract rfl rfl) ?_
 iterate 2 refine GL.as_ rfl rfl ?_
 refine GL.nl_ ?_; refine GC.sr_ ?_
 iterate 2 refine GL.mv_ rfl rfl ?_
 refine GL.reval 54 rfl (congrArg (Value.int .u8) (byI_eq hpn.1 hpn.2)) ?_; refine GL.step rfl (t_buildSlice rfl Tryz.underlying25 sz_5 ze_5 rfl rfl rfl rfl rfl rfl) (GL.ex fun b_t55 => ?_); refine GL.step rfl (t_append (i := 1) (k := 0) rfl el_25 rfl rfl rfl rfl rfl (allOne_mem rfl) (by (try simp only [List.length_append, List.length_cons, List.length_nil, List.length_map, List.length_take, flZ_length, flI_length, leN_length]); first | omega | (have := opB_len (hr.op (by assumption)); omega) | (have := resB_len (hr.res (by assumption)); omega) | (have := grp_rng (hr.grp (by assumption)); omega) | (have := sttB_len (hr.stt (by assumption)); omega) | (have := log_len hr k; have := entB_len (hr.log _ (gt_elem (l := m.log) (k := k) (by omega))); have : k * 400000 ≤ 100000 * 400000 := Nat.mul_le_mul_right _ (by omega); omega)) (fun _ => rfl)) (GL.ex fun v56 => ?_)
 refine GL.rowIs (i := 1) (m' := ((hdB m)).length) (cs' := ((hdB m)).map u8v) rfl (by first | (simp only [List.length_append, List.length_cons, List.length_nil, List.append_assoc]; done) | (simp only [List.length_append, List.length_cons, List.length_nil, List.append_assoc]; omega) | (simp [leN_length, flI_length, hdB]; done) | (simp [leN_length, flI_length, hdB]; omega) | rfl) (by first | (simp only [List.map_append, List.map_cons, List.map_nil, List.append_assoc]; done) | (simp [leN_length, flI_length, hdB]; done) | rfl) rfl ?_
 refine GL.shape (i := 1) rfl (fun A_pa50 c_pa50 e_pa50 l_pa50 k_pa50 => ?_)
 subst e_pa50
 refine GL.as_ rfl rfl ?_; refine GL.nl_ ?_; refine GC.sr_ ?_; refine GL.as_ rfl rfl ?_; refine GL.nl_ ?_; refine GC.joinK2 (ks := [1, 4]) (is := [0, 2]) (js := [0, 1, 2, 3, 4, 5, 6, 7, 8, 9]) (fun (A1 : Option Addr) (c1 : Nat) => True) (fun (A1 : Option Addr) (c1 : Nat) => [(5, .slice A1 (hdB m ++ pO m).length c1)]) (fun (A1 : Option Addr) (c1 : Nat) => [rowOf A1 c1 (hdB m ++ pO m)]) (fun (A1 : Option Addr) (c1 : Nat) => []) rfl rfl rfl ?_ ?_
 ·refine GC.sr_ ?_; refine GL.mv_ rfl rfl ?_; refine GL.pure rfl (p_andR rfl rfl (and_b1 _ _ _ _)) ?_; refine GL.pure rfl (p_neq rfl rfl) ?_; refine GL.nl_ ?_; refine GC.cond rfl (fun h1 => ?_) (fun h1 => ?_)
  ·try simp only [tst_, bi1, bi2, bi4, bi8] at h1
   refine GC.sr_ ?_; refine GL.pure rfl (p_fieldAddr fo_42_11 rfl) ?_; refine GL.step rfl (t_mem rfl (m_loadN (i := 2) rfl rfl ag_27 (vs := [_, _, _, _, _]) sz_27 ⟨rfl, rfl, rfl, rfl, rfl, trivial⟩)) ?_; refine GL.step rfl (t_call rfl fn_77 rfl (is := []) (js := [2, 3]) rfl rfl (by exact encop_ct m.op _ _ _ _ (hr.op (by assumption)))) (GL.ret ?_)
   rintro _ _ _ ⟨A63, cp63, l63, k63, rfl, rfl, rfl⟩
   refine GL.mv_ rfl rfl ?_
   iterate 2 refine GL.pure rfl (p_extract rfl rfl) ?_
   refine GL.as_ rfl rfl ?_; refine GL.nl_ ?_; refine GC.region ?_
   iterate 2 refine GL.mv_ rfl rfl ?_
   refine GL.freezeB (i := 0) rfl ?_; refine GL.step rfl (t_appendS (i := 1) (k := 0) rfl el_25 rfl rfl rfl rfl (by (try simp only [List.length_append, List.length_cons, List.length_nil, List.length_map, List.length_take, flZ_length, flI_length, leN_length]); first | omega | (have := opB_len (hr.op (by assumption)); omega) | (have := resB_len (hr.res (by assumption)); omega) | (have := grp_rng (hr.grp (by assumption)); omega) | (have := sttB_len (hr.stt (by assumption)); omega) | (have := log_len hr k; have := entB_len (hr.log _ (gt_elem (l := m.log) (k := k) (by omega))); have : k * 400000 ≤ 100000 * 400000 := Nat.mul_le_mul_right _ (by omega); omega)) (fun _ => rfl)) (GL.ex fun v68 => ?_)
   refine GL.rowIs (i := 1) (m' := ((hdB m ++ opB m.op)).length) (cs' := ((hdB m ++ opB m.op)).map u8v) rfl (by first | (simp only [List.length_append, List.length_cons, List.length_nil, List.append_assoc]; done) | (simp only [List.length_append, List.length_cons, List.length_nil, List.append_assoc]; omega) | (simp [leN_length, flI_length, hdB]; done) | (simp [leN_length, flI_length, hdB]; omega) | rfl) (by first | (simp only [List.map_append, List.map_cons, List.map_nil, List.append_assoc]; done) | (simp [leN_length, flI_length, hdB]; done) | rfl) rfl ?_
   refine GL.shape (i := 1) rfl (fun A_pa50 c_pa50 e_pa50 l_pa50 k_pa50 => ?_)
   subst e_pa50
   refine GL.as_ rfl rfl ?_; refine GL.nil ?_
   exact fun a w h => ⟨(A_pa50), (c_pa50), trivial, by rw [show pO m = opB m.op from if_neg (by assumption)]; exact h.cut (is := [1, 0, 0]) (js := [1, 2, 3, 4, 5, 6, 7, 8, 9, 10]) ⟨rfl, rfl, rfl, trivial⟩ rfl rfl⟩
  ·try simp only [tst_, bi1, bi2, bi4, bi8] at h1
   refine GC.skip ?_
   exact fun a w h => ⟨(A_pa50), (c_pa50), trivial, by rw [show pO m = [] from if_pos (by assumption), List.append_nil]; exact h.cut (is := [1, 0, 0]) (js := [0, 1, 2, 3, 4, 5, 6, 7, 8, 9]) ⟨rfl, rfl, rfl, trivial⟩ rfl rfl⟩
 ·intro A1 c1 hj5
  try dsimp only [List.cons_append, List.nil_append] at hj5 ⊢
  refine GC.joinK2 (ks := [1, 4]) (is := [1, 2]) (js := [0, 1, 2, 3, 4, 5, 6, 7, 8, 9]) (fun (A1 : Option Addr) (c1 : Nat) => True) (fun (A1 : Option Addr) (c1 : Nat) => [(5, .slice A1 (hdB m ++ pO m ++ pR m).length c1)]) (fun (A1 : Option Addr) (c1 : Nat) => [rowOf A1 c1 (hdB m ++ pO m ++ pR m)]) (fun (A1 : Option Addr) (c1 : Nat) => []) rfl rfl rfl ?_ ?_
  ·refine GC.sr_ ?_; refine GL.mv_ rfl rfl ?_; refine GL.pure rfl (p_andR rfl rfl (and_b2 _ _ _ _)) ?_; refine GL.pure rfl (p_neq rfl rfl) ?_; refine GL.nl_ ?_; refine GC.cond rfl (fun h2 => ?_) (fun h2 => ?_)
   ·try simp only [tst_, bi1, bi2, bi4, bi8] at h2
    refine GC.sr_ ?_; refine GL.pure rfl (p_fieldAddr fo_42_12 rfl) ?_; refine GL.step rfl (t_mem rfl (m_loadN (i := 2) rfl rfl ag_30 (vs := [_, _]) sz_30 ⟨rfl, rfl, trivial⟩)) ?_; refine GL.step rfl (t_call rfl fn_78 rfl (is := []) (js := [4]) rfl rfl (by exact encres_ct m.res _ _ (hr.res (by assumption)))) (GL.ret ?_)
    rintro _ _ _ ⟨A75, cp75, l75, k75, rfl, rfl, rfl⟩
    refine GL.mv_ rfl rfl ?_
    iterate 2 refine GL.pure rfl (p_extract rfl rfl) ?_
    refine GL.as_ rfl rfl ?_; refine GL.nl_ ?_; refine GC.region ?_
    iterate 2 refine GL.mv_ rfl rfl ?_
    refine GL.freezeB (i := 0) rfl ?_; refine GL.step rfl (t_appendS (i := 0) (k := 0) rfl el_25 rfl rfl rfl rfl (by (try simp only [List.length_append, List.length_cons, List.length_nil, List.length_map, List.length_take, flZ_length, flI_length, leN_length]); first | omega | (have := opB_len (hr.op (by assumption)); omega) | (have := resB_len (hr.res (by assumption)); omega) | (have := grp_rng (hr.grp (by assumption)); omega) | (have := sttB_len (hr.stt (by assumption)); omega) | (have := log_len hr k; have := entB_len (hr.log _ (gt_elem (l := m.log) (k := k) (by omega))); have : k * 400000 ≤ 100000 * 400000 := Nat.mul_le_mul_right _ (by omega); omega)) (fun _ => rfl)) (GL.ex fun v80 => ?_)
    refine GL.rowIs (i := 0) (m' := ((hdB m ++ pO m ++ resB m.res)).length) (cs' := ((hdB m ++ pO m ++ resB m.res)).map u8v) rfl (by first | (simp only [List.length_append, List.length_cons, List.length_nil, List.append_assoc]; done) | (simp only [List.length_append, List.length_cons, List.length_nil, List.append_assoc]; omega) | (simp [leN_length, flI_length, hdB]; done) | (simp [leN_length, flI_length, hdB]; omega) | rfl) (by first | (simp only [List.map_append, List.map_cons, List.map_nil, List.append_assoc]; done) | (simp [leN_length, flI_length, hdB]; done) | rfl) rfl ?_
    refine GL.shape (i := 0) rfl (fun A_b c_b e_b l_b k_b => ?_)
    subst e_b
    refine GL.as_ rfl rfl ?_; refine GL.nil ?_
    exact fun a w h => ⟨(A_b), (c_b), trivial, by rw [show pR m = resB m.res from if_neg (by assumption)]; exact h.cut (is := [0, 0, 0]) (js := [1, 2, 3, 4, 5, 6, 7, 8, 9, 10]) ⟨rfl, rfl, rfl, trivial⟩ rfl rfl⟩
   ·try simp only [tst_, bi1, bi2, bi4, bi8] at h2
    refine GC.skip ?_
    exact fun a w h => ⟨(_), (_), trivial, by rw [show pR m = [] from if_pos (by assumption), List.append_nil]; exact h.cut (is := [0, 0, 0]) (js := [0, 1, 2, 3, 4, 5, 6, 7, 8, 9]) ⟨rfl, rfl, rfl, trivial⟩ rfl rfl⟩
  ·intro A1 c1 hj8
   try dsimp only [List.cons_append, List.nil_append] at hj8 ⊢
   refine GC.joinK2 (ks := [1, 4]) (is := [1, 2]) (js := [0, 1, 2, 3, 4, 5, 6, 7, 8, 9]) (fun (A1 : Option Addr) (c1 : Nat) => True) (fun (A1 : Option Addr) (c1 : Nat) => [(5, .slice A1 (hdB m ++ pO m ++ pR m ++ pG m).length c1)]) (fun (A1 : Option Addr) (c1 : Nat) => [rowOf A1 c1 (hdB m ++ pO m ++ pR m ++ pG m)]) (fun (A1 : Option Addr) (c1 : Nat) => []) rfl rfl rfl ?_ ?_
   ·refine GC.sr_ ?_; refine GL.mv_ rfl rfl ?_; refine GL.pure rfl (p_andR rfl rfl (and_b4 _ _ _ _)) ?_; refine GL.pure rfl (p_neq rfl rfl) ?_; refine GL.nl_ ?_; refine GC.cond rfl (fun h3 => ?_) (fun h3 => ?_)
    ·try simp only [tst_, bi1, bi2, bi4, bi8] at h3
     refine GC.seq' ?_
     have gr := grp_rng (hr.grp (by assumption))
     refine GC.region ?_; refine GL.pure rfl (p_fieldAddr fo_42_13 rfl) ?_; refine GL.pure rfl (p_fieldAddr fo_33_0 rfl) ?_; refine GL.step rfl (t_mem rfl (m_load (i := 2) rfl rfl ag_3 rfl)) ?_; refine GL.pure rfl (p_convR (t := 3) (by rw [Tryz.underlying3]; simp) Tryz.underlying23 rfl (cvU64 m.grp.epoch)) ?_
     refine GL.step rfl (t_buildSlice rfl Tryz.underlying126 sz_23 ze_23 rfl rfl rfl rfl rfl rfl) (GL.ex fun b_t89 => ?_); refine GL.freezeC (enc := uv) (xs := [u64 m.grp.epoch]) (h1 := fun _ => rfl) (i := 0) rfl ?_; refine GL.step rfl (t_call rfl fn_76 rfl (is := []) (js := [0]) rfl rfl (by exact putall_nil 8 _ [u64 m.grp.epoch] _ (by omega) (by omega) (by simp) (by rw [p256_8]; intro x hx; simp at hx; subst hx; exact u64_lt _))) (GL.ret ?_)
     rintro _ _ _ ⟨A90, cp90, l90, k90, rfl, rfl, rfl⟩
     refine GL.mv_ rfl rfl ?_
     iterate 2 refine GL.pure rfl (p_extract rfl rfl) ?_
     refine GL.as_ rfl rfl ?_
     refine GL.nil (?_ : GC _ _ _ _)
     refine GC.seq' ?_; refine GC.freezeB (i := 0) rfl ?_; refine GC.regionC (m := 11) (is := [1, 1]) (js := [0, 1, 2, 3, 4, 5, 6, 7, 8, 9, 10, 11]) wide_ rfl rfl rfl ?_; refine GA.take 0 rfl (by kernel_rfl) (by kernel_rfl) (by kernel_rfl) rfl (fun a w h => h.mem (is := [1, 1]) (js := [0, 1, 2, 3, 4, 5, 6, 7, 8, 9, 10, 11]) rfl rfl) (i_pure (p_move rfl)) ?_
     refine GA.take 1 rfl (by kernel_rfl) (by kernel_rfl) (by kernel_rfl) rfl (fun a w h => h.mem (is := [1, 1]) (js := [0, 1, 2, 3, 4, 5, 6, 7, 8, 9, 10, 11]) rfl rfl) (i_pure (p_move rfl)) ?_; refine GA.take 3 rfl (by kernel_rfl) (by kernel_rfl) (by kernel_rfl) rfl (fun a w h => h.mem (is := [1, 1]) (js := [0, 1, 2, 3, 4, 5, 6, 7, 8, 9, 10, 11]) rfl rfl) (i_pure (p_fieldAddr fo_42_13 rfl)) ?_
     refine GA.take 4 rfl (by kernel_rfl) (by kernel_rfl) (by kernel_rfl) rfl (fun a w h => h.mem (is := [1, 1]) (js := [0, 1, 2, 3, 4, 5, 6, 7, 8, 9, 10, 11]) rfl rfl) (i_pure (p_fieldAddr fo_33_1 rfl)) ?_; refine GA.take 5 rfl (by kernel_rfl) (by kernel_rfl) (by kernel_rfl) rfl (fun a w h => h.mem (is := [1, 1]) (js := [0, 1, 2, 3, 4, 5, 6, 7, 8, 9, 10, 11]) rfl rfl) (i_mem (m_load (i := 1) rfl rfl ag_31 rfl)) ?_
     refine GA.take 6 rfl (by kernel_rfl) (by kernel_rfl) (by kernel_rfl) rfl (fun a w h => h.mem (is := [1, 1]) (js := [0, 1, 2, 3, 4, 5, 6, 7, 8, 9, 10, 11]) rfl rfl) (i_pure (p_len Tryz.underlying31 rfl)) ?_; refine GA.take 7 rfl (by kernel_rfl) (by kernel_rfl) (by kernel_rfl) rfl (fun a w h => h.mem (is := [1, 1]) (js := [0, 1, 2, 3, 4, 5, 6, 7, 8, 9, 10, 11]) rfl rfl) (i_pure (p_convR (t := 3) (r := (((byI (m.grp.members.length : Int)).toNat : Nat) : Int)) (by rw [Tryz.underlying3]; simp) Tryz.underlying5 rfl (cv8 (by omega) (by omega)))) ?_
     refine GA.all (rs := [2, 8]) (by kernel_rfl) (by simp) ?_
     refine GAs.cons (i := 2) rfl rfl (t_appendS (i := 0) (k := 0) rfl el_25 rfl rfl rfl rfl (by (try simp only [List.length_append, List.length_cons, List.length_nil, List.length_map, List.length_take, flZ_length, flI_length, leN_length]); first | omega | (have := opB_len (hr.op (by assumption)); omega) | (have := resB_len (hr.res (by assumption)); omega) | (have := grp_rng (hr.grp (by assumption)); omega) | (have := sttB_len (hr.stt (by assumption)); omega) | (have := log_len hr k; have := entB_len (hr.log _ (gt_elem (l := m.log) (k := k) (by omega))); have : k * 400000 ≤ 100000 * 400000 := Nat.mul_le_mul_right _ (by omega); omega)) (fun _ => rfl)) (by rintro a w ⟨_, h⟩; exact h.mem (is := [1, 1]) (js := [0, 1, 2, 3, 4, 5, 6, 7, 8, 9, 10, 11]) rfl rfl) (GA.ex fun v95 => ?_) ?_
     ·refine GA.all (rs := [8]) (by kernel_rfl) (by simp) ?_
      refine GAs.cons (i := 8) rfl rfl (t_buildSlice rfl Tryz.underlying25 sz_5 ze_5 rfl rfl rfl rfl rfl rfl) (by rintro a w ⟨_, h⟩; exact h.mem (is := [2, 2]) (js := [0, 1, 2, 3, 4, 5, 6, 7, 8, 9, 10, 11]) rfl rfl) (GA.ex fun b_t101 => ?_) ?_
      ·refine GA.all (rs := [9]) (by kernel_rfl) (by simp) ?_
       refine GAs.cons (i := 9) rfl rfl (t_append (i := 1) (k := 0) rfl el_25 rfl rfl rfl rfl rfl (allOne_mem rfl) (by (try simp only [List.length_append, List.length_cons, List.length_nil, List.length_map, List.length_take, flZ_length, flI_length, leN_length]); first | omega | (have := opB_len (hr.op (by assumption)); omega) | (have := resB_len (hr.res (by assumption)); omega) | (have := grp_rng (hr.grp (by assumption)); omega) | (have := sttB_len (hr.stt (by assumption)); omega) | (have := log_len hr k; have := entB_len (hr.log _ (gt_elem (l := m.log) (k := k) (by omega))); have : k * 400000 ≤ 100000 * 400000 := Nat.mul_le_mul_right _ (by omega); omega)) (fun _ => rfl)) (by rintro a w ⟨_, h⟩; exact h.mem (is := [2, 2]) (js := [0, 1, 2, 3, 4, 5, 6, 7, 8, 9, 10, 11]) rfl rfl) (GA.ex fun v102 => ?_) ?_
       ·refine GA.take 10 rfl (by kernel_rfl) (by kernel_rfl) (by kernel_rfl) rfl (fun a w h => h.mem (is := [2, 2]) (js := [0, 1, 2, 3, 4, 5, 6, 7, 8, 9, 10, 11]) rfl rfl) (i_pure (p_assign rfl)) ?_; refine GA.rowIs (i := 1) (m' := ((hdB m ++ pO m ++ pR m ++ flI 8 [u64 m.grp.epoch] ++ [byI (m.grp.members.length : Int)])).length) (cs' := ((hdB m ++ pO m ++ pR m ++ flI 8 [u64 m.grp.epoch] ++ [byI (m.grp.members.length : Int)])).map u8v) rfl (by first | (simp only [List.length_append, List.length_cons, List.length_nil, List.append_assoc]; done) | (simp only [List.length_append, List.length_cons, List.length_nil, List.append_assoc]; omega) | (simp [leN_length, flI_length, hdB]; done) | (simp [leN_length, flI_length, hdB]; omega) | rfl) (by first | (simp only [List.map_append, List.map_cons, List.map_nil, List.append_assoc]; done) | (simp [leN_length, flI_length, hdB]; done) | rfl) rfl ?_
        refine GA.shape (i := 1) rfl (fun A_b c_b e_b l_b k_b => ?_)
        subst e_b
        refine GA.done (by kernel_rfl) (?_ : GC _ _ _ _)
        refine GC.sr_ ?_; refine GL.pure rfl (p_fieldAddr fo_42_13 rfl) ?_; refine GL.pure rfl (p_fieldAddr fo_33_1 rfl) ?_; refine GL.step rfl (t_mem rfl (m_load (i := 3) rfl rfl ag_31 rfl)) ?_; refine GL.pure rfl (p_len Tryz.underlying31 rfl) ?_
        refine GL.mv_ rfl rfl ?_; refine GL.nl_ ?_; refine GC.block ?_; refine GC.loopK3 (ks := [1, 4, 105, 106]) (is := [0, 2, 3]) (js := [0, 1, 2, 3, 4, 5, 6, 7, 8, 9, 10, 11]) (fun (k : Nat) (A1 : Option Addr) (c1 : Nat) => k ≤ m.grp.members.length) (fun (k : Nat) (A1 : Option Addr) (c1 : Nat) => [(5, .slice A1 (hdB m ++ pO m ++ pR m ++ flI 8 [u64 m.grp.epoch] ++ [byI (m.grp.members.length : Int)] ++ (m.grp.members.take k).map byI).length c1), (107, .int .i64 (k : Int))]) (fun (k : Nat) (A1 : Option Addr) (c1 : Nat) => [rowOf A1 c1 (hdB m ++ pO m ++ pR m ++ flI 8 [u64 m.grp.epoch] ++ [byI (m.grp.members.length : Int)] ++ (m.grp.members.take k).map byI)]) (fun (k : Nat) (A1 : Option Addr) (c1 : Nat) => []) (fun (k : Nat) (A1 : Option Addr) (c1 : Nat) => m.grp.members.length - k) (0) (_) (_) rfl rfl rfl (fun a w h => ⟨by omega, by simp only [List.take_zero, List.map_nil, List.append_nil]; exact h.cutK (is := [1, 0, 0, 0]) (js := [0, 1, 2, 3, 4, 5, 6, 7, 8, 9, 10, 11]) (ks := [1, 4, 105, 106]) ⟨rfl, rfl, trivial⟩ rfl rfl rfl⟩) ?_
        intro k A1 c1 hk
        try dsimp only [List.cons_append, List.nil_append] at hk ⊢
        refine GC.sr_ ?_; refine GL.pure rfl (p_lss rfl rfl) ?_; refine GL.nl_ ?_; refine GC.seq' ?_; refine GC.cond rfl (fun h4 => ?_) (fun h4 => ?_)
        ·try simp only [tst_, bi1, bi2, bi4, bi8] at h4
         refine GC.skip (?_ : GC _ _ _ _)
         refine GC.seq' ?_; refine GC.block ?_; refine GC.sr_ ?_; refine GL.step rfl (t_index (i := 7) rfl rfl rfl rfl Tryz.underlying31 sz_3 (by omega) (gt_ok (by omega) (by omega))) (GL.ex fun p_x109 => GL.ex fun r_x109 => GL.and fun ok_x109 => ?_)
         rcases r_x109 with _
         refine GL.step rfl (t_mem rfl (m_loadP (i := 0) rfl rfl ag_3 rfl)) ?_; refine GL.as_ rfl rfl ?_; refine GL.nl_ ?_; refine GC.region ?_
         iterate 2 refine GL.mv_ rfl rfl ?_
         refine GL.pure rfl (p_convR (t := 3) (r := (((byI (gt m.grp.members (k : Int))).toNat : Nat) : Int)) (by rw [Tryz.underlying3]; simp) Tryz.underlying5 rfl (cv8 (by have := (grp_rng (hr.grp (by assumption))).1 _ (gt_elem (l := m.grp.members) (k := k) (by omega)); omega) (by have := (grp_rng (hr.grp (by assumption))).1 _ (gt_elem (l := m.grp.members) (k := k) (by omega)); omega))) ?_
         refine GL.step rfl (t_buildSlice rfl Tryz.underlying25 sz_5 ze_5 rfl rfl rfl rfl rfl rfl) (GL.ex fun b_t114 => ?_); refine GL.step rfl (t_append (i := 1) (k := 0) rfl el_25 rfl rfl rfl rfl rfl (allOne_mem rfl) (by (try simp only [List.length_append, List.length_cons, List.length_nil, List.length_map, List.length_take, flZ_length, flI_length, leN_length]); first | omega | (have := opB_len (hr.op (by assumption)); omega) | (have := resB_len (hr.res (by assumption)); omega) | (have := grp_rng (hr.grp (by assumption)); omega) | (have := sttB_len (hr.stt (by assumption)); omega) | (have := log_len hr k; have := entB_len (hr.log _ (gt_elem (l := m.log) (k := k) (by omega))); have : k * 400000 ≤ 100000 * 400000 := Nat.mul_le_mul_right _ (by omega); omega)) (fun _ => rfl)) (GL.ex fun v115 => ?_)
         refine GL.rowIs (i := 1) (m' := ((hdB m ++ pO m ++ pR m ++ flI 8 [u64 m.grp.epoch] ++ [byI (m.grp.members.length : Int)] ++ (m.grp.members.take k).map byI ++ [byI (gt m.grp.members (k : Int))])).length) (cs' := ((hdB m ++ pO m ++ pR m ++ flI 8 [u64 m.grp.epoch] ++ [byI (m.grp.members.length : Int)] ++ (m.grp.members.take k).map byI ++ [byI (gt m.grp.members (k : Int))])).map u8v) rfl (by first | (simp only [List.length_append, List.length_cons, List.length_nil, List.append_assoc]; done) | (simp only [List.length_append, List.length_cons, List.length_nil, List.append_assoc]; omega) | (simp [leN_length, flI_length, hdB]; done) | (simp [leN_length, flI_length, hdB]; omega) | rfl) (by first | (simp only [List.map_append, List.map_cons, List.map_nil, List.append_assoc]; done) | (simp [leN_length, flI_length, hdB]; done) | rfl) rfl ?_
         refine GL.shape (i := 1) rfl (fun A_b c_b e_b l_b k_b => ?_)
         subst e_b
         refine GL.as_ rfl rfl ?_
         refine GL.nil (?_ : GC _ _ _ _)
         refine GC.region ?_; refine GL.pure rfl (p_add rfl rfl (w64 (by omega) (by omega))) ?_; refine GL.mv_ rfl rfl ?_; refine GL.nil ?_
         exact fun a w h => ⟨(k + 1), (A_b), (c_b), (by omega), by omega, by rw [take_gt (by omega), List.map_append, ← List.append_assoc]; exact h.cut (is := [1, 1, 1, 1]) (js := [1, 2, 3, 4, 5, 6, 7, 8, 9, 10, 11, 12]) ⟨rfl, rfl, rfl, rfl, rfl, rfl, trivial⟩ rfl rfl⟩
        ·try simp only [tst_, bi1, bi2, bi4, bi8] at h4
         refine GC.exit ?_
         obtain rfl : k = m.grp.members.length := by omega
         exact fun a w h => ⟨(_), (_), trivial, by rw [show pG m = flI 8 [u64 m.grp.epoch] ++ [byI (m.grp.members.length : Int)] ++ (m.grp.members.take m.grp.members.length).map byI from by rw [pG, if_neg (by assumption), grpB, flZ1 [_] (by intro x hx; simp at hx; omega), flZ1 _ (fun x hx => by have := gr.1 x hx; omega), flI_flZ (by omega) (by omega), List.take_length]; rfl]; simp only [← List.append_assoc]; exact h.cut (is := [0, 1, 1]) (js := [2, 3, 4, 5, 6, 7, 8, 9, 10, 11]) ⟨rfl, rfl, rfl, trivial⟩ rfl rfl⟩
       exact GAs.nil
      exact GAs.nil
     refine GAs.cons (i := 8) rfl rfl (t_buildSlice rfl Tryz.underlying25 sz_5 ze_5 rfl rfl rfl rfl rfl rfl) (by rintro a w ⟨_, h⟩; exact h.mem (is := [2, 2]) (js := [0, 1, 2, 3, 4, 5, 6, 7, 8, 9, 10, 11]) rfl rfl) (GA.ex fun b_t101 => ?_) ?_
     ·refine GA.all (rs := [2]) (by kernel_rfl) (by simp) ?_
      refine GAs.cons (i := 2) rfl rfl (t_appendS (i := 1) (k := 0) rfl el_25 rfl rfl rfl rfl (by (try simp only [List.length_append, List.length_cons, List.length_nil, List.length_map, List.length_take, flZ_length, flI_length, leN_length]); first | omega | (have := opB_len (hr.op (by assumption)); omega) | (have := resB_len (hr.res (by assumption)); omega) | (have := grp_rng (hr.grp (by assumption)); omega) | (have := sttB_len (hr.stt (by assumption)); omega) | (have := log_len hr k; have := entB_len (hr.log _ (gt_elem (l := m.log) (k := k) (by omega))); have : k * 400000 ≤ 100000 * 400000 := Nat.mul_le_mul_right _ (by omega); omega)) (fun _ => rfl)) (by rintro a w ⟨_, h⟩; exact h.mem (is := [2, 2]) (js := [0, 1, 2, 3, 4, 5, 6, 7, 8, 9, 10, 11]) rfl rfl) (GA.ex fun v95 => ?_) ?_
      ·refine GA.all (rs := [9]) (by kernel_rfl) (by simp) ?_
       refine GAs.cons (i := 9) rfl rfl (t_append (i := 1) (k := 0) rfl el_25 rfl rfl rfl rfl rfl (allOne_mem rfl) (by (try simp only [List.length_append, List.length_cons, List.length_nil, List.length_map, List.length_take, flZ_length, flI_length, leN_length]); first | omega | (have := opB_len (hr.op (by assumption)); omega) | (have := resB_len (hr.res (by assumption)); omega) | (have := grp_rng (hr.grp (by assumption)); omega) | (have := sttB_len (hr.stt (by assumption)); omega) | (have := log_len hr k; have := entB_len (hr.log _ (gt_elem (l := m.log) (k := k) (by omega))); have : k * 400000 ≤ 100000 * 400000 := Nat.mul_le_mul_right _ (by omega); omega)) (fun _ => rfl)) (by rintro a w ⟨_, h⟩; exact h.mem (is := [2, 2]) (js := [0, 1, 2, 3, 4, 5, 6, 7, 8, 9, 10, 11]) rfl rfl) (GA.ex fun v102 => ?_) ?_
       ·refine GA.take 10 rfl (by kernel_rfl) (by kernel_rfl) (by kernel_rfl) rfl (fun a w h => h.mem (is := [2, 2]) (js := [0, 1, 2, 3, 4, 5, 6, 7, 8, 9, 10, 11]) rfl rfl) (i_pure (p_assign rfl)) ?_; refine GA.rowIs (i := 1) (m' := ((hdB m ++ pO m ++ pR m ++ flI 8 [u64 m.grp.epoch] ++ [byI (m.grp.members.length : Int)])).length) (cs' := ((hdB m ++ pO m ++ pR m ++ flI 8 [u64 m.grp.epoch] ++ [byI (m.grp.members.length : Int)])).map u8v) rfl (by first | (simp only [List.length_append, List.length_cons, List.length_nil, List.append_assoc]; done) | (simp only [List.length_append, List.length_cons, List.length_nil, List.append_assoc]; omega) | (simp [leN_length, flI_length, hdB]; done) | (simp [leN_length, flI_length, hdB]; omega) | rfl) (by first | (simp only [List.map_append, List.map_cons, List.map_nil, List.append_assoc]; done) | (simp [leN_length, flI_length, hdB]; done) | rfl) rfl ?_
        refine GA.shape (i := 1) rfl (fun A_b c_b e_b l_b k_b => ?_)
        subst e_b
        refine GA.done (by kernel_rfl) (?_ : GC _ _ _ _)
        refine GC.sr_ ?_; refine GL.pure rfl (p_fieldAddr fo_42_13 rfl) ?_; refine GL.pure rfl (p_fieldAddr fo_33_1 rfl) ?_; refine GL.step rfl (t_mem rfl (m_load (i := 3) rfl rfl ag_31 rfl)) ?_; refine GL.pure rfl (p_len Tryz.underlying31 rfl) ?_
        refine GL.mv_ rfl rfl ?_; refine GL.nl_ ?_; refine GC.block ?_; refine GC.loopK3 (ks := [1, 4, 105, 106]) (is := [0, 2, 3]) (js := [0, 1, 2, 3, 4, 5, 6, 7, 8, 9, 10, 11]) (fun (k : Nat) (A1 : Option Addr) (c1 : Nat) => k ≤ m.grp.members.length) (fun (k : Nat) (A1 : Option Addr) (c1 : Nat) => [(5, .slice A1 (hdB m ++ pO m ++ pR m ++ flI 8 [u64 m.grp.epoch] ++ [byI (m.grp.members.length : Int)] ++ (m.grp.members.take k).map byI).length c1), (107, .int .i64 (k : Int))]) (fun (k : Nat) (A1 : Option Addr) (c1 : Nat) => [rowOf A1 c1 (hdB m ++ pO m ++ pR m ++ flI 8 [u64 m.grp.epoch] ++ [byI (m.grp.members.length : Int)] ++ (m.grp.members.take k).map byI)]) (fun (k : Nat) (A1 : Option Addr) (c1 : Nat) => []) (fun (k : Nat) (A1 : Option Addr) (c1 : Nat) => m.grp.members.length - k) (0) (_) (_) rfl rfl rfl (fun a w h => ⟨by omega, by simp only [List.take_zero, List.map_nil, List.append_nil]; exact h.cutK (is := [1, 0, 0, 0]) (js := [0, 1, 2, 3, 4, 5, 6, 7, 8, 9, 10, 11]) (ks := [1, 4, 105, 106]) ⟨rfl, rfl, trivial⟩ rfl rfl rfl⟩) ?_
        intro k A1 c1 hk
        try dsimp only [List.cons_append, List.nil_append] at hk ⊢
        refine GC.sr_ ?_; refine GL.pure rfl (p_lss rfl rfl) ?_; refine GL.nl_ ?_; refine GC.seq' ?_; refine GC.cond rfl (fun h4 => ?_) (fun h4 => ?_)
        ·try simp only [tst_, bi1, bi2, bi4, bi8] at h4
         refine GC.skip (?_ : GC _ _ _ _)
         refine GC.seq' ?_; refine GC.block ?_; refine GC.sr_ ?_; refine GL.step rfl (t_index (i := 7) rfl rfl rfl rfl Tryz.underlying31 sz_3 (by omega) (gt_ok (by omega) (by omega))) (GL.ex fun p_x109 => GL.ex fun r_x109 => GL.and fun ok_x109 => ?_)
         rcases r_x109 with _
         refine GL.step rfl (t_mem rfl (m_loadP (i := 0) rfl rfl ag_3 rfl)) ?_; refine GL.as_ rfl rfl ?_; refine GL.nl_ ?_; refine GC.region ?_
         iterate 2 refine GL.mv_ rfl rfl ?_
         refine GL.pure rfl (p_convR (t := 3) (r := (((byI (gt m.grp.members (k : Int))).toNat : Nat) : Int)) (by rw [Tryz.underlying3]; simp) Tryz.underlying5 rfl (cv8 (by have := (grp_rng (hr.grp (by assumption))).1 _ (gt_elem (l := m.grp.members) (k := k) (by omega)); omega) (by have := (grp_rng (hr.grp (by assumption))).1 _ (gt_elem (l := m.grp.members) (k := k) (by omega)); omega))) ?_
         refine GL.step rfl (t_buildSlice rfl Tryz.underlying25 sz_5 ze_5 rfl rfl rfl rfl rfl rfl) (GL.ex fun b_t114 => ?_); refine GL.step rfl (t_append (i := 1) (k := 0) rfl el_25 rfl rfl rfl rfl rfl (allOne_mem rfl) (by (try simp only [List.length_append, List.length_cons, List.length_nil, List.length_map, List.length_take, flZ_length, flI_length, leN_length]); first | omega | (have := opB_len (hr.op (by assumption)); omega) | (have := resB_len (hr.res (by assumption)); omega) | (have := grp_rng (hr.grp (by assumption)); omega) | (have := sttB_len (hr.stt (by assumption)); omega) | (have := log_len hr k; have := entB_len (hr.log _ (gt_elem (l := m.log) (k := k) (by omega))); have : k * 400000 ≤ 100000 * 400000 := Nat.mul_le_mul_right _ (by omega); omega)) (fun _ => rfl)) (GL.ex fun v115 => ?_)
         refine GL.rowIs (i := 1) (m' := ((hdB m ++ pO m ++ pR m ++ flI 8 [u64 m.grp.epoch] ++ [byI (m.grp.members.length : Int)] ++ (m.grp.members.take k).map byI ++ [byI (gt m.grp.members (k : Int))])).length) (cs' := ((hdB m ++ pO m ++ pR m ++ flI 8 [u64 m.grp.epoch] ++ [byI (m.grp.members.length : Int)] ++ (m.grp.members.take k).map byI ++ [byI (gt m.grp.members (k : Int))])).map u8v) rfl (by first | (simp only [List.length_append, List.length_cons, List.length_nil, List.append_assoc]; done) | (simp only [List.length_append, List.length_cons, List.length_nil, List.append_assoc]; omega) | (simp [leN_length, flI_length, hdB]; done) | (simp [leN_length, flI_length, hdB]; omega) | rfl) (by first | (simp only [List.map_append, List.map_cons, List.map_nil, List.append_assoc]; done) | (simp [leN_length, flI_length, hdB]; done) | rfl) rfl ?_
         refine GL.shape (i := 1) rfl (fun A_b c_b e_b l_b k_b => ?_)
         subst e_b
         refine GL.as_ rfl rfl ?_
         refine GL.nil (?_ : GC _ _ _ _)
         refine GC.region ?_; refine GL.pure rfl (p_add rfl rfl (w64 (by omega) (by omega))) ?_; refine GL.mv_ rfl rfl ?_; refine GL.nil ?_
         exact fun a w h => ⟨(k + 1), (A_b), (c_b), (by omega), by omega, by rw [take_gt (by omega), List.map_append, ← List.append_assoc]; exact h.cut (is := [1, 1, 1, 1]) (js := [1, 2, 3, 4, 5, 6, 7, 8, 9, 10, 11, 12]) ⟨rfl, rfl, rfl, rfl, rfl, rfl, trivial⟩ rfl rfl⟩
        ·try simp only [tst_, bi1, bi2, bi4, bi8] at h4
         refine GC.exit ?_
         obtain rfl : k = m.grp.members.length := by omega
         exact fun a w h => ⟨(_), (_), trivial, by rw [show pG m = flI 8 [u64 m.grp.epoch] ++ [byI (m.grp.members.length : Int)] ++ (m.grp.members.take m.grp.members.length).map byI from by rw [pG, if_neg (by assumption), grpB, flZ1 [_] (by intro x hx; simp at hx; omega), flZ1 _ (fun x hx => by have := gr.1 x hx; omega), flI_flZ (by omega) (by omega), List.take_length]; rfl]; simp only [← List.append_assoc]; exact h.cut (is := [0, 1, 1]) (js := [2, 3, 4, 5, 6, 7, 8, 9, 10, 11]) ⟨rfl, rfl, rfl, trivial⟩ rfl rfl⟩
       exact GAs.nil
      exact GAs.nil
     exact GAs.nil
    ·try simp only [tst_, bi1, bi2, bi4, bi8] at h3
     refine GC.skip ?_
     exact fun a w h => ⟨(_), (_), trivial, by rw [show pG m = [] from if_pos (by assumption), List.append_nil]; exact h.cut (is := [0, 0, 0]) (js := [0, 1, 2, 3, 4, 5, 6, 7, 8, 9]) ⟨rfl, rfl, rfl, trivial⟩ rfl rfl⟩
   ·intro A1 c1 hj11
    try dsimp only [List.cons_append, List.nil_append] at hj11 ⊢
    refine GC.joinK2 (ks := [1]) (is := [1, 2]) (js := [0, 1, 2, 3, 4, 5, 6, 7, 8, 9]) (fun (A1 : Option Addr) (c1 : Nat) => True) (fun (A1 : Option Addr) (c1 : Nat) => [(5, .slice A1 (hdB m ++ pO m ++ pR m ++ pG m ++ pS m).length c1)]) (fun (A1 : Option Addr) (c1 : Nat) => [rowOf A1 c1 (hdB m ++ pO m ++ pR m ++ pG m ++ pS m)]) (fun (A1 : Option Addr) (c1 : Nat) => []) rfl rfl rfl ?_ ?_
    ·refine GC.sr_ ?_; refine GL.mv_ rfl rfl ?_; refine GL.pure rfl (p_andR rfl rfl (and_b8 _ _ _ _)) ?_; refine GL.pure rfl (p_neq rfl rfl) ?_; refine GL.nl_ ?_; refine GC.cond rfl (fun h5 => ?_) (fun h5 => ?_)
     ·try simp only [tst_, bi1, bi2, bi4, bi8] at h5
      refine GC.seq' ?_
      by_cases hsl : (sttB m.stt).length ≤ 33554432
      ·skip
       refine GC.region ?_; refine GL.pure rfl (p_fieldAddr fo_42_14 rfl) ?_; refine GL.step rfl (t_mem rfl (m_loadN (i := 2) rfl rfl ag_39 (vs := [_, _, _, _, _, _, _]) sz_39 ⟨rfl, rfl, rfl, rfl, rfl, rfl, rfl, trivial⟩)) ?_
       refine GL.step rfl (t_call rfl fn_79 rfl (is := []) (js := [6, 7, 8]) rfl rfl (by exact encstt_ok m.stt _ _ _ _ _ _ hm.s (hr.stt (by assumption)) hsl)) (GL.ret ?_)
       rintro _ _ _ ⟨A123, cp123, l123, k123, rfl, rfl, rfl⟩
       refine GL.mv_ rfl rfl ?_
       iterate 2 refine GL.pure rfl (p_extract rfl rfl) ?_
       iterate 2 refine GL.as_ rfl rfl ?_
       refine GL.nil (?_ : GC _ _ _ _)
       refine GC.seq' ?_; refine GC.sr_ ?_; refine GL.mv_ rfl rfl ?_; refine GL.pure rfl (p_neq rfl rfl) ?_; refine GL.nl_ ?_; refine GC.cond_false rfl ?_
       refine GC.skip (?_ : GC _ _ _ _)
       refine GC.region ?_
       iterate 2 refine GL.mv_ rfl rfl ?_
       refine GL.freezeB (i := 0) rfl ?_; refine GL.step rfl (t_appendS (i := 0) (k := 0) rfl el_25 rfl rfl rfl rfl (by (try simp only [List.length_append, List.length_cons, List.length_nil, List.length_map, List.length_take, flZ_length, flI_length, leN_length]); first | omega | (have := opB_len (hr.op (by assumption)); omega) | (have := resB_len (hr.res (by assumption)); omega) | (have := grp_rng (hr.grp (by assumption)); omega) | (have := sttB_len (hr.stt (by assumption)); omega) | (have := log_len hr k; have := entB_len (hr.log _ (gt_elem (l := m.log) (k := k) (by omega))); have : k * 400000 ≤ 100000 * 400000 := Nat.mul_le_mul_right _ (by omega); omega)) (fun _ => rfl)) (GL.ex fun v130 => ?_)
       refine GL.rowIs (i := 0) (m' := ((hdB m ++ pO m ++ pR m ++ pG m ++ sttB m.stt)).length) (cs' := ((hdB m ++ pO m ++ pR m ++ pG m ++ sttB m.stt)).map u8v) rfl (by first | (simp only [List.length_append, List.length_cons, List.length_nil, List.append_assoc]; done) | (simp only [List.length_append, List.length_cons, List.length_nil, List.append_assoc]; omega) | (simp [leN_length, flI_length, hdB]; done) | (simp [leN_length, flI_length, hdB]; omega) | rfl) (by first | (simp only [List.map_append, List.map_cons, List.map_nil, List.append_assoc]; done) | (simp [leN_length, flI_length, hdB]; done) | rfl) rfl ?_
       refine GL.shape (i := 0) rfl (fun A_b c_b e_b l_b k_b => ?_)
       subst e_b
       refine GL.as_ rfl rfl ?_; refine GL.nil ?_
       exact fun a w h => ⟨(A_b), (c_b), trivial, by rw [show pS m = sttB m.stt from if_neg (by assumption)]; exact h.cut (is := [0, 0, 0]) (js := [1, 2, 3, 4, 5, 6, 7, 8, 9, 10]) ⟨rfl, rfl, trivial⟩ rfl rfl⟩
      ·skip
       refine GC.region ?_; refine GL.pure rfl (p_fieldAddr fo_42_14 rfl) ?_; refine GL.step rfl (t_mem rfl (m_loadN (i := 2) rfl rfl ag_39 (vs := [_, _, _, _, _, _, _]) sz_39 ⟨rfl, rfl, rfl, rfl, rfl, rfl, rfl, trivial⟩)) ?_
       refine GL.step rfl (t_call rfl fn_79 rfl (is := []) (js := [6, 7, 8]) rfl rfl (by exact encstt_long m.stt _ _ _ _ _ _ hm.s (hr.stt (by assumption)) (by omega))) (GL.ret ?_)
       rintro _ _ _ ⟨rfl, rfl, rfl⟩
       refine GL.mv_ rfl rfl ?_
       iterate 2 refine GL.pure rfl (p_extract rfl rfl) ?_
       iterate 2 refine GL.as_ rfl rfl ?_
       refine GL.nil (?_ : GC _ _ _ _)
       refine GC.seq' ?_; refine GC.sr_ ?_; refine GL.mv_ rfl rfl ?_; refine GL.pure rfl (p_neq rfl rfl) ?_; refine GL.nl_ ?_; refine GC.cond_true rfl ?_; refine GC.sr_ ?_
       iterate 2 refine GL.as_ rfl rfl ?_
       refine GL.nl_ ?_; refine GC.ret ?_
       refine fun a w h => Fin.back (rs := [.tmp 2, .tmp 3]) (vs := [_, _]) (is := []) (js := []) rfl ⟨rfl, rfl, trivial⟩ rfl rfl ?_ h
       clear h
       have e : pS m = sttB m.stt := if_neg (by assumption)
       rw [e] at lS
       exact .inr ⟨by omega, ⟨_, _, _, rfl⟩, rfl, rfl⟩
     ·try simp only [tst_, bi1, bi2, bi4, bi8] at h5
      refine GC.skip ?_
      exact fun a w h => ⟨(_), (_), trivial, by rw [show pS m = [] from if_pos (by assumption), List.append_nil]; exact h.cut (is := [0, 0, 0]) (js := [0, 1, 2, 3, 4, 5, 6, 7, 8, 9]) ⟨rfl, rfl, trivial⟩ rfl rfl⟩
    ·intro A1 c1 hj19
     try dsimp only [List.cons_append, List.nil_append] at hj19 ⊢
     refine GC.sr_ ?_; refine GL.mv_ rfl rfl ?_; refine GL.pure rfl (p_fieldAddr fo_42_15 rfl) ?_; refine GL.step rfl (t_mem rfl (m_load (i := 2) rfl rfl ag_40 rfl)) ?_; refine GL.pure rfl (p_len Tryz.underlying40 rfl) ?_
     refine GL.pure rfl (p_convR (t := 3) (r := ((m.log.length : Nat) : Int)) (by rw [Tryz.underlying3]; simp) Tryz.underlying23 rfl (cvU (by omega) (by omega))) ?_; refine GL.freezeB (i := 0) rfl ?_; refine GL.step rfl (t_call rfl fn_80 rfl (is := []) (js := [0]) rfl rfl (by exact oput_ct _ (hdB m ++ pO m ++ pR m ++ pG m ++ pS m) _ m.log.length 4 (by omega) (by omega) (by simp; omega) (by rw [p256_4]; omega))) (GL.ret ?_)
     rintro _ _ _ ⟨A137, cp137, l137, k137, rfl, rfl, rfl⟩
     refine GL.mv_ rfl rfl ?_
     iterate 2 refine GL.pure rfl (p_extract rfl rfl) ?_
     refine GL.as_ rfl rfl ?_; refine GL.nl_ ?_; refine GC.seq' ?_; refine GC.sr_ ?_; refine GL.pure rfl (p_fieldAddr fo_42_15 rfl) ?_; refine GL.step rfl (t_mem rfl (m_load (i := 2) rfl rfl ag_40 rfl)) ?_; refine GL.pure rfl (p_len Tryz.underlying40 rfl) ?_
     refine GL.mv_ rfl rfl ?_; refine GL.nl_ ?_; refine GC.block ?_; refine GC.loopK3 (ks := [141, 142]) (is := [1, 2]) (js := [0, 1, 2, 3, 4, 5, 6, 7, 8, 9, 10]) (fun (k : Nat) (A1 : Option Addr) (c1 : Nat) => k ≤ m.log.length ∧ (preB m ++ (m.log.take k).flatMap entB).length ≤ c1 ∧ c1 ≤ 9223372036854775807) (fun (k : Nat) (A1 : Option Addr) (c1 : Nat) => [(5, .slice A1 (preB m ++ (m.log.take k).flatMap entB).length c1), (143, .int .i64 (k : Int))]) (fun (k : Nat) (A1 : Option Addr) (c1 : Nat) => [rowOf A1 c1 (preB m ++ (m.log.take k).flatMap entB)]) (fun (k : Nat) (A1 : Option Addr) (c1 : Nat) => []) (fun (k : Nat) (A1 : Option Addr) (c1 : Nat) => m.log.length - k) (0) (_) (_) rfl rfl rfl (fun a w h => ⟨⟨by omega, by simp only [List.take_zero, List.flatMap_nil, List.append_nil]; exact l137, k137⟩, by simp only [List.take_zero, List.flatMap_nil, List.append_nil]; exact h.cutK (is := [0, 0, 0]) (js := [0, 1, 2, 3, 4, 5, 6, 7, 8, 9, 10]) (ks := [141, 142]) ⟨rfl, rfl, trivial⟩ rfl rfl rfl⟩) ?_
     intro k A1 c1 hk
     try dsimp only [List.cons_append, List.nil_append] at hk ⊢
     obtain ⟨hk, hc1, hc2⟩ := hk
     refine GC.sr_ ?_; refine GL.pure rfl (p_lss rfl rfl) ?_; refine GL.nl_ ?_; refine GC.seq' ?_; refine GC.cond rfl (fun h6 => ?_) (fun h6 => ?_)
     ·try simp only [tst_, bi1, bi2, bi4, bi8] at h6
      refine GC.skip (?_ : GC _ _ _ _)
      refine GC.seq' ?_; refine GC.block ?_; refine GC.sr_ ?_; refine GL.step rfl (t_index (i := 10) rfl rfl rfl rfl Tryz.underlying40 sz_64 (by omega) (gt_ok (by omega) (by omega))) (GL.ex fun p_x145 => GL.ex fun r_x145 => GL.and fun ok_x145 => ?_)
      rcases r_x145 with ⟨_, ⟨_, ⟨_, ⟨_, ⟨_, ⟨⟨_, ⟨_, ⟨_, ⟨⟨Ax145_0, cpx145_0⟩, ⟨Ax145_1, cpx145_1⟩⟩⟩⟩⟩, ⟨_, ⟨Ax145_2, cpx145_2⟩⟩⟩⟩⟩⟩⟩⟩
      refine GL.step rfl (t_mem rfl (m_loadPN (i := 0) rfl rfl ag_64 (vs := [_, _, _, _, _, _, _, _, _, _, _, _]) sz_64 ⟨rfl, rfl, rfl, rfl, rfl, rfl, rfl, rfl, rfl, rfl, rfl, rfl, trivial⟩)) ?_; refine GL.step rfl (t_alloc rfl ze_64) (GL.ex fun b_t13 => ?_)
      refine GL.step rfl (t_storeN (i := 0) rfl rfl rfl sz_64 rfl rfl rfl) ?_; refine GL.nl_ ?_; refine GC.seq' ?_; refine GC.sr_ ?_; refine GL.step rfl (t_mem rfl (m_loadN (i := 0) rfl rfl ag_64 (vs := [_, _, _, _, _, _, _, _, _, _, _, _]) sz_64 ⟨rfl, rfl, rfl, rfl, rfl, rfl, rfl, rfl, rfl, rfl, rfl, rfl, trivial⟩)) ?_
      have hel := (hm.e _ (gt_elem (l := m.log) (k := k) (by omega))).m
      refine GL.step rfl (t_call rfl fn_81 rfl (is := []) (js := [1, 2, 3]) rfl rfl (by exact encent_ct (gt m.log (k : Int)) _ _ _ _ _ _ (hr.log _ (gt_elem (by omega))) (by omega))) (GL.ret ?_)
      rintro _ _ _ ⟨A149, cp149, l149, k149, rfl, rfl, rfl⟩
      refine GL.mv_ rfl rfl ?_
      iterate 2 refine GL.pure rfl (p_extract rfl rfl) ?_
      refine GL.as_ rfl rfl ?_; refine GL.nl_ ?_; refine GC.seq' ?_
      have hlk := log_len hr k
      have hek := entB_len (hr.log _ (gt_elem (l := m.log) (k := k) (by omega)))
      have hk4 : k * 400000 ≤ 100000 * 400000 := Nat.mul_le_mul_right _ (by omega)
      have hpl : (preB m ++ (m.log.take k).flatMap entB).length = (preB m).length + ((m.log.take k).flatMap entB).length := List.length_append
      refine GC.region ?_; refine GL.mv_ rfl rfl ?_; refine GL.pure rfl (p_len Tryz.underlying25 rfl) ?_; refine GL.mv_ rfl rfl ?_; refine GL.pure rfl (p_len Tryz.underlying25 rfl) ?_; refine GL.pure rfl (p_add rfl rfl (w64 (by omega) (by omega))) ?_
      refine GL.pure rfl (p_gtr rfl rfl) ?_
      refine GL.nil (?_ : GC _ _ _ _)
      refine GC.cond rfl (fun h7 => ?_) (fun h7 => ?_)
      ·try simp only [tst_, bi1, bi2, bi4, bi8] at h7
       refine GC.sr_ ?_
       iterate 2 refine GL.as_ rfl rfl ?_
       refine GL.nl_ ?_; refine GC.ret ?_
       refine fun a w h => Fin.back (rs := [.tmp 2, .tmp 3]) (vs := [_, _]) (is := []) (js := []) rfl ⟨rfl, rfl, trivial⟩ rfl rfl ?_ h
       clear h
       have := body_ge' (m := m) (k := k) (by omega)
       rw [List.length_append] at *
       exact .inr ⟨by omega, ⟨_, _, _, rfl⟩, rfl, rfl⟩
      ·try simp only [tst_, bi1, bi2, bi4, bi8] at h7
       refine GC.skip (?_ : GC _ _ _ _)
       refine GC.region ?_
       iterate 2 refine GL.mv_ rfl rfl ?_
       refine GL.freezeB (i := 0) rfl ?_; refine GL.step rfl (t_appendS (i := 1) (k := 0) rfl el_25 rfl rfl rfl rfl (by (try simp only [List.length_append, List.length_cons, List.length_nil, List.length_map, List.length_take, flZ_length, flI_length, leN_length]); first | omega | (have := opB_len (hr.op (by assumption)); omega) | (have := resB_len (hr.res (by assumption)); omega) | (have := grp_rng (hr.grp (by assumption)); omega) | (have := sttB_len (hr.stt (by assumption)); omega) | (have := log_len hr k; have := entB_len (hr.log _ (gt_elem (l := m.log) (k := k) (by omega))); have : k * 400000 ≤ 100000 * 400000 := Nat.mul_le_mul_right _ (by omega); omega)) (fun _ => rfl)) (GL.ex fun v160 => ?_)
       refine GL.rowIs (i := 1) (m' := ((preB m ++ (m.log.take k).flatMap entB ++ entB (gt m.log (k : Int)))).length) (cs' := ((preB m ++ (m.log.take k).flatMap entB ++ entB (gt m.log (k : Int)))).map u8v) rfl (by first | (simp only [List.length_append, List.length_cons, List.length_nil, List.append_assoc]; done) | (simp only [List.length_append, List.length_cons, List.length_nil, List.append_assoc]; omega) | (simp [leN_length, flI_length, hdB]; done) | (simp [leN_length, flI_length, hdB]; omega) | rfl) (by first | (simp only [List.map_append, List.map_cons, List.map_nil, List.append_assoc]; done) | (simp [leN_length, flI_length, hdB]; done) | rfl) rfl ?_
       refine GL.shape (i := 1) rfl (fun A_b c_b e_b l_b k_b => ?_)
       subst e_b
       refine GL.as_ rfl rfl ?_
       refine GL.nil (?_ : GC _ _ _ _)
       refine GC.region ?_; refine GL.pure rfl (p_add rfl rfl (w64 (by omega) (by omega))) ?_; refine GL.mv_ rfl rfl ?_; refine GL.nil ?_
       exact fun a w h => ⟨(k + 1), (A_b), (c_b), (by omega), ⟨by omega, by rw [fm_take (by omega), ← List.append_assoc]; exact l_b, k_b⟩, by rw [fm_take (by omega), ← List.append_assoc]; exact h.cut (is := [1, 1, 1]) (js := [5, 6, 7, 8, 9, 10, 11, 12, 13, 14, 15]) ⟨rfl, rfl, rfl, rfl, trivial⟩ rfl rfl⟩
     ·try simp only [tst_, bi1, bi2, bi4, bi8] at h6
      refine GC.exit (?_ : GC _ _ _ _)
      refine GC.seq' ?_
      obtain rfl : k = m.log.length := by omega
      rw [List.take_length] at hc1 ⊢
      have hbe : preB m ++ m.log.flatMap entB = bodyB m := rfl
      rw [hbe] at hc1 ⊢
      by_cases hfit : (bodyB m).length ≤ 16777216
      ·skip
       refine GC.region ?_
       iterate 2 refine GL.mv_ rfl rfl ?_
       refine GL.pure rfl (p_len Tryz.underlying25 rfl) ?_; refine GL.pure rfl (p_leq rfl rfl) ?_
       iterate 2 refine GL.as_ rfl rfl ?_
       refine GL.nil (?_ : GC _ _ _ _)
       refine GC.ret ?_
       refine fun a w h => Fin.back (rs := [.tmp 2, .tmp 3]) (vs := [_, _]) (is := [0]) (js := []) rfl ⟨rfl, rfl, trivial⟩ rfl rfl ?_ h
       clear h
       refine .inl ⟨hfit, _, _, hc1, hc2, ?_, rfl, rfl⟩
       exact congrArg (fun b => Value.tuple #[.slice _ _ _, .bool b]) (decide_eq_true (by omega))
      ·skip
       refine GC.region ?_
       iterate 2 refine GL.mv_ rfl rfl ?_
       refine GL.pure rfl (p_len Tryz.underlying25 rfl) ?_; refine GL.pure rfl (p_leq rfl rfl) ?_
       iterate 2 refine GL.as_ rfl rfl ?_
       refine GL.nil (?_ : GC _ _ _ _)
       refine GC.ret ?_
       refine fun a w h => Fin.back (rs := [.tmp 2, .tmp 3]) (vs := [_, _]) (is := []) (js := []) rfl ⟨rfl, rfl, trivial⟩ rfl rfl ?_ h
       clear h
       refine .inr ⟨by omega, ⟨A1, (bodyB m).length, c1, ?_⟩, rfl, rfl⟩
       exact congrArg (fun b => Value.tuple #[.slice _ _ _, .bool b]) (decide_eq_false (by omega))
end Go.Proofs.YtdhdmbmknpjhbaaGreat
namespace Go.Sx
open Go
section
variable {P : Program} {c : Cx} {n : Nat} {env : List (Nat × Value)} {G G' : List Own} {Q : List Pers} {R : Exit → Asr} {cd : Code} {ops : Array Oper} {rest : List Oper} {a : Act} {w : World}
theorem St.freezeI {i e m cp : Nat} {A : Option Addr} {xs : List Int} (h : St c n env G Q a w) (ht : takeO G i = some (.row (.slice A m cp) e 1 m (xs.map (Value.int .i64)), G')) : St c n env G' (Pers.row (Kd.int .i64) A xs :: Q) a w :=
  h.freeze (QN := [Pers.row (Kd.int .i64) A xs]) ht fun w S ho hS hq q hq' => by
    rw [List.mem_singleton.1 hq']
    exact row_pers (kd := Kd.int .i64) ho hS (scalar_reps xs) (by decide)
theorem GL.freezeI {i e m cp : Nat} {A : Option Addr} {xs : List Int} (ht : takeO G i = some (.row (.slice A m cp) e 1 m (xs.map (Value.int .i64)), G')) (k : GL P ops R rest (St c n env G' (Pers.row (Kd.int .i64) A xs :: Q))) : GL P ops R rest (St c n env G Q) := GL.imp (fun a w h => h.freezeI ht) k
theorem GC.freezeI {i e m cp : Nat} {A : Option Addr} {xs : List Int} (ht : takeO G i = some (.row (.slice A m cp) e 1 m (xs.map (Value.int .i64)), G')) (k : GC P R cd (St c n env G' (Pers.row (Kd.int .i64) A xs :: Q))) : GC P R cd (St c n env G Q) := GC.imp (fun a w h => h.freezeI ht) k
end
end Go.Sx
namespace Go.Proofs.YtdhdmbmknpjhbaaGreat
open Go Go.Sx Go.Proofs
abbrev getE (b : List UInt8) (at_ n : Nat) : Int := if at_ + n ≤ b.length then 0 else 10
abbrev getV (b : List UInt8) (at_ n : Nat) : Nat := if at_ + n ≤ b.length then valN (seg b at_ (at_ + n)) else 0
abbrev getX (b : List UInt8) (at_ n : Nat) : Nat := if at_ + n ≤ b.length then at_ + n else 0
theorem get_all (A : Option Addr) (b : List UInt8) (cp at_ n : Nat) (hn : 1 ≤ n) (hn' : n ≤ 8) (hb : b.length ≤ cp) (hb' : b.length ≤ 140737488355328) (hat : at_ ≤ b.length) : Ct Tryz.prog 91 [.slice A b.length cp, .int .i64 (at_ : Int), .int .i64 (n : Int)] [] [Pers.row Kd.u8 A b]
    (fun u G Q => u = .tuple #[.int .u64 ((getV b at_ n : Nat) : Int), .int .i64 ((getX b at_ n : Nat) : Int), .int .i64 (getE b at_ n)] ∧ G = [] ∧ Q = []) := by
  by_cases h : at_ + n ≤ b.length
  · rw [getV, getX, getE, if_pos h, if_pos h, if_pos h]; exact get_ok A b cp at_ n hn hn' hb (by omega) h
  · rw [getV, getX, getE, if_neg h, if_neg h, if_neg h]; exact get_short A b cp at_ n hn hn' hb' hat (by omega)
theorem valN_rng {b : List UInt8} {l h n : Nat} (hh : h ≤ b.length) (hn : h - l = n) : valN (seg b l h) < 256 ^ n := by
  have := valN_lt (seg b l h)
  rwa [seg_length hh, hn] at this
def txF (b : List UInt8) (at_ : Nat) : List UInt8 × Nat × Int :=
  if at_ + 4 ≤ b.length then
    (if valN (seg b at_ (at_ + 4)) ≤ 16777216 then
      (if at_ + 4 + valN (seg b at_ (at_ + 4)) ≤ b.length then (seg b (at_ + 4) (at_ + 4 + valN (seg b at_ (at_ + 4))), at_ + 4 + valN (seg b at_ (at_ + 4)), 0) else ([], 0, 10))
    else ([], 0, 2))
  else ([], 0, 10)
theorem gettext_ct (A : Option Addr) (b : List UInt8) (cp at_ : Nat) (hb : b.length ≤ cp) (hcp' : cp ≤ 9223372036854775807) (hb' : b.length ≤ 10000000000000) (hat : at_ ≤ b.length) : Ct Tryz.prog 169 [.slice A b.length cp, .int .i64 (at_ : Int)] [] [Pers.row Kd.u8 A b]
    (fun u G Q => ∃ x n e A' c', txF b at_ = (x, n, e) ∧ x.length ≤ c' ∧ c' ≤ 9223372036854775807 ∧ u = .tuple #[.slice A' x.length c', .int .i64 ((n : Nat) : Int), .int .i64 e] ∧ G = [] ∧ Q = [Pers.row Kd.u8 A' x]) := by
 by_cases hq4 : at_ + 4 ≤ b.length
 ·have hv := valN_rng (b := b) (l := at_) (h := at_ + 4) (n := 4) hq4 (by omega)
  rw [p256_4] at hv
  have ee : ((at_ + 4 : Nat) : Int) + ((valN (seg b at_ (at_ + 4)) : Nat) : Int) = ((at_ + 4 + valN (seg b at_ (at_ + 4)) : Nat) : Int) := by omega
  have hsl : at_ + 4 + valN (seg b at_ (at_ + 4)) ≤ b.length → (seg b (at_ + 4) (at_ + 4 + valN (seg b at_ (at_ + 4)))).length = valN (seg b at_ (at_ + 4)) := fun h => by rw [seg_length h]; omega
  refine Ct.intro Tryz.func169 rfl rfl rfl (fun c hc => ?_)
  refine GC.sr_ ?_
  iterate 3 refine GL.as_ rfl rfl ?_
  refine GL.nl_ ?_; refine GC.sr_ ?_
  iterate 2 refine GL.mv_ rfl rfl ?_
  refine GL.step rfl (t_call rfl fn_91 rfl (is := []) (js := [0]) rfl rfl (by exact get_ok _ b _ at_ 4 (by omega) (by omega) hb (by omega) hq4)) (GL.ret ?_)
  rintro _ _ _ ⟨rfl, rfl, rfl⟩
  refine GL.mv_ rfl rfl ?_
  iterate 3 refine GL.pure rfl (p_extract rfl rfl) ?_
  iterate 3 refine GL.as_ rfl rfl ?_
  refine GL.nl_ ?_; refine GC.seq' ?_; refine GC.block ?_; refine GC.sr_ ?_; refine GL.mv_ rfl rfl ?_; refine GL.pure rfl (p_neq rfl rfl) ?_; refine GL.as_ rfl rfl ?_; refine GL.nl_ ?_; refine GC.cond_false rfl ?_; refine GC.sr_ ?_
  refine GL.mv_ rfl rfl ?_; refine GL.pure rfl (p_gtr rfl rfl) ?_; refine GL.as_ rfl rfl ?_; refine GL.nl_ ?_; refine GC.cond rfl (fun h1 => ?_) (fun h1 => ?_)
  ·try simp only [tst_] at h1
   refine GC.sr_ ?_
   iterate 3 refine GL.as_ rfl rfl ?_
   refine GL.nl_ ?_; refine GC.know (q := Pers.row Kd.u8 none []) (fun _ _ _ => .inl rfl) ?_; refine GC.ret ?_
   refine fun a w h => Fin.back (rs := [.tmp 4, .tmp 5, .tmp 6]) (vs := [_, _, _]) (is := []) (js := [0]) rfl ⟨rfl, rfl, rfl, trivial⟩ rfl rfl ?_ h
   clear h
   exact ⟨[], 0, 2, none, 0, by rw [txF, if_pos hq4, if_neg (by omega)], by simp, by simp, rfl, rfl, rfl⟩
  ·try simp only [tst_] at h1
   refine GC.sr_ ?_; refine GL.mv_ rfl rfl ?_; refine GL.pure rfl (p_convR (t := 23) (r := ((valN (seg b at_ (at_ + 4)) : Nat) : Int)) (by rw [Tryz.underlying23]; simp) Tryz.underlying3 rfl (cvI (by omega) (by omega))) ?_
   refine GL.mv_ rfl rfl ?_; refine GL.pure rfl (p_len Tryz.underlying25 rfl) ?_; refine GL.mv_ rfl rfl ?_; refine GL.pure rfl (p_sub rfl rfl (w64 (by omega) (by omega))) ?_; refine GL.pure rfl (p_gtr rfl rfl) ?_; refine GL.as_ rfl rfl ?_
   refine GL.nl_ ?_; refine GC.cond rfl (fun h2 => ?_) (fun h2 => ?_)
   ·try simp only [tst_] at h2
    refine GC.sr_ ?_
    iterate 3 refine GL.as_ rfl rfl ?_
    refine GL.nl_ ?_; refine GC.know (q := Pers.row Kd.u8 none []) (fun _ _ _ => .inl rfl) ?_; refine GC.ret ?_
    refine fun a w h => Fin.back (rs := [.tmp 4, .tmp 5, .tmp 6]) (vs := [_, _, _]) (is := []) (js := [0]) rfl ⟨rfl, rfl, rfl, trivial⟩ rfl rfl ?_ h
    clear h
    exact ⟨[], 0, 10, none, 0, by rw [txF, if_pos hq4, if_pos (by omega), if_neg (by omega)], by simp, by simp, rfl, rfl, rfl⟩
   ·try simp only [tst_] at h2
    refine GC.skip (?_ : GC _ _ _ _)
    refine GC.sr_ ?_
    iterate 2 refine GL.mv_ rfl rfl ?_
    refine GL.pure rfl (p_convR (t := 23) (r := ((valN (seg b at_ (at_ + 4)) : Nat) : Int)) (by rw [Tryz.underlying23]; simp) Tryz.underlying3 rfl (cvI (by omega) (by omega))) ?_; refine GL.pure rfl (p_add rfl rfl (w64 (by omega) (by omega))) ?_
    refine GL.as_ rfl rfl ?_; refine GL.nl_ ?_; refine GC.sr_ ?_
    iterate 3 refine GL.mv_ rfl rfl ?_
    refine GL.step rfl (t_cut_lh (j := 0) rfl rfl rfl rfl rfl Tryz.underlying25 sz_5 (by omega) (by omega) (by omega) (by omega)) ?_
    rw [ee, show (((at_ + 4 : Nat) : Int)).toNat = at_ + 4 from rfl, show (((at_ + 4 + valN (seg b at_ (at_ + 4)) : Nat) : Int)).toNat = at_ + 4 + valN (seg b at_ (at_ + 4)) from rfl]
    refine GL.step rfl (t_call rfl fn_118 rfl (is := []) (js := [0]) rfl rfl (by exact bclone_ct _ (seg b (at_ + 4) (at_ + 4 + valN (seg b at_ (at_ + 4)))) _ (by rw [hsl (by omega)]; omega))) (GL.ret ?_)
    rintro _ _ _ ⟨A41, cp41, l41, k41, rfl, rfl, rfl⟩
    refine GL.mv_ rfl rfl ?_
    iterate 3 refine GL.as_ rfl rfl ?_
    refine GL.nl_ ?_; refine GC.freezeB (i := 0) rfl ?_; refine GC.ret ?_
    refine fun a w h => Fin.back (rs := [.tmp 4, .tmp 5, .tmp 6]) (vs := [_, _, _]) (is := []) (js := [0]) rfl ⟨rfl, rfl, rfl, trivial⟩ rfl rfl ?_ h
    clear h
    exact ⟨_, _, 0, _, _, by rw [txF, if_pos hq4, if_pos (by omega), if_pos (by omega)], l41, k41, rfl, rfl, rfl⟩
 ·skip
  refine Ct.intro Tryz.func169 rfl rfl rfl (fun c hc => ?_)
  refine GC.sr_ ?_
  iterate 3 refine GL.as_ rfl rfl ?_
  refine GL.nl_ ?_; refine GC.sr_ ?_
  iterate 2 refine GL.mv_ rfl rfl ?_
  refine GL.step rfl (t_call rfl fn_91 rfl (is := []) (js := [0]) rfl rfl (by exact get_short _ b _ at_ 4 (by omega) (by omega) (by omega) hat (by omega))) (GL.ret ?_)
  rintro _ _ _ ⟨rfl, rfl, rfl⟩
  refine GL.mv_ rfl rfl ?_
  iterate 3 refine GL.pure rfl (p_extract rfl rfl) ?_
  iterate 3 refine GL.as_ rfl rfl ?_
  refine GL.nl_ ?_; refine GC.seq' ?_; refine GC.block ?_; refine GC.sr_ ?_; refine GL.mv_ rfl rfl ?_; refine GL.pure rfl (p_neq rfl rfl) ?_; refine GL.as_ rfl rfl ?_; refine GL.nl_ ?_; refine GC.cond_true rfl ?_; refine GC.sr_ ?_
  refine GL.mv_ rfl rfl ?_
  iterate 3 refine GL.as_ rfl rfl ?_
  refine GL.nl_ ?_; refine GC.know (q := Pers.row Kd.u8 none []) (fun _ _ _ => .inl rfl) ?_; refine GC.ret ?_
  refine fun a w h => Fin.back (rs := [.tmp 4, .tmp 5, .tmp 6]) (vs := [_, _, _]) (is := []) (js := [0]) rfl ⟨rfl, rfl, rfl, trivial⟩ rfl rfl ?_ h
  clear h
  exact ⟨[], 0, 10, none, 0, by rw [txF, if_neg hq4], by simp, by simp, rfl, rfl, rfl⟩
theorem inj3 {α β γ : Type} {a x : α} {b t : β} {c k : γ} (h : (a, b, c) = (x, t, k)) : a = x ∧ b = t ∧ c = k := ⟨(Prod.mk.inj h).1, (Prod.mk.inj (Prod.mk.inj h).2).1, (Prod.mk.inj (Prod.mk.inj h).2).2⟩
def numS (b : List UInt8) (at_ : Nat) (code : Int) (n : Nat) : Nat × Nat × Int :=
  if code = 0 then (if at_ + n ≤ b.length then (valN (seg b at_ (at_ + n)), at_ + n, 0) else (0, at_, 10)) else (0, at_, code)
def txS (b : List UInt8) (at_ : Nat) (code : Int) : List UInt8 × Nat × Int :=
  if code = 0 then (if (txF b at_).2.2 = 0 then txF b at_ else ([], at_, if (txF b at_).2.2 = 10 then 10 else 42)) else ([], at_, code)
theorem numS_rng {b : List UInt8} {at_ : Nat} {code : Int} {n v t : Nat} {k : Int} (h : numS b at_ code n = (v, t, k)) (hat : at_ ≤ b.length) : t ≤ b.length ∧ v < 256 ^ n := by
  unfold numS at h
  have hp : 0 < 256 ^ n := Nat.pow_pos (by decide)
  split at h
  · split at h
    · rename_i h2
      obtain ⟨rfl, rfl, rfl⟩ := inj3 h
      exact ⟨h2, valN_rng h2 (by omega)⟩
    · obtain ⟨rfl, rfl, rfl⟩ := inj3 h
      exact ⟨hat, hp⟩
  · obtain ⟨rfl, rfl, rfl⟩ := inj3 h
    exact ⟨hat, hp⟩
theorem txF_rng {b : List UInt8} {at_ : Nat} {x : List UInt8} {t : Nat} {e : Int} (h : txF b at_ = (x, t, e)) (h0 : e = 0) : t ≤ b.length ∧ x.length ≤ 16777216 := by
  unfold txF at h
  split at h
  · split at h
    · split at h
      · rename_i h1 h2 h3
        obtain ⟨rfl, rfl, _⟩ := inj3 h
        exact ⟨h3, by rw [seg_length h3]; omega⟩
      · have := (Prod.mk.inj (Prod.mk.inj h).2).2; omega
    · have := (Prod.mk.inj (Prod.mk.inj h).2).2; omega
  · have := (Prod.mk.inj (Prod.mk.inj h).2).2; omega
theorem txS_rng {b : List UInt8} {at_ : Nat} {code : Int} {x : List UInt8} {t : Nat} {k : Int} (h : txS b at_ code = (x, t, k)) (hat : at_ ≤ b.length) : t ≤ b.length ∧ x.length ≤ 16777216 := by
  unfold txS at h
  split at h
  · split at h
    · rename_i h1 h2
      exact txF_rng h (by rw [h] at h2; exact h2)
    · obtain ⟨rfl, rfl, _⟩ := inj3 h
      exact ⟨hat, by simp⟩
  · obtain ⟨rfl, rfl, _⟩ := inj3 h
    exact ⟨hat, by simp⟩
abbrev bleftG (p e : Nat) (A : Option Addr) (b : List UInt8) (cp at_ : Nat) (code : Int) : List Own := [.cells p [.slice A b.length cp, .int .i64 (at_ : Int), .int .i64 code] e]
theorem bnum_ct (p e_ : Nat) (A : Option Addr) (b : List UInt8) (cp at_ : Nat) (code : Int) (n : Nat) (hn : 1 ≤ n) (hn' : n ≤ 4) (hb : b.length ≤ cp) (hb' : b.length ≤ 10000000000000) (hat : at_ ≤ b.length) : Ct Tryz.prog 151 [.pointer (some ⟨p, 0, none⟩), .int .i64 (n : Int)] (bleftG p e_ A b cp at_ code) [Pers.row Kd.u8 A b]
    (fun u G Q => ∃ v t k, numS b at_ code n = (v, t, k) ∧ u = .int .i64 (v : Int) ∧ G = bleftG p e_ A b cp t k ∧ Q = []) := by
 have hp4 : (256 : Nat) ^ n ≤ 4294967296 := by rw [← p256_4]; exact Nat.pow_le_pow_right (by decide) hn'
 have hvr : at_ + n ≤ b.length → valN (seg b at_ (at_ + n)) < 4294967296 := fun h => Nat.lt_of_lt_of_le (valN_rng h (by omega)) hp4
 by_cases hc0 : code = 0
 ·subst hc0
  by_cases hq4 : at_ + n ≤ b.length
  ·have hv := hvr hq4
   refine Ct.intro Tryz.func151 rfl rfl rfl (fun c hc => ?_)
   refine GC.sr_ ?_; refine GL.as_ rfl rfl ?_; refine GL.nl_ ?_; refine GC.seq' ?_; refine GC.sr_ ?_; refine GL.mv_ rfl rfl ?_; refine GL.pure rfl (p_nilCheck rfl) ?_; refine GL.pure rfl (p_fieldAddr fo_191_2 rfl) ?_; refine GL.step rfl (t_mem rfl (m_load (i := 0) rfl rfl ag_45 rfl)) ?_
   refine GL.pure rfl (p_neq rfl rfl) ?_; refine GL.nl_ ?_; refine GC.cond_false rfl ?_
   refine GC.skip (?_ : GC _ _ _ _)
   refine GC.seq' ?_; refine GC.regionQ wide_ (by kernel_rfl) ?_; refine GQ.step rfl (q_pure (p_move rfl)) ?_; refine GQ.step rfl (q_pure (p_nilCheck rfl)) ?_; refine GQ.step rfl (q_pure (p_fieldAddr fo_191_0 rfl)) ?_; refine GQ.step rfl (q_mem (m_load (i := 0) rfl rfl ag_25 rfl)) ?_
   refine GQ.step rfl (q_pure (p_move rfl)) ?_; refine GQ.step rfl (q_pure (p_nilCheck rfl)) ?_; refine GQ.step rfl (q_pure (p_fieldAddr fo_191_1 rfl)) ?_; refine GQ.step rfl (q_mem (m_load (i := 0) rfl rfl ag_3 rfl)) ?_
   refine GQ.step rfl (q_pure (p_move rfl)) ?_; refine GQ.step rfl (q_call fn_91 rfl (js := [0]) rfl (by exact get_ok _ b _ at_ n hn (by omega) hb (by omega) hq4)) ?_; refine GQ.step rfl (q_pure (p_move rfl)) ?_
   iterate 3 refine GQ.step rfl (q_pure (p_extract rfl rfl)) ?_
   iterate 3 refine GQ.step rfl (q_pure (p_assign rfl)) ?_
   refine GQ.nil (?_ : GC _ _ _ _)
   refine GC.seq' ?_; refine GC.sr_ ?_; refine GL.mv_ rfl rfl ?_; refine GL.pure rfl (p_neq rfl rfl) ?_; refine GL.nl_ ?_; refine GC.cond_false rfl ?_
   refine GC.skip (?_ : GC _ _ _ _)
   refine GC.sr_ ?_
   iterate 2 refine GL.mv_ rfl rfl ?_
   refine GL.pure rfl (p_nilCheck rfl) ?_; refine GL.pure rfl (p_fieldAddr fo_191_1 rfl) ?_; refine GL.step rfl (t_store (i := 0) rfl rfl rfl rfl sz_3 rfl rfl rfl) ?_; refine GL.nl_ ?_; refine GC.sr_ ?_; refine GL.mv_ rfl rfl ?_
   refine GL.pure rfl (p_convR (t := 23) (r := ((valN (seg b at_ (at_ + n)) : Nat) : Int)) (by rw [Tryz.underlying23]; simp) Tryz.underlying3 rfl (cvI (by omega) (by omega))) ?_; refine GL.as_ rfl rfl ?_; refine GL.nl_ ?_
   refine GC.ret ?_
   refine fun a w h => Fin.back (rs := [.tmp 4]) (vs := [_]) (is := [0]) (js := []) rfl ⟨rfl, trivial⟩ rfl rfl ?_ h
   clear h
   exact ⟨_, _, 0, by rw [numS, if_pos rfl, if_pos hq4], rfl, rfl, rfl⟩
  ·skip
   refine Ct.intro Tryz.func151 rfl rfl rfl (fun c hc => ?_)
   refine GC.sr_ ?_; refine GL.as_ rfl rfl ?_; refine GL.nl_ ?_; refine GC.seq' ?_; refine GC.sr_ ?_; refine GL.mv_ rfl rfl ?_; refine GL.pure rfl (p_nilCheck rfl) ?_; refine GL.pure rfl (p_fieldAddr fo_191_2 rfl) ?_; refine GL.step rfl (t_mem rfl (m_load (i := 0) rfl rfl ag_45 rfl)) ?_
   refine GL.pure rfl (p_neq rfl rfl) ?_; refine GL.nl_ ?_; refine GC.cond_false rfl ?_
   refine GC.skip (?_ : GC _ _ _ _)
   refine GC.seq' ?_; refine GC.regionQ wide_ (by kernel_rfl) ?_; refine GQ.step rfl (q_pure (p_move rfl)) ?_; refine GQ.step rfl (q_pure (p_nilCheck rfl)) ?_; refine GQ.step rfl (q_pure (p_fieldAddr fo_191_0 rfl)) ?_; refine GQ.step rfl (q_mem (m_load (i := 0) rfl rfl ag_25 rfl)) ?_
   refine GQ.step rfl (q_pure (p_move rfl)) ?_; refine GQ.step rfl (q_pure (p_nilCheck rfl)) ?_; refine GQ.step rfl (q_pure (p_fieldAddr fo_191_1 rfl)) ?_; refine GQ.step rfl (q_mem (m_load (i := 0) rfl rfl ag_3 rfl)) ?_
   refine GQ.step rfl (q_pure (p_move rfl)) ?_; refine GQ.step rfl (q_call fn_91 rfl (js := [0]) rfl (by exact get_short _ b _ at_ n hn (by omega) (by omega) hat (by omega))) ?_; refine GQ.step rfl (q_pure (p_move rfl)) ?_
   iterate 3 refine GQ.step rfl (q_pure (p_extract rfl rfl)) ?_
   iterate 3 refine GQ.step rfl (q_pure (p_assign rfl)) ?_
   refine GQ.nil (?_ : GC _ _ _ _)
   refine GC.seq' ?_; refine GC.sr_ ?_; refine GL.mv_ rfl rfl ?_; refine GL.pure rfl (p_neq rfl rfl) ?_; refine GL.nl_ ?_; refine GC.cond_true rfl ?_; refine GC.sr_ ?_
   iterate 2 refine GL.mv_ rfl rfl ?_
   refine GL.pure rfl (p_nilCheck rfl) ?_; refine GL.pure rfl (p_fieldAddr fo_191_2 rfl) ?_; refine GL.step rfl (t_store (i := 0) rfl rfl rfl rfl sz_45 rfl rfl rfl) ?_; refine GL.nl_ ?_; refine GC.sr_ ?_; refine GL.as_ rfl rfl ?_
   refine GL.nl_ ?_; refine GC.ret ?_
   refine fun a w h => Fin.back (rs := [.tmp 4]) (vs := [_]) (is := [0]) (js := []) rfl ⟨rfl, trivial⟩ rfl rfl ?_ h
   clear h
   exact ⟨0, _, 10, by rw [numS, if_pos rfl, if_neg hq4], rfl, rfl, rfl⟩
 ·skip
  refine Ct.intro Tryz.func151 rfl rfl rfl (fun c hc => ?_)
  refine GC.sr_ ?_; refine GL.as_ rfl rfl ?_; refine GL.nl_ ?_; refine GC.seq' ?_; refine GC.sr_ ?_; refine GL.mv_ rfl rfl ?_; refine GL.pure rfl (p_nilCheck rfl) ?_; refine GL.pure rfl (p_fieldAddr fo_191_2 rfl) ?_; refine GL.step rfl (t_mem rfl (m_load (i := 0) rfl rfl ag_45 rfl)) ?_
  refine GL.pure rfl (p_neq rfl rfl) ?_; refine GL.nl_ ?_; refine GC.cond rfl (fun h1 => ?_) (fun h1 => ?_)
  ·try simp only [tst_] at h1
   first
   | (exfalso; first | exact hc0 h1 | exact hc0 (by omega))
   |(skip
     refine GC.sr_ ?_; refine GL.as_ rfl rfl ?_; refine GL.nl_ ?_; refine GC.ret ?_
     refine fun a w h => Fin.back (rs := [.tmp 4]) (vs := [_]) (is := [0]) (js := []) rfl ⟨rfl, trivial⟩ rfl rfl ?_ h
     clear h
     exact ⟨0, _, _, by rw [numS, if_neg hc0], rfl, rfl, rfl⟩)
  ·try simp only [tst_] at h1
   first
   | (exfalso; first | exact hc0 h1 | exact hc0 (by omega))
   |(skip
     refine GC.skip (?_ : GC _ _ _ _)
     refine GC.seq' ?_; refine GC.regionQ wide_ (by kernel_rfl) ?_; refine GQ.step rfl (q_pure (p_move rfl)) ?_; refine GQ.step rfl (q_pure (p_nilCheck rfl)) ?_; refine GQ.step rfl (q_pure (p_fieldAddr fo_191_0 rfl)) ?_; refine GQ.step rfl (q_mem (m_load (i := 0) rfl rfl ag_25 rfl)) ?_
     refine GQ.step rfl (q_pure (p_move rfl)) ?_; refine GQ.step rfl (q_pure (p_nilCheck rfl)) ?_; refine GQ.step rfl (q_pure (p_fieldAddr fo_191_1 rfl)) ?_; refine GQ.step rfl (q_mem (m_load (i := 0) rfl rfl ag_3 rfl)) ?_
     refine GQ.step rfl (q_pure (p_move rfl)) ?_; refine GQ.step rfl (q_call fn_91 rfl (js := [0]) rfl (by exact get_short _ b _ at_ n hn (by omega) (by omega) hat (by omega))) ?_; refine GQ.step rfl (q_pure (p_move rfl)) ?_
     iterate 3 refine GQ.step rfl (q_pure (p_extract rfl rfl)) ?_
     iterate 3 refine GQ.step rfl (q_pure (p_assign rfl)) ?_
     refine GQ.nil (?_ : GC _ _ _ _)
     refine GC.seq' ?_; refine GC.sr_ ?_; refine GL.mv_ rfl rfl ?_; refine GL.pure rfl (p_neq rfl rfl) ?_; refine GL.nl_ ?_; refine GC.cond_true rfl ?_; refine GC.sr_ ?_
     iterate 2 refine GL.mv_ rfl rfl ?_
     refine GL.pure rfl (p_nilCheck rfl) ?_; refine GL.pure rfl (p_fieldAddr fo_191_2 rfl) ?_; refine GL.step rfl (t_store (i := 0) rfl rfl rfl rfl sz_45 rfl rfl rfl) ?_; refine GL.nl_ ?_; refine GC.sr_ ?_; refine GL.as_ rfl rfl ?_
     refine GL.nl_ ?_; refine GC.ret ?_
     refine fun a w h => Fin.back (rs := [.tmp 4]) (vs := [_]) (is := [0]) (js := []) rfl ⟨rfl, trivial⟩ rfl rfl ?_ h
     clear h
     skip)
theorem btext_ct (p e_ : Nat) (A : Option Addr) (b : List UInt8) (cp at_ : Nat) (code : Int) (hb : b.length ≤ cp) (hcp' : cp ≤ 9223372036854775807) (hb' : b.length ≤ 10000000000000) (hat : at_ ≤ b.length) : Ct Tryz.prog 152 [.pointer (some ⟨p, 0, none⟩)] (bleftG p e_ A b cp at_ code) [Pers.row Kd.u8 A b]
    (fun u G Q => ∃ x t k A' c', txS b at_ code = (x, t, k) ∧ x.length ≤ c' ∧ c' ≤ 9223372036854775807 ∧ u = .slice A' x.length c' ∧ G = bleftG p e_ A b cp t k ∧ Q = [Pers.row Kd.u8 A' x]) := by
 by_cases hc0 : code = 0
 ·subst hc0
  refine Ct.intro Tryz.func152 rfl rfl rfl (fun c hc => ?_)
  refine GC.sr_ ?_; refine GL.as_ rfl rfl ?_; refine GL.nl_ ?_; refine GC.seq' ?_; refine GC.sr_ ?_; refine GL.mv_ rfl rfl ?_; refine GL.pure rfl (p_nilCheck rfl) ?_; refine GL.pure rfl (p_fieldAddr fo_191_2 rfl) ?_; refine GL.step rfl (t_mem rfl (m_load (i := 0) rfl rfl ag_45 rfl)) ?_
  refine GL.pure rfl (p_neq rfl rfl) ?_; refine GL.nl_ ?_; refine GC.cond_false rfl ?_
  refine GC.skip (?_ : GC _ _ _ _)
  refine GC.seq' ?_; refine GC.regionC (m := 16) (is := [0]) (js := [0]) wide_ rfl rfl rfl ?_; refine GA.take 0 rfl (by kernel_rfl) (by kernel_rfl) (by kernel_rfl) rfl (fun a w h => h.mem (is := [0]) (js := [0]) rfl rfl) (i_pure (p_move rfl)) ?_
  refine GA.take 1 rfl (by kernel_rfl) (by kernel_rfl) (by kernel_rfl) rfl (fun a w h => h.mem (is := [0]) (js := [0]) rfl rfl) (i_pure (p_nilCheck rfl)) ?_; refine GA.take 2 rfl (by kernel_rfl) (by kernel_rfl) (by kernel_rfl) rfl (fun a w h => h.mem (is := [0]) (js := [0]) rfl rfl) (i_pure (p_fieldAddr fo_191_0 rfl)) ?_
  refine GA.take 3 rfl (by kernel_rfl) (by kernel_rfl) (by kernel_rfl) rfl (fun a w h => h.mem (is := [0]) (js := [0]) rfl rfl) (i_mem (m_load (i := 0) rfl rfl ag_25 rfl)) ?_; refine GA.take 4 rfl (by kernel_rfl) (by kernel_rfl) (by kernel_rfl) rfl (fun a w h => h.mem (is := [0]) (js := [0]) rfl rfl) (i_pure (p_move rfl)) ?_
  refine GA.take 5 rfl (by kernel_rfl) (by kernel_rfl) (by kernel_rfl) rfl (fun a w h => h.mem (is := [0]) (js := [0]) rfl rfl) (i_pure (p_nilCheck rfl)) ?_; refine GA.take 6 rfl (by kernel_rfl) (by kernel_rfl) (by kernel_rfl) rfl (fun a w h => h.mem (is := [0]) (js := [0]) rfl rfl) (i_pure (p_fieldAddr fo_191_1 rfl)) ?_
  refine GA.take 7 rfl (by kernel_rfl) (by kernel_rfl) (by kernel_rfl) rfl (fun a w h => h.mem (is := [0]) (js := [0]) rfl rfl) (i_mem (m_load (i := 0) rfl rfl ag_3 rfl)) ?_; refine GA.all (rs := [8]) (by kernel_rfl) (by simp) ?_
  refine GAs.cons (i := 8) rfl rfl (t_call rfl fn_169 rfl (is := []) (js := [0]) rfl rfl (by exact gettext_ct _ _ _ _ (by omega) (by omega) (by omega) (by omega))) (by rintro a w ⟨_, _, _, ⟨x20, n20, e20, A20, c20, hs20, l20, k20, rfl, rfl, rfl⟩, h⟩; exact h.mem (is := [0]) (js := [1]) rfl rfl) (GA.ret ?_) ?_
  ·rintro _ _ _ ⟨x20, n20, e20, A20, c20, hs20, l20, k20, rfl, rfl, rfl⟩
   refine GA.take 9 rfl (by kernel_rfl) (by kernel_rfl) (by kernel_rfl) rfl (fun a w h => h.mem (is := [0]) (js := [1]) rfl rfl) (i_pure (p_move rfl)) ?_; refine GA.take 10 rfl (by kernel_rfl) (by kernel_rfl) (by kernel_rfl) rfl (fun a w h => h.mem (is := [0]) (js := [1]) rfl rfl) (i_pure (p_extract rfl rfl)) ?_
   refine GA.take 11 rfl (by kernel_rfl) (by kernel_rfl) (by kernel_rfl) rfl (fun a w h => h.mem (is := [0]) (js := [1]) rfl rfl) (i_pure (p_extract rfl rfl)) ?_; refine GA.take 12 rfl (by kernel_rfl) (by kernel_rfl) (by kernel_rfl) rfl (fun a w h => h.mem (is := [0]) (js := [1]) rfl rfl) (i_pure (p_extract rfl rfl)) ?_
   refine GA.take 13 rfl (by kernel_rfl) (by kernel_rfl) (by kernel_rfl) rfl (fun a w h => h.mem (is := [0]) (js := [1]) rfl rfl) (i_pure (p_assign rfl)) ?_; refine GA.take 14 rfl (by kernel_rfl) (by kernel_rfl) (by kernel_rfl) rfl (fun a w h => h.mem (is := [0]) (js := [1]) rfl rfl) (i_pure (p_assign rfl)) ?_
   refine GA.take 15 rfl (by kernel_rfl) (by kernel_rfl) (by kernel_rfl) rfl (fun a w h => h.mem (is := [0]) (js := [1]) rfl rfl) (i_pure (p_assign rfl)) ?_
   refine GA.done (by kernel_rfl) (?_ : GC _ _ _ _)
   refine GC.seq' ?_; refine GC.sr_ ?_; refine GL.mv_ rfl rfl ?_; refine GL.pure rfl (p_neq rfl rfl) ?_; refine GL.nl_ ?_; refine GC.cond rfl (fun h1 => ?_) (fun h1 => ?_)
   ·try simp only [tst_] at h1
    refine GC.sr_ ?_
    iterate 2 refine GL.mv_ rfl rfl ?_
    refine GL.pure rfl (p_nilCheck rfl) ?_; refine GL.pure rfl (p_fieldAddr fo_191_2 rfl) ?_; refine GL.step rfl (t_store (i := 0) rfl rfl rfl rfl sz_45 rfl rfl rfl) ?_; refine GL.nl_ ?_; refine GC.seq' ?_; refine GC.sr_ ?_
    refine GL.mv_ rfl rfl ?_; refine GL.pure rfl (p_neq rfl rfl) ?_; refine GL.nl_ ?_; refine GC.cond rfl (fun h2 => ?_) (fun h2 => ?_)
    ·try simp only [tst_] at h2
     refine GC.region ?_; refine GL.mv_ rfl rfl ?_; refine GL.pure rfl (p_nilCheck rfl) ?_; refine GL.pure rfl (p_fieldAddr fo_191_2 rfl) ?_; refine GL.step rfl (t_store (i := 0) rfl rfl rfl rfl sz_45 rfl rfl rfl) ?_
     refine GL.nil (?_ : GC _ _ _ _)
     refine GC.sr_ ?_; refine GL.as_ rfl rfl ?_; refine GL.nl_ ?_; refine GC.know (q := Pers.row Kd.u8 none []) (fun _ _ _ => .inl rfl) ?_; refine GC.ret ?_
     refine fun a w h => Fin.back (rs := [.tmp 2]) (vs := [_]) (is := [0]) (js := [0]) rfl ⟨rfl, trivial⟩ rfl rfl ?_ h
     clear h
     exact ⟨[], _, _, none, 0, by rw [txS, if_pos rfl, hs20, if_neg (by assumption)]; first | rw [if_pos (by omega), show e20 = 10 by omega] | rw [if_neg (by omega)], by simp, by simp, rfl, rfl, rfl⟩
    ·try simp only [tst_] at h2
     refine GC.skip (?_ : GC _ _ _ _)
     refine GC.sr_ ?_; refine GL.as_ rfl rfl ?_; refine GL.nl_ ?_; refine GC.know (q := Pers.row Kd.u8 none []) (fun _ _ _ => .inl rfl) ?_; refine GC.ret ?_
     refine fun a w h => Fin.back (rs := [.tmp 2]) (vs := [_]) (is := [0]) (js := [0]) rfl ⟨rfl, trivial⟩ rfl rfl ?_ h
     clear h
     exact ⟨[], _, _, none, 0, by rw [txS, if_pos rfl, hs20, if_neg (by assumption)]; first | rw [if_pos (by omega), show e20 = 10 by omega] | rw [if_neg (by omega)], by simp, by simp, rfl, rfl, rfl⟩
   ·try simp only [tst_] at h1
    refine GC.skip (?_ : GC _ _ _ _)
    refine GC.sr_ ?_
    iterate 2 refine GL.mv_ rfl rfl ?_
    refine GL.pure rfl (p_nilCheck rfl) ?_; refine GL.pure rfl (p_fieldAddr fo_191_1 rfl) ?_; refine GL.step rfl (t_store (i := 0) rfl rfl rfl rfl sz_3 rfl rfl rfl) ?_; refine GL.nl_ ?_; refine GC.sr_ ?_; refine GL.mv_ rfl rfl ?_
    refine GL.as_ rfl rfl ?_; refine GL.nl_ ?_; refine GC.ret ?_
    refine fun a w h => Fin.back (rs := [.tmp 2]) (vs := [_]) (is := [0]) (js := [0]) rfl ⟨rfl, trivial⟩ rfl rfl ?_ h
    clear h
    exact ⟨_, _, 0, _, _, by rw [txS, if_pos rfl, hs20, if_pos (by assumption)]; rw [show e20 = 0 by assumption], l20, k20, rfl, rfl, rfl⟩
  exact GAs.nil
 ·skip
  refine Ct.intro Tryz.func152 rfl rfl rfl (fun c hc => ?_)
  refine GC.sr_ ?_; refine GL.as_ rfl rfl ?_; refine GL.nl_ ?_; refine GC.seq' ?_; refine GC.sr_ ?_; refine GL.mv_ rfl rfl ?_; refine GL.pure rfl (p_nilCheck rfl) ?_; refine GL.pure rfl (p_fieldAddr fo_191_2 rfl) ?_; refine GL.step rfl (t_mem rfl (m_load (i := 0) rfl rfl ag_45 rfl)) ?_
  refine GL.pure rfl (p_neq rfl rfl) ?_; refine GL.nl_ ?_; refine GC.cond rfl (fun h1 => ?_) (fun h1 => ?_)
  ·try simp only [tst_] at h1
   first
   | (exfalso; first | exact hc0 h1 | exact hc0 (by omega))
   |(skip
     refine GC.sr_ ?_; refine GL.as_ rfl rfl ?_; refine GL.nl_ ?_; refine GC.know (q := Pers.row Kd.u8 none []) (fun _ _ _ => .inl rfl) ?_; refine GC.ret ?_
     refine fun a w h => Fin.back (rs := [.tmp 2]) (vs := [_]) (is := [0]) (js := [0]) rfl ⟨rfl, trivial⟩ rfl rfl ?_ h
     clear h
     exact ⟨[], _, _, none, 0, by rw [txS, if_neg hc0], by simp, by simp, rfl, rfl, rfl⟩)
  ·try simp only [tst_] at h1
   first
   | (exfalso; first | exact hc0 h1 | exact hc0 (by omega))
   |(skip
     refine GC.skip (?_ : GC _ _ _ _)
     refine GC.seq' ?_; refine GC.regionC (m := 16) (is := [0]) (js := [0]) wide_ rfl rfl rfl ?_; refine GA.take 0 rfl (by kernel_rfl) (by kernel_rfl) (by kernel_rfl) rfl (fun a w h => h.mem (is := [0]) (js := [0]) rfl rfl) (i_pure (p_move rfl)) ?_
     refine GA.take 1 rfl (by kernel_rfl) (by kernel_rfl) (by kernel_rfl) rfl (fun a w h => h.mem (is := [0]) (js := [0]) rfl rfl) (i_pure (p_nilCheck rfl)) ?_; refine GA.take 2 rfl (by kernel_rfl) (by kernel_rfl) (by kernel_rfl) rfl (fun a w h => h.mem (is := [0]) (js := [0]) rfl rfl) (i_pure (p_fieldAddr fo_191_0 rfl)) ?_
     refine GA.take 3 rfl (by kernel_rfl) (by kernel_rfl) (by kernel_rfl) rfl (fun a w h => h.mem (is := [0]) (js := [0]) rfl rfl) (i_mem (m_load (i := 0) rfl rfl ag_25 rfl)) ?_; refine GA.take 4 rfl (by kernel_rfl) (by kernel_rfl) (by kernel_rfl) rfl (fun a w h => h.mem (is := [0]) (js := [0]) rfl rfl) (i_pure (p_move rfl)) ?_
     refine GA.take 5 rfl (by kernel_rfl) (by kernel_rfl) (by kernel_rfl) rfl (fun a w h => h.mem (is := [0]) (js := [0]) rfl rfl) (i_pure (p_nilCheck rfl)) ?_; refine GA.take 6 rfl (by kernel_rfl) (by kernel_rfl) (by kernel_rfl) rfl (fun a w h => h.mem (is := [0]) (js := [0]) rfl rfl) (i_pure (p_fieldAddr fo_191_1 rfl)) ?_
     refine GA.take 7 rfl (by kernel_rfl) (by kernel_rfl) (by kernel_rfl) rfl (fun a w h => h.mem (is := [0]) (js := [0]) rfl rfl) (i_mem (m_load (i := 0) rfl rfl ag_3 rfl)) ?_; refine GA.all (rs := [8]) (by kernel_rfl) (by simp) ?_
     refine GAs.cons (i := 8) rfl rfl (t_call rfl fn_169 rfl (is := []) (js := [0]) rfl rfl (by exact gettext_ct _ _ _ _ (by omega) (by omega) (by omega) (by omega))) (by rintro a w ⟨_, _, _, ⟨x20, n20, e20, A20, c20, hs20, l20, k20, rfl, rfl, rfl⟩, h⟩; exact h.mem (is := [0]) (js := [1]) rfl rfl) (GA.ret ?_) ?_
     ·rintro _ _ _ ⟨x20, n20, e20, A20, c20, hs20, l20, k20, rfl, rfl, rfl⟩
      refine GA.take 9 rfl (by kernel_rfl) (by kernel_rfl) (by kernel_rfl) rfl (fun a w h => h.mem (is := [0]) (js := [1]) rfl rfl) (i_pure (p_move rfl)) ?_; refine GA.take 10 rfl (by kernel_rfl) (by kernel_rfl) (by kernel_rfl) rfl (fun a w h => h.mem (is := [0]) (js := [1]) rfl rfl) (i_pure (p_extract rfl rfl)) ?_
      refine GA.take 11 rfl (by kernel_rfl) (by kernel_rfl) (by kernel_rfl) rfl (fun a w h => h.mem (is := [0]) (js := [1]) rfl rfl) (i_pure (p_extract rfl rfl)) ?_; refine GA.take 12 rfl (by kernel_rfl) (by kernel_rfl) (by kernel_rfl) rfl (fun a w h => h.mem (is := [0]) (js := [1]) rfl rfl) (i_pure (p_extract rfl rfl)) ?_
      refine GA.take 13 rfl (by kernel_rfl) (by kernel_rfl) (by kernel_rfl) rfl (fun a w h => h.mem (is := [0]) (js := [1]) rfl rfl) (i_pure (p_assign rfl)) ?_; refine GA.take 14 rfl (by kernel_rfl) (by kernel_rfl) (by kernel_rfl) rfl (fun a w h => h.mem (is := [0]) (js := [1]) rfl rfl) (i_pure (p_assign rfl)) ?_
      refine GA.take 15 rfl (by kernel_rfl) (by kernel_rfl) (by kernel_rfl) rfl (fun a w h => h.mem (is := [0]) (js := [1]) rfl rfl) (i_pure (p_assign rfl)) ?_
      refine GA.done (by kernel_rfl) (?_ : GC _ _ _ _)
      refine GC.seq' ?_; refine GC.sr_ ?_; refine GL.mv_ rfl rfl ?_; refine GL.pure rfl (p_neq rfl rfl) ?_; refine GL.nl_ ?_; refine GC.cond rfl (fun h2 => ?_) (fun h2 => ?_)
      ·try simp only [tst_] at h2
       first
       | (exfalso; first | exact hc0 h2 | exact hc0 (by omega))
       |(skip
         refine GC.sr_ ?_
         iterate 2 refine GL.mv_ rfl rfl ?_
         refine GL.pure rfl (p_nilCheck rfl) ?_; refine GL.pure rfl (p_fieldAddr fo_191_2 rfl) ?_; refine GL.step rfl (t_store (i := 0) rfl rfl rfl rfl sz_45 rfl rfl rfl) ?_; refine GL.nl_ ?_; refine GC.seq' ?_; refine GC.sr_ ?_
         refine GL.mv_ rfl rfl ?_; refine GL.pure rfl (p_neq rfl rfl) ?_; refine GL.nl_ ?_; refine GC.cond rfl (fun h3 => ?_) (fun h3 => ?_)
         ·try simp only [tst_] at h3
          first
          | (exfalso; first | exact hc0 h3 | exact hc0 (by omega))
          |(skip
            refine GC.region ?_; refine GL.mv_ rfl rfl ?_; refine GL.pure rfl (p_nilCheck rfl) ?_; refine GL.pure rfl (p_fieldAddr fo_191_2 rfl) ?_; refine GL.step rfl (t_store (i := 0) rfl rfl rfl rfl sz_45 rfl rfl rfl) ?_
            refine GL.nil (?_ : GC _ _ _ _)
            refine GC.sr_ ?_; refine GL.as_ rfl rfl ?_; refine GL.nl_ ?_; refine GC.ret ?_
            refine fun a w h => Fin.back (rs := [.tmp 2]) (vs := [_]) (is := []) (js := []) rfl ⟨rfl, trivial⟩ rfl rfl ?_ h
            clear h
            skip)
         ·try simp only [tst_] at h3
          first
          | (exfalso; first | exact hc0 h3 | exact hc0 (by omega))
          |(skip
            refine GC.skip (?_ : GC _ _ _ _)
            refine GC.sr_ ?_; refine GL.as_ rfl rfl ?_; refine GL.nl_ ?_; refine GC.ret ?_
            refine fun a w h => Fin.back (rs := [.tmp 2]) (vs := [_]) (is := []) (js := []) rfl ⟨rfl, trivial⟩ rfl rfl ?_ h
            clear h
            skip))
      ·try simp only [tst_] at h2
       first
       | (exfalso; first | exact hc0 h2 | exact hc0 (by omega))
       |(skip
         refine GC.skip (?_ : GC _ _ _ _)
         refine GC.sr_ ?_
         iterate 2 refine GL.mv_ rfl rfl ?_
         refine GL.pure rfl (p_nilCheck rfl) ?_; refine GL.pure rfl (p_fieldAddr fo_191_1 rfl) ?_; refine GL.step rfl (t_store (i := 0) rfl rfl rfl rfl sz_3 rfl rfl rfl) ?_; refine GL.nl_ ?_; refine GC.sr_ ?_; refine GL.mv_ rfl rfl ?_
         refine GL.as_ rfl rfl ?_; refine GL.nl_ ?_; refine GC.ret ?_
         refine fun a w h => Fin.back (rs := [.tmp 2]) (vs := [_]) (is := []) (js := []) rfl ⟨rfl, trivial⟩ rfl rfl ?_ h
         clear h
         skip)
     exact GAs.nil)
theorem bend_ct (p e_ : Nat) (A : Option Addr) (b : List UInt8) (cp at_ : Nat) (code may : Int) : Ct Tryz.prog 153 [.pointer (some ⟨p, 0, none⟩), .int .i64 may] (bleftG p e_ A b cp at_ code) []
    (fun u G Q => ∃ n e, ((e = 0 ↔ code = 0 ∧ may = 0) ∧ (e = 0 → n = (at_ : Int))) ∧ u = .tuple #[.int .i64 n, .int .i64 e] ∧ G = bleftG p e_ A b cp at_ code ∧ Q = []) := by
 refine Ct.intro Tryz.func153 rfl rfl rfl (fun c hc => ?_)
 refine GC.sr_ ?_
 iterate 2 refine GL.as_ rfl rfl ?_
 refine GL.nl_ ?_; refine GC.seq' ?_; refine GC.sr_ ?_; refine GL.mv_ rfl rfl ?_; refine GL.pure rfl (p_nilCheck rfl) ?_; refine GL.pure rfl (p_fieldAddr fo_193_0 rfl) ?_; refine GL.pure rfl (p_fieldAddr fo_191_2 rfl) ?_
 refine GL.step rfl (t_mem rfl (m_load (i := 0) rfl rfl ag_45 rfl)) ?_; refine GL.pure rfl (p_neq rfl rfl) ?_; refine GL.nl_ ?_; refine GC.cond rfl (fun h1 => ?_) (fun h1 => ?_)
 ·try simp only [tst_] at h1
  refine GC.seq' ?_; refine GC.regionQ wide_ (by kernel_rfl) ?_; refine GQ.step rfl (q_pure (p_move rfl)) ?_; refine GQ.step rfl (q_pure (p_nilCheck rfl)) ?_; refine GQ.step rfl (q_pure (p_fieldAddr fo_193_0 rfl)) ?_; refine GQ.step rfl (q_pure (p_fieldAddr fo_191_2 rfl)) ?_
  refine GQ.step rfl (q_mem (m_load (i := 0) rfl rfl ag_45 rfl)) ?_
  iterate 2 refine GQ.step rfl (q_pure (p_assign rfl)) ?_
  refine GQ.nil (?_ : GC _ _ _ _)
  refine GC.ret ?_
  refine fun a w h => Fin.back (rs := [.tmp 4, .tmp 5]) (vs := [_, _]) (is := [0]) (js := []) rfl ⟨rfl, rfl, trivial⟩ rfl rfl ?_ h
  clear h
  exact ⟨_, _, ⟨by omega, by omega⟩, rfl, rfl, rfl⟩
 ·try simp only [tst_] at h1
  refine GC.skip (?_ : GC _ _ _ _)
  refine GC.seq' ?_; refine GC.sr_ ?_; refine GL.mv_ rfl rfl ?_; refine GL.pure rfl (p_neq rfl rfl) ?_; refine GL.nl_ ?_; refine GC.cond rfl (fun h2 => ?_) (fun h2 => ?_)
  ·try simp only [tst_] at h2
   refine GC.sr_ ?_
   iterate 2 refine GL.as_ rfl rfl ?_
   refine GL.nl_ ?_; refine GC.ret ?_
   refine fun a w h => Fin.back (rs := [.tmp 4, .tmp 5]) (vs := [_, _]) (is := [0]) (js := []) rfl ⟨rfl, rfl, trivial⟩ rfl rfl ?_ h
   clear h
   exact ⟨_, _, ⟨by omega, by omega⟩, rfl, rfl, rfl⟩
  ·try simp only [tst_] at h2
   refine GC.skip (?_ : GC _ _ _ _)
   refine GC.sr_ ?_; refine GL.mv_ rfl rfl ?_; refine GL.pure rfl (p_nilCheck rfl) ?_; refine GL.pure rfl (p_fieldAddr fo_193_0 rfl) ?_; refine GL.pure rfl (p_fieldAddr fo_191_1 rfl) ?_; refine GL.step rfl (t_mem rfl (m_load (i := 0) rfl rfl ag_3 rfl)) ?_
   iterate 2 refine GL.as_ rfl rfl ?_
   refine GL.nl_ ?_; refine GC.ret ?_
   refine fun a w h => Fin.back (rs := [.tmp 4, .tmp 5]) (vs := [_, _]) (is := [0]) (js := []) rfl ⟨rfl, rfl, trivial⟩ rfl rfl ?_ h
   clear h
   exact ⟨_, _, ⟨by omega, by omega⟩, rfl, rfl, rfl⟩
def decOpS (b : List UInt8) : OpD × Nat × Int :=
  let x1 := numS b 0 0 1
  let x2 := numS b x1.2.1 x1.2.2 4
  let x3 := numS b x2.2.1 x2.2.2 4
  let x4 := txS b x3.2.1 x3.2.2
  let x5 := txS b x4.2.1 x4.2.2
  (⟨(x1.1 : Int), (x2.1 : Int), (x3.1 : Int), x4.1, x5.1⟩, x5.2)
theorem decOpS_eq {b : List UInt8} {v1 t1 v2 t2 v3 t3 t4 t5 : Nat} {k1 k2 k3 k4 k5 : Int} {x4 x5 : List UInt8} (e1 : numS b 0 0 1 = (v1, t1, k1)) (e2 : numS b t1 k1 4 = (v2, t2, k2)) (e3 : numS b t2 k2 4 = (v3, t3, k3)) (e4 : txS b t3 k3 = (x4, t4, k4)) (e5 : txS b t4 k4 = (x5, t5, k5)) :
    decOpS b = (⟨(v1 : Int), (v2 : Int), (v3 : Int), x4, x5⟩, t5, k5) := by
  simp only [decOpS, e1, e2, e3, e4, e5]
def decOp (b : List UInt8) : Option (OpD × Nat) := if (decOpS b).2.2 = 0 ∧ formE (decOpS b).1.kind (decOpS b).1.at_ (decOpS b).1.n (decOpS b).1.data.length (decOpS b).1.old.length = 0 then some ((decOpS b).1, (decOpS b).2.1) else none
theorem decop_ct (A : Option Addr) (b : List UInt8) (cp : Nat) (hb : b.length ≤ cp) (hcp' : cp ≤ 9223372036854775807) (hb' : b.length ≤ 10000000000000) : Ct Tryz.prog 129 [.slice A b.length cp] [] [Pers.row Kd.u8 A b]
    (fun u G Q => ∃ (o : OpD) (n : Nat) (e : Int) (A1 : Option Addr) (c1 : Nat) (A2 : Option Addr) (c2 : Nat), (e = 0 → decOp b = some (o, n)) ∧ (n ≤ b.length ∧ (e ≠ 0 → decOp b = none)) ∧ o.data.length ≤ c1 ∧ c1 ≤ 9223372036854775807 ∧ o.old.length ≤ c2 ∧ c2 ≤ 9223372036854775807 ∧ u = .tuple #[opD o A1 c1 A2 c2, .int .i64 (n : Int), .int .i64 e] ∧ G = [] ∧ Q = [Pers.row Kd.u8 A1 o.data, Pers.row Kd.u8 A2 o.old]) := by
 have hp1 : (256 : Nat) ^ 1 = 256 := p256_1
 have hp4 : (256 : Nat) ^ 4 = 4294967296 := p256_4
 refine Ct.intro Tryz.func129 rfl rfl rfl (fun c hc => ?_)
 refine GC.sr_ ?_; refine GL.step rfl (t_alloc rfl ze_27) (GL.ex fun b_t2 => ?_)
 iterate 2 refine GL.as_ rfl rfl ?_
 refine GL.nl_ ?_; refine GC.sr_ ?_; refine GL.mv_ rfl rfl ?_; refine GL.pure rfl (p_build ze_191 of_191 rfl rfl) ?_; refine GL.pure rfl (p_build ze_193 of_193 rfl rfl) ?_; refine GL.step rfl (t_box rfl rfl rfl) (GL.ex fun b_t12 => ?_)
 refine GL.as_ rfl rfl ?_; refine GL.nl_ ?_; refine GC.seq' ?_; refine GC.regionC (m := 16) (is := [1]) (js := [0]) wide_ rfl rfl rfl ?_; refine GA.take 0 rfl (by kernel_rfl) (by kernel_rfl) (by kernel_rfl) rfl (fun a w h => h.mem (is := [1]) (js := [0]) rfl rfl) (i_pure (p_move rfl)) ?_
 refine GA.take 1 rfl (by kernel_rfl) (by kernel_rfl) (by kernel_rfl) rfl (fun a w h => h.mem (is := [1]) (js := [0]) rfl rfl) (i_pure (p_nilCheck rfl)) ?_; refine GA.take 2 rfl (by kernel_rfl) (by kernel_rfl) (by kernel_rfl) rfl (fun a w h => h.mem (is := [1]) (js := [0]) rfl rfl) (i_pure (p_fieldAddr fo_193_0 rfl)) ?_
 refine GA.take 5 rfl (by kernel_rfl) (by kernel_rfl) (by kernel_rfl) rfl (fun a w h => h.mem (is := [1]) (js := [0]) rfl rfl) (i_pure (p_move rfl)) ?_; refine GA.take 6 rfl (by kernel_rfl) (by kernel_rfl) (by kernel_rfl) rfl (fun a w h => h.mem (is := [1]) (js := [0]) rfl rfl) (i_pure (p_nilCheck rfl)) ?_
 refine GA.take 7 rfl (by kernel_rfl) (by kernel_rfl) (by kernel_rfl) rfl (fun a w h => h.mem (is := [1]) (js := [0]) rfl rfl) (i_pure (p_fieldAddr fo_193_0 rfl)) ?_; refine GA.take 9 rfl (by kernel_rfl) (by kernel_rfl) (by kernel_rfl) rfl (fun a w h => h.mem (is := [1]) (js := [0]) rfl rfl) (i_pure (p_move rfl)) ?_
 refine GA.take 10 rfl (by kernel_rfl) (by kernel_rfl) (by kernel_rfl) rfl (fun a w h => h.mem (is := [1]) (js := [0]) rfl rfl) (i_pure (p_nilCheck rfl)) ?_; refine GA.take 11 rfl (by kernel_rfl) (by kernel_rfl) (by kernel_rfl) rfl (fun a w h => h.mem (is := [1]) (js := [0]) rfl rfl) (i_pure (p_fieldAddr fo_193_0 rfl)) ?_
 refine GA.all (rs := [3, 14]) (by kernel_rfl) (by simp) ?_
 refine GAs.cons (i := 3) rfl rfl (t_call rfl fn_151 rfl (is := [0]) (js := [0]) rfl rfl (by exact bnum_ct _ _ _ b _ 0 0 1 (by omega) (by omega) (by omega) (by omega) (by omega))) (by rintro a w ⟨_, _, _, ⟨v16, t16, k16, hs16, rfl, rfl, rfl⟩, h⟩; exact h.mem (is := [1]) (js := [0]) rfl rfl) (GA.ret ?_) ?_
 ·rintro _ _ _ ⟨v16, t16, k16, hs16, rfl, rfl, rfl⟩
  obtain ⟨ht16, hv16⟩ := numS_rng hs16 (by omega)
  refine GA.take 4 rfl (by kernel_rfl) (by kernel_rfl) (by kernel_rfl) rfl (fun a w h => h.mem (is := [1]) (js := [0]) rfl rfl) (i_pure (p_convR (t := 3) (r := ((v16 : Nat) : Int)) (by rw [Tryz.underlying3]; simp) Tryz.underlying24 rfl (by simp [IntKind.wrap, IntKind.bits, IntKind.signed]; omega))) ?_
  refine GA.all (rs := [8, 14]) (by kernel_rfl) (by simp) ?_
  refine GAs.cons (i := 8) rfl rfl (t_call rfl fn_151 rfl (is := [0]) (js := [0]) rfl rfl (by exact bnum_ct _ _ _ b _ t16 k16 4 (by omega) (by omega) (by omega) (by omega) (by omega))) (by rintro a w ⟨_, _, _, ⟨v21, t21, k21, hs21, rfl, rfl, rfl⟩, h⟩; exact h.mem (is := [1]) (js := [0]) rfl rfl) (GA.ret ?_) ?_
  ·rintro _ _ _ ⟨v21, t21, k21, hs21, rfl, rfl, rfl⟩
   obtain ⟨ht21, hv21⟩ := numS_rng hs21 (by omega)
   refine GA.all (rs := [12, 14]) (by kernel_rfl) (by simp) ?_
   refine GAs.cons (i := 12) rfl rfl (t_call rfl fn_151 rfl (is := [0]) (js := [0]) rfl rfl (by exact bnum_ct _ _ _ b _ t21 k21 4 (by omega) (by omega) (by omega) (by omega) (by omega))) (by rintro a w ⟨_, _, _, ⟨v25, t25, k25, hs25, rfl, rfl, rfl⟩, h⟩; exact h.mem (is := [1]) (js := [0]) rfl rfl) (GA.ret ?_) ?_
   ·rintro _ _ _ ⟨v25, t25, k25, hs25, rfl, rfl, rfl⟩
    obtain ⟨ht25, hv25⟩ := numS_rng hs25 (by omega)
    refine GA.take 13 rfl (by kernel_rfl) (by kernel_rfl) (by kernel_rfl) rfl (fun a w h => h.mem (is := [1]) (js := [0]) rfl rfl) (i_pure (p_build ze_27 of_27 rfl rfl)) ?_; refine GA.all (rs := [14]) (by kernel_rfl) (by simp) ?_
    refine GAs.cons (i := 14) rfl rfl (t_alloc rfl ze_27) (by rintro a w ⟨_, h⟩; exact h.mem (is := [2]) (js := [0]) rfl rfl) (GA.ex fun b_t6 => ?_) ?_
    ·refine GA.all (rs := [15]) (by kernel_rfl) (by simp) ?_
     refine GAs.cons (i := 15) rfl rfl (t_storeN (i := 0) rfl rfl rfl sz_27 rfl rfl rfl) (by rintro a w h; exact h.mem (is := [2]) (js := [0]) rfl rfl) ?_ ?_
     ·refine GA.done (by kernel_rfl) (?_ : GC _ _ _ _)
      refine GC.sr_ ?_; refine GL.mv_ rfl rfl ?_; refine GL.pure rfl (p_nilCheck rfl) ?_; refine GL.pure rfl (p_fieldAddr fo_193_0 rfl) ?_; refine GL.step rfl (t_call rfl fn_152 rfl (is := [1]) (js := [0]) rfl rfl (by exact btext_ct _ _ _ _ _ _ _ (by omega) (by omega) (by omega) (by omega))) (GL.ret ?_)
      rintro _ _ _ ⟨x30, t30, k30, A30, c30, hs30, l30, m30, rfl, rfl, rfl⟩
      obtain ⟨ht30, hx30⟩ := txS_rng hs30 (by omega)
      refine GL.pure rfl (p_fieldAddr fo_27_3 rfl) ?_; refine GL.step rfl (t_store (i := 1) rfl rfl rfl rfl sz_25 rfl rfl rfl) ?_; refine GL.nl_ ?_; refine GC.sr_ ?_; refine GL.mv_ rfl rfl ?_; refine GL.pure rfl (p_nilCheck rfl) ?_
      refine GL.pure rfl (p_fieldAddr fo_193_0 rfl) ?_; refine GL.step rfl (t_call rfl fn_152 rfl (is := [0]) (js := [1]) rfl rfl (by exact btext_ct _ _ _ _ _ _ _ (by omega) (by omega) (by omega) (by omega))) (GL.ret ?_)
      rintro _ _ _ ⟨x35, t35, k35, A35, c35, hs35, l35, m35, rfl, rfl, rfl⟩
      obtain ⟨ht35, hx35⟩ := txS_rng hs35 (by omega)
      refine GL.pure rfl (p_fieldAddr fo_27_4 rfl) ?_; refine GL.step rfl (t_store (i := 1) rfl rfl rfl rfl sz_25 rfl rfl rfl) ?_; refine GL.nl_ ?_; refine GC.sr_ ?_; refine GL.mv_ rfl rfl ?_; refine GL.step rfl (t_mem rfl (m_loadN (i := 1) rfl rfl ag_27 (vs := [_, _, _, _, _]) sz_27 ⟨rfl, rfl, rfl, rfl, rfl, trivial⟩)) ?_
      refine GL.step rfl (t_call rfl fn_60 rfl (is := []) (js := []) rfl rfl (by exact form_ct (v16 : Int) (v21 : Int) (v25 : Int) _ x30.length _ _ x35.length _)) (GL.ret ?_)
      rintro _ _ _ ⟨rfl, rfl, rfl⟩
      refine GL.step rfl (t_call rfl fn_153 rfl (is := [0]) (js := []) rfl rfl (by exact bend_ct _ _ _ _ _ _ _ _)) (GL.ret ?_)
      rintro _ _ _ ⟨n41, e41, hn41, rfl, rfl, rfl⟩
      refine GL.mv_ rfl rfl ?_
      iterate 2 refine GL.pure rfl (p_extract rfl rfl) ?_
      iterate 2 refine GL.as_ rfl rfl ?_
      refine GL.nl_ ?_; refine GC.seq' ?_; refine GC.sr_ ?_
      have hd := decOpS_eq hs16 hs21 hs25 hs30 hs35
      refine GL.mv_ rfl rfl ?_; refine GL.pure rfl (p_neq rfl rfl) ?_; refine GL.nl_ ?_; refine GC.cond rfl (fun h1 => ?_) (fun h1 => ?_)
      ·try simp only [tst_] at h1
       refine GC.sr_ ?_; refine GL.pure rfl (p_build ze_27 of_27 rfl rfl) ?_; refine GL.mv_ rfl rfl ?_; refine GL.step rfl (t_storeN (i := 2) rfl rfl rfl sz_27 rfl rfl rfl) ?_
       iterate 2 refine GL.as_ rfl rfl ?_
       refine GL.nl_ ?_; refine GC.know (q := Pers.row Kd.u8 none []) (fun _ _ _ => .inl rfl) ?_; refine GC.ret ?_
       refine fun a w h => Fin.back (rs := [.cell 2 27, .tmp 3, .tmp 4]) (vs := [_, _, _]) (is := []) (js := [0, 0]) rfl ⟨⟨2, _, _, _, _, rfl, rfl, .inr ⟨[_, _, _, _, _], rfl, ag_27, sz_27, ⟨rfl, rfl, rfl, rfl, rfl, trivial⟩⟩⟩, rfl, rfl, trivial⟩ rfl rfl ?_ h
       clear h
       exact ⟨zop, 0, _, none, 0, none, 0, fun h => by omega, ⟨by omega, fun _ => by rw [decOp, hd, if_neg]; intro hh; exact absurd (hn41.1.2 hh) (by assumption)⟩, by simp [zop], by simp, by simp [zop], by simp, rfl, rfl, rfl⟩
      ·try simp only [tst_] at h1
       refine GC.skip (?_ : GC _ _ _ _)
       refine GC.sr_ ?_; refine GL.step rfl (t_mem rfl (m_loadN (i := 1) rfl rfl ag_27 (vs := [_, _, _, _, _]) sz_27 ⟨rfl, rfl, rfl, rfl, rfl, trivial⟩)) ?_; refine GL.mv_ rfl rfl ?_; refine GL.step rfl (t_storeN (i := 2) rfl rfl rfl sz_27 rfl rfl rfl) ?_
       iterate 2 refine GL.as_ rfl rfl ?_
       refine GL.nl_ ?_; refine GC.ret ?_
       refine fun a w h => Fin.back (rs := [.cell 2 27, .tmp 3, .tmp 4]) (vs := [_, _, _]) (is := []) (js := [1, 0]) rfl ⟨⟨2, _, _, _, _, rfl, rfl, .inr ⟨[_, _, _, _, _], rfl, ag_27, sz_27, ⟨rfl, rfl, rfl, rfl, rfl, trivial⟩⟩⟩, rfl, rfl, trivial⟩ rfl rfl ?_ h
       clear h
       have e0 : e41 = 0 := by assumption
       have en := hn41.2 e0
       subst en e0
       exact ⟨⟨(v16 : Int), (v21 : Int), (v25 : Int), x30, x35⟩, t35, 0, _, _, _, _, fun _ => by rw [decOp, hd, if_pos (hn41.1.1 rfl)], ⟨ht35, fun h => absurd rfl h⟩, l30, m30, l35, m35, rfl, rfl, rfl⟩
     exact GAs.nil
    exact GAs.nil
   refine GAs.cons (i := 14) rfl rfl (t_alloc rfl ze_27) (by rintro a w ⟨_, h⟩; exact h.mem (is := [2]) (js := [0]) rfl rfl) (GA.ex fun b_t6 => ?_) ?_
   ·refine GA.all (rs := [12]) (by kernel_rfl) (by simp) ?_
    refine GAs.cons (i := 12) rfl rfl (t_call rfl fn_151 rfl (is := [1]) (js := [0]) rfl rfl (by exact bnum_ct _ _ _ b _ t21 k21 4 (by omega) (by omega) (by omega) (by omega) (by omega))) (by rintro a w ⟨_, _, _, ⟨v25, t25, k25, hs25, rfl, rfl, rfl⟩, h⟩; exact h.mem (is := [2]) (js := [0]) rfl rfl) (GA.ret ?_) ?_
    ·rintro _ _ _ ⟨v25, t25, k25, hs25, rfl, rfl, rfl⟩
     obtain ⟨ht25, hv25⟩ := numS_rng hs25 (by omega)
     refine GA.take 13 rfl (by kernel_rfl) (by kernel_rfl) (by kernel_rfl) rfl (fun a w h => h.mem (is := [2]) (js := [0]) rfl rfl) (i_pure (p_build ze_27 of_27 rfl rfl)) ?_; refine GA.all (rs := [15]) (by kernel_rfl) (by simp) ?_
     refine GAs.cons (i := 15) rfl rfl (t_storeN (i := 1) rfl rfl rfl sz_27 rfl rfl rfl) (by rintro a w h; exact h.mem (is := [2]) (js := [0]) rfl rfl) ?_ ?_
     ·refine GA.done (by kernel_rfl) (?_ : GC _ _ _ _)
      refine GC.sr_ ?_; refine GL.mv_ rfl rfl ?_; refine GL.pure rfl (p_nilCheck rfl) ?_; refine GL.pure rfl (p_fieldAddr fo_193_0 rfl) ?_; refine GL.step rfl (t_call rfl fn_152 rfl (is := [0]) (js := [0]) rfl rfl (by exact btext_ct _ _ _ _ _ _ _ (by omega) (by omega) (by omega) (by omega))) (GL.ret ?_)
      rintro _ _ _ ⟨x30, t30, k30, A30, c30, hs30, l30, m30, rfl, rfl, rfl⟩
      obtain ⟨ht30, hx30⟩ := txS_rng hs30 (by omega)
      refine GL.pure rfl (p_fieldAddr fo_27_3 rfl) ?_; refine GL.step rfl (t_store (i := 1) rfl rfl rfl rfl sz_25 rfl rfl rfl) ?_; refine GL.nl_ ?_; refine GC.sr_ ?_; refine GL.mv_ rfl rfl ?_; refine GL.pure rfl (p_nilCheck rfl) ?_
      refine GL.pure rfl (p_fieldAddr fo_193_0 rfl) ?_; refine GL.step rfl (t_call rfl fn_152 rfl (is := [0]) (js := [1]) rfl rfl (by exact btext_ct _ _ _ _ _ _ _ (by omega) (by omega) (by omega) (by omega))) (GL.ret ?_)
      rintro _ _ _ ⟨x35, t35, k35, A35, c35, hs35, l35, m35, rfl, rfl, rfl⟩
      obtain ⟨ht35, hx35⟩ := txS_rng hs35 (by omega)
      refine GL.pure rfl (p_fieldAddr fo_27_4 rfl) ?_; refine GL.step rfl (t_store (i := 1) rfl rfl rfl rfl sz_25 rfl rfl rfl) ?_; refine GL.nl_ ?_; refine GC.sr_ ?_; refine GL.mv_ rfl rfl ?_; refine GL.step rfl (t_mem rfl (m_loadN (i := 1) rfl rfl ag_27 (vs := [_, _, _, _, _]) sz_27 ⟨rfl, rfl, rfl, rfl, rfl, trivial⟩)) ?_
      refine GL.step rfl (t_call rfl fn_60 rfl (is := []) (js := []) rfl rfl (by exact form_ct (v16 : Int) (v21 : Int) (v25 : Int) _ x30.length _ _ x35.length _)) (GL.ret ?_)
      rintro _ _ _ ⟨rfl, rfl, rfl⟩
      refine GL.step rfl (t_call rfl fn_153 rfl (is := [0]) (js := []) rfl rfl (by exact bend_ct _ _ _ _ _ _ _ _)) (GL.ret ?_)
      rintro _ _ _ ⟨n41, e41, hn41, rfl, rfl, rfl⟩
      refine GL.mv_ rfl rfl ?_
      iterate 2 refine GL.pure rfl (p_extract rfl rfl) ?_
      iterate 2 refine GL.as_ rfl rfl ?_
      refine GL.nl_ ?_; refine GC.seq' ?_; refine GC.sr_ ?_
      have hd := decOpS_eq hs16 hs21 hs25 hs30 hs35
      refine GL.mv_ rfl rfl ?_; refine GL.pure rfl (p_neq rfl rfl) ?_; refine GL.nl_ ?_; refine GC.cond rfl (fun h1 => ?_) (fun h1 => ?_)
      ·try simp only [tst_] at h1
       refine GC.sr_ ?_; refine GL.pure rfl (p_build ze_27 of_27 rfl rfl) ?_; refine GL.mv_ rfl rfl ?_; refine GL.step rfl (t_storeN (i := 2) rfl rfl rfl sz_27 rfl rfl rfl) ?_
       iterate 2 refine GL.as_ rfl rfl ?_
       refine GL.nl_ ?_; refine GC.know (q := Pers.row Kd.u8 none []) (fun _ _ _ => .inl rfl) ?_; refine GC.ret ?_
       refine fun a w h => Fin.back (rs := [.cell 2 27, .tmp 3, .tmp 4]) (vs := [_, _, _]) (is := []) (js := [0, 0]) rfl ⟨⟨2, _, _, _, _, rfl, rfl, .inr ⟨[_, _, _, _, _], rfl, ag_27, sz_27, ⟨rfl, rfl, rfl, rfl, rfl, trivial⟩⟩⟩, rfl, rfl, trivial⟩ rfl rfl ?_ h
       clear h
       exact ⟨zop, 0, _, none, 0, none, 0, fun h => by omega, ⟨by omega, fun _ => by rw [decOp, hd, if_neg]; intro hh; exact absurd (hn41.1.2 hh) (by assumption)⟩, by simp [zop], by simp, by simp [zop], by simp, rfl, rfl, rfl⟩
      ·try simp only [tst_] at h1
       refine GC.skip (?_ : GC _ _ _ _)
       refine GC.sr_ ?_; refine GL.step rfl (t_mem rfl (m_loadN (i := 1) rfl rfl ag_27 (vs := [_, _, _, _, _]) sz_27 ⟨rfl, rfl, rfl, rfl, rfl, trivial⟩)) ?_; refine GL.mv_ rfl rfl ?_; refine GL.step rfl (t_storeN (i := 2) rfl rfl rfl sz_27 rfl rfl rfl) ?_
       iterate 2 refine GL.as_ rfl rfl ?_
       refine GL.nl_ ?_; refine GC.ret ?_
       refine fun a w h => Fin.back (rs := [.cell 2 27, .tmp 3, .tmp 4]) (vs := [_, _, _]) (is := []) (js := [1, 0]) rfl ⟨⟨2, _, _, _, _, rfl, rfl, .inr ⟨[_, _, _, _, _], rfl, ag_27, sz_27, ⟨rfl, rfl, rfl, rfl, rfl, trivial⟩⟩⟩, rfl, rfl, trivial⟩ rfl rfl ?_ h
       clear h
       have e0 : e41 = 0 := by assumption
       have en := hn41.2 e0
       subst en e0
       exact ⟨⟨(v16 : Int), (v21 : Int), (v25 : Int), x30, x35⟩, t35, 0, _, _, _, _, fun _ => by rw [decOp, hd, if_pos (hn41.1.1 rfl)], ⟨ht35, fun h => absurd rfl h⟩, l30, m30, l35, m35, rfl, rfl, rfl⟩
     exact GAs.nil
    exact GAs.nil
   exact GAs.nil
  refine GAs.cons (i := 14) rfl rfl (t_alloc rfl ze_27) (by rintro a w ⟨_, h⟩; exact h.mem (is := [2]) (js := [0]) rfl rfl) (GA.ex fun b_t6 => ?_) ?_
  ·refine GA.all (rs := [8]) (by kernel_rfl) (by simp) ?_
   refine GAs.cons (i := 8) rfl rfl (t_call rfl fn_151 rfl (is := [1]) (js := [0]) rfl rfl (by exact bnum_ct _ _ _ b _ t16 k16 4 (by omega) (by omega) (by omega) (by omega) (by omega))) (by rintro a w ⟨_, _, _, ⟨v21, t21, k21, hs21, rfl, rfl, rfl⟩, h⟩; exact h.mem (is := [2]) (js := [0]) rfl rfl) (GA.ret ?_) ?_
   ·rintro _ _ _ ⟨v21, t21, k21, hs21, rfl, rfl, rfl⟩
    obtain ⟨ht21, hv21⟩ := numS_rng hs21 (by omega)
    refine GA.all (rs := [12]) (by kernel_rfl) (by simp) ?_
    refine GAs.cons (i := 12) rfl rfl (t_call rfl fn_151 rfl (is := [0]) (js := [0]) rfl rfl (by exact bnum_ct _ _ _ b _ t21 k21 4 (by omega) (by omega) (by omega) (by omega) (by omega))) (by rintro a w ⟨_, _, _, ⟨v25, t25, k25, hs25, rfl, rfl, rfl⟩, h⟩; exact h.mem (is := [2]) (js := [0]) rfl rfl) (GA.ret ?_) ?_
    ·rintro _ _ _ ⟨v25, t25, k25, hs25, rfl, rfl, rfl⟩
     obtain ⟨ht25, hv25⟩ := numS_rng hs25 (by omega)
     refine GA.take 13 rfl (by kernel_rfl) (by kernel_rfl) (by kernel_rfl) rfl (fun a w h => h.mem (is := [2]) (js := [0]) rfl rfl) (i_pure (p_build ze_27 of_27 rfl rfl)) ?_; refine GA.all (rs := [15]) (by kernel_rfl) (by simp) ?_
     refine GAs.cons (i := 15) rfl rfl (t_storeN (i := 1) rfl rfl rfl sz_27 rfl rfl rfl) (by rintro a w h; exact h.mem (is := [2]) (js := [0]) rfl rfl) ?_ ?_
     ·refine GA.done (by kernel_rfl) (?_ : GC _ _ _ _)
      refine GC.sr_ ?_; refine GL.mv_ rfl rfl ?_; refine GL.pure rfl (p_nilCheck rfl) ?_; refine GL.pure rfl (p_fieldAddr fo_193_0 rfl) ?_; refine GL.step rfl (t_call rfl fn_152 rfl (is := [0]) (js := [0]) rfl rfl (by exact btext_ct _ _ _ _ _ _ _ (by omega) (by omega) (by omega) (by omega))) (GL.ret ?_)
      rintro _ _ _ ⟨x30, t30, k30, A30, c30, hs30, l30, m30, rfl, rfl, rfl⟩
      obtain ⟨ht30, hx30⟩ := txS_rng hs30 (by omega)
      refine GL.pure rfl (p_fieldAddr fo_27_3 rfl) ?_; refine GL.step rfl (t_store (i := 1) rfl rfl rfl rfl sz_25 rfl rfl rfl) ?_; refine GL.nl_ ?_; refine GC.sr_ ?_; refine GL.mv_ rfl rfl ?_; refine GL.pure rfl (p_nilCheck rfl) ?_
      refine GL.pure rfl (p_fieldAddr fo_193_0 rfl) ?_; refine GL.step rfl (t_call rfl fn_152 rfl (is := [0]) (js := [1]) rfl rfl (by exact btext_ct _ _ _ _ _ _ _ (by omega) (by omega) (by omega) (by omega))) (GL.ret ?_)
      rintro _ _ _ ⟨x35, t35, k35, A35, c35, hs35, l35, m35, rfl, rfl, rfl⟩
      obtain ⟨ht35, hx35⟩ := txS_rng hs35 (by omega)
      refine GL.pure rfl (p_fieldAddr fo_27_4 rfl) ?_; refine GL.step rfl (t_store (i := 1) rfl rfl rfl rfl sz_25 rfl rfl rfl) ?_; refine GL.nl_ ?_; refine GC.sr_ ?_; refine GL.mv_ rfl rfl ?_; refine GL.step rfl (t_mem rfl (m_loadN (i := 1) rfl rfl ag_27 (vs := [_, _, _, _, _]) sz_27 ⟨rfl, rfl, rfl, rfl, rfl, trivial⟩)) ?_
      refine GL.step rfl (t_call rfl fn_60 rfl (is := []) (js := []) rfl rfl (by exact form_ct (v16 : Int) (v21 : Int) (v25 : Int) _ x30.length _ _ x35.length _)) (GL.ret ?_)
      rintro _ _ _ ⟨rfl, rfl, rfl⟩
      refine GL.step rfl (t_call rfl fn_153 rfl (is := [0]) (js := []) rfl rfl (by exact bend_ct _ _ _ _ _ _ _ _)) (GL.ret ?_)
      rintro _ _ _ ⟨n41, e41, hn41, rfl, rfl, rfl⟩
      refine GL.mv_ rfl rfl ?_
      iterate 2 refine GL.pure rfl (p_extract rfl rfl) ?_
      iterate 2 refine GL.as_ rfl rfl ?_
      refine GL.nl_ ?_; refine GC.seq' ?_; refine GC.sr_ ?_
      have hd := decOpS_eq hs16 hs21 hs25 hs30 hs35
      refine GL.mv_ rfl rfl ?_; refine GL.pure rfl (p_neq rfl rfl) ?_; refine GL.nl_ ?_; refine GC.cond rfl (fun h1 => ?_) (fun h1 => ?_)
      ·try simp only [tst_] at h1
       refine GC.sr_ ?_; refine GL.pure rfl (p_build ze_27 of_27 rfl rfl) ?_; refine GL.mv_ rfl rfl ?_; refine GL.step rfl (t_storeN (i := 2) rfl rfl rfl sz_27 rfl rfl rfl) ?_
       iterate 2 refine GL.as_ rfl rfl ?_
       refine GL.nl_ ?_; refine GC.know (q := Pers.row Kd.u8 none []) (fun _ _ _ => .inl rfl) ?_; refine GC.ret ?_
       refine fun a w h => Fin.back (rs := [.cell 2 27, .tmp 3, .tmp 4]) (vs := [_, _, _]) (is := []) (js := [0, 0]) rfl ⟨⟨2, _, _, _, _, rfl, rfl, .inr ⟨[_, _, _, _, _], rfl, ag_27, sz_27, ⟨rfl, rfl, rfl, rfl, rfl, trivial⟩⟩⟩, rfl, rfl, trivial⟩ rfl rfl ?_ h
       clear h
       exact ⟨zop, 0, _, none, 0, none, 0, fun h => by omega, ⟨by omega, fun _ => by rw [decOp, hd, if_neg]; intro hh; exact absurd (hn41.1.2 hh) (by assumption)⟩, by simp [zop], by simp, by simp [zop], by simp, rfl, rfl, rfl⟩
      ·try simp only [tst_] at h1
       refine GC.skip (?_ : GC _ _ _ _)
       refine GC.sr_ ?_; refine GL.step rfl (t_mem rfl (m_loadN (i := 1) rfl rfl ag_27 (vs := [_, _, _, _, _]) sz_27 ⟨rfl, rfl, rfl, rfl, rfl, trivial⟩)) ?_; refine GL.mv_ rfl rfl ?_; refine GL.step rfl (t_storeN (i := 2) rfl rfl rfl sz_27 rfl rfl rfl) ?_
       iterate 2 refine GL.as_ rfl rfl ?_
       refine GL.nl_ ?_; refine GC.ret ?_
       refine fun a w h => Fin.back (rs := [.cell 2 27, .tmp 3, .tmp 4]) (vs := [_, _, _]) (is := []) (js := [1, 0]) rfl ⟨⟨2, _, _, _, _, rfl, rfl, .inr ⟨[_, _, _, _, _], rfl, ag_27, sz_27, ⟨rfl, rfl, rfl, rfl, rfl, trivial⟩⟩⟩, rfl, rfl, trivial⟩ rfl rfl ?_ h
       clear h
       have e0 : e41 = 0 := by assumption
       have en := hn41.2 e0
       subst en e0
       exact ⟨⟨(v16 : Int), (v21 : Int), (v25 : Int), x30, x35⟩, t35, 0, _, _, _, _, fun _ => by rw [decOp, hd, if_pos (hn41.1.1 rfl)], ⟨ht35, fun h => absurd rfl h⟩, l30, m30, l35, m35, rfl, rfl, rfl⟩
     exact GAs.nil
    exact GAs.nil
   exact GAs.nil
  exact GAs.nil
 refine GAs.cons (i := 14) rfl rfl (t_alloc rfl ze_27) (by rintro a w ⟨_, h⟩; exact h.mem (is := [2]) (js := [0]) rfl rfl) (GA.ex fun b_t6 => ?_) ?_
 ·refine GA.all (rs := [3]) (by kernel_rfl) (by simp) ?_
  refine GAs.cons (i := 3) rfl rfl (t_call rfl fn_151 rfl (is := [1]) (js := [0]) rfl rfl (by exact bnum_ct _ _ _ b _ 0 0 1 (by omega) (by omega) (by omega) (by omega) (by omega))) (by rintro a w ⟨_, _, _, ⟨v16, t16, k16, hs16, rfl, rfl, rfl⟩, h⟩; exact h.mem (is := [2]) (js := [0]) rfl rfl) (GA.ret ?_) ?_
  ·rintro _ _ _ ⟨v16, t16, k16, hs16, rfl, rfl, rfl⟩
   obtain ⟨ht16, hv16⟩ := numS_rng hs16 (by omega)
   refine GA.take 4 rfl (by kernel_rfl) (by kernel_rfl) (by kernel_rfl) rfl (fun a w h => h.mem (is := [2]) (js := [0]) rfl rfl) (i_pure (p_convR (t := 3) (r := ((v16 : Nat) : Int)) (by rw [Tryz.underlying3]; simp) Tryz.underlying24 rfl (by simp [IntKind.wrap, IntKind.bits, IntKind.signed]; omega))) ?_
   refine GA.all (rs := [8]) (by kernel_rfl) (by simp) ?_
   refine GAs.cons (i := 8) rfl rfl (t_call rfl fn_151 rfl (is := [0]) (js := [0]) rfl rfl (by exact bnum_ct _ _ _ b _ t16 k16 4 (by omega) (by omega) (by omega) (by omega) (by omega))) (by rintro a w ⟨_, _, _, ⟨v21, t21, k21, hs21, rfl, rfl, rfl⟩, h⟩; exact h.mem (is := [2]) (js := [0]) rfl rfl) (GA.ret ?_) ?_
   ·rintro _ _ _ ⟨v21, t21, k21, hs21, rfl, rfl, rfl⟩
    obtain ⟨ht21, hv21⟩ := numS_rng hs21 (by omega)
    refine GA.all (rs := [12]) (by kernel_rfl) (by simp) ?_
    refine GAs.cons (i := 12) rfl rfl (t_call rfl fn_151 rfl (is := [0]) (js := [0]) rfl rfl (by exact bnum_ct _ _ _ b _ t21 k21 4 (by omega) (by omega) (by omega) (by omega) (by omega))) (by rintro a w ⟨_, _, _, ⟨v25, t25, k25, hs25, rfl, rfl, rfl⟩, h⟩; exact h.mem (is := [2]) (js := [0]) rfl rfl) (GA.ret ?_) ?_
    ·rintro _ _ _ ⟨v25, t25, k25, hs25, rfl, rfl, rfl⟩
     obtain ⟨ht25, hv25⟩ := numS_rng hs25 (by omega)
     refine GA.take 13 rfl (by kernel_rfl) (by kernel_rfl) (by kernel_rfl) rfl (fun a w h => h.mem (is := [2]) (js := [0]) rfl rfl) (i_pure (p_build ze_27 of_27 rfl rfl)) ?_; refine GA.all (rs := [15]) (by kernel_rfl) (by simp) ?_
     refine GAs.cons (i := 15) rfl rfl (t_storeN (i := 1) rfl rfl rfl sz_27 rfl rfl rfl) (by rintro a w h; exact h.mem (is := [2]) (js := [0]) rfl rfl) ?_ ?_
     ·refine GA.done (by kernel_rfl) (?_ : GC _ _ _ _)
      refine GC.sr_ ?_; refine GL.mv_ rfl rfl ?_; refine GL.pure rfl (p_nilCheck rfl) ?_; refine GL.pure rfl (p_fieldAddr fo_193_0 rfl) ?_; refine GL.step rfl (t_call rfl fn_152 rfl (is := [0]) (js := [0]) rfl rfl (by exact btext_ct _ _ _ _ _ _ _ (by omega) (by omega) (by omega) (by omega))) (GL.ret ?_)
      rintro _ _ _ ⟨x30, t30, k30, A30, c30, hs30, l30, m30, rfl, rfl, rfl⟩
      obtain ⟨ht30, hx30⟩ := txS_rng hs30 (by omega)
      refine GL.pure rfl (p_fieldAddr fo_27_3 rfl) ?_; refine GL.step rfl (t_store (i := 1) rfl rfl rfl rfl sz_25 rfl rfl rfl) ?_; refine GL.nl_ ?_; refine GC.sr_ ?_; refine GL.mv_ rfl rfl ?_; refine GL.pure rfl (p_nilCheck rfl) ?_
      refine GL.pure rfl (p_fieldAddr fo_193_0 rfl) ?_; refine GL.step rfl (t_call rfl fn_152 rfl (is := [0]) (js := [1]) rfl rfl (by exact btext_ct _ _ _ _ _ _ _ (by omega) (by omega) (by omega) (by omega))) (GL.ret ?_)
      rintro _ _ _ ⟨x35, t35, k35, A35, c35, hs35, l35, m35, rfl, rfl, rfl⟩
      obtain ⟨ht35, hx35⟩ := txS_rng hs35 (by omega)
      refine GL.pure rfl (p_fieldAddr fo_27_4 rfl) ?_; refine GL.step rfl (t_store (i := 1) rfl rfl rfl rfl sz_25 rfl rfl rfl) ?_; refine GL.nl_ ?_; refine GC.sr_ ?_; refine GL.mv_ rfl rfl ?_; refine GL.step rfl (t_mem rfl (m_loadN (i := 1) rfl rfl ag_27 (vs := [_, _, _, _, _]) sz_27 ⟨rfl, rfl, rfl, rfl, rfl, trivial⟩)) ?_
      refine GL.step rfl (t_call rfl fn_60 rfl (is := []) (js := []) rfl rfl (by exact form_ct (v16 : Int) (v21 : Int) (v25 : Int) _ x30.length _ _ x35.length _)) (GL.ret ?_)
      rintro _ _ _ ⟨rfl, rfl, rfl⟩
      refine GL.step rfl (t_call rfl fn_153 rfl (is := [0]) (js := []) rfl rfl (by exact bend_ct _ _ _ _ _ _ _ _)) (GL.ret ?_)
      rintro _ _ _ ⟨n41, e41, hn41, rfl, rfl, rfl⟩
      refine GL.mv_ rfl rfl ?_
      iterate 2 refine GL.pure rfl (p_extract rfl rfl) ?_
      iterate 2 refine GL.as_ rfl rfl ?_
      refine GL.nl_ ?_; refine GC.seq' ?_; refine GC.sr_ ?_
      have hd := decOpS_eq hs16 hs21 hs25 hs30 hs35
      refine GL.mv_ rfl rfl ?_; refine GL.pure rfl (p_neq rfl rfl) ?_; refine GL.nl_ ?_; refine GC.cond rfl (fun h1 => ?_) (fun h1 => ?_)
      ·try simp only [tst_] at h1
       refine GC.sr_ ?_; refine GL.pure rfl (p_build ze_27 of_27 rfl rfl) ?_; refine GL.mv_ rfl rfl ?_; refine GL.step rfl (t_storeN (i := 2) rfl rfl rfl sz_27 rfl rfl rfl) ?_
       iterate 2 refine GL.as_ rfl rfl ?_
       refine GL.nl_ ?_; refine GC.know (q := Pers.row Kd.u8 none []) (fun _ _ _ => .inl rfl) ?_; refine GC.ret ?_
       refine fun a w h => Fin.back (rs := [.cell 2 27, .tmp 3, .tmp 4]) (vs := [_, _, _]) (is := []) (js := [0, 0]) rfl ⟨⟨2, _, _, _, _, rfl, rfl, .inr ⟨[_, _, _, _, _], rfl, ag_27, sz_27, ⟨rfl, rfl, rfl, rfl, rfl, trivial⟩⟩⟩, rfl, rfl, trivial⟩ rfl rfl ?_ h
       clear h
       exact ⟨zop, 0, _, none, 0, none, 0, fun h => by omega, ⟨by omega, fun _ => by rw [decOp, hd, if_neg]; intro hh; exact absurd (hn41.1.2 hh) (by assumption)⟩, by simp [zop], by simp, by simp [zop], by simp, rfl, rfl, rfl⟩
      ·try simp only [tst_] at h1
       refine GC.skip (?_ : GC _ _ _ _)
       refine GC.sr_ ?_; refine GL.step rfl (t_mem rfl (m_loadN (i := 1) rfl rfl ag_27 (vs := [_, _, _, _, _]) sz_27 ⟨rfl, rfl, rfl, rfl, rfl, trivial⟩)) ?_; refine GL.mv_ rfl rfl ?_; refine GL.step rfl (t_storeN (i := 2) rfl rfl rfl sz_27 rfl rfl rfl) ?_
       iterate 2 refine GL.as_ rfl rfl ?_
       refine GL.nl_ ?_; refine GC.ret ?_
       refine fun a w h => Fin.back (rs := [.cell 2 27, .tmp 3, .tmp 4]) (vs := [_, _, _]) (is := []) (js := [1, 0]) rfl ⟨⟨2, _, _, _, _, rfl, rfl, .inr ⟨[_, _, _, _, _], rfl, ag_27, sz_27, ⟨rfl, rfl, rfl, rfl, rfl, trivial⟩⟩⟩, rfl, rfl, trivial⟩ rfl rfl ?_ h
       clear h
       have e0 : e41 = 0 := by assumption
       have en := hn41.2 e0
       subst en e0
       exact ⟨⟨(v16 : Int), (v21 : Int), (v25 : Int), x30, x35⟩, t35, 0, _, _, _, _, fun _ => by rw [decOp, hd, if_pos (hn41.1.1 rfl)], ⟨ht35, fun h => absurd rfl h⟩, l30, m30, l35, m35, rfl, rfl, rfl⟩
     exact GAs.nil
    exact GAs.nil
   exact GAs.nil
  exact GAs.nil
 exact GAs.nil
end Go.Proofs.YtdhdmbmknpjhbaaGreat
namespace Go.Proofs.YtdhdmbmknpjhbaaGreat
open Go Go.Sx Go.Proofs
def decResS (b : List UInt8) : Res × Nat × Int :=
  let x1 := numS b 0 0 1
  let x2 := txS b x1.2.1 x1.2.2
  (⟨(x1.1 : Int), x2.1⟩, x2.2)
theorem decResS_eq {b : List UInt8} {v1 t1 t2 : Nat} {k1 k2 : Int} {x2 : List UInt8} (e1 : numS b 0 0 1 = (v1, t1, k1)) (e2 : txS b t1 k1 = (x2, t2, k2)) : decResS b = (⟨(v1 : Int), x2⟩, t2, k2) := by
  simp only [decResS, e1, e2]
def decRes (b : List UInt8) : Option (Res × Nat) := if (decResS b).2.2 = 0 ∧ resOk (decResS b).1.code (decResS b).1.data.length = true then some ((decResS b).1, (decResS b).2.1) else none
theorem decres_ct (A : Option Addr) (b : List UInt8) (cp : Nat) (hb : b.length ≤ cp) (hcp' : cp ≤ 9223372036854775807) (hb' : b.length ≤ 10000000000000) : Ct Tryz.prog 130 [.slice A b.length cp] [] [Pers.row Kd.u8 A b]
    (fun u G Q => ∃ (o : Res) (n : Nat) (e : Int) (A1 : Option Addr) (c1 : Nat), (e = 0 → decRes b = some (o, n)) ∧ (n ≤ b.length ∧ (e ≠ 0 → decRes b = none)) ∧ o.data.length ≤ c1 ∧ c1 ≤ 9223372036854775807 ∧ u = .tuple #[.agg #[.int .u8 o.code, .slice A1 o.data.length c1], .int .i64 (n : Int), .int .i64 e] ∧ G = [] ∧ Q = [Pers.row Kd.u8 A1 o.data]) := by
 have hp1 : (256 : Nat) ^ 1 = 256 := p256_1
 refine Ct.intro Tryz.func130 rfl rfl rfl (fun c hc => ?_)
 refine GC.sr_ ?_; refine GL.step rfl (t_alloc rfl ze_30) (GL.ex fun b_t2 => ?_)
 iterate 2 refine GL.as_ rfl rfl ?_
 refine GL.nl_ ?_; refine GC.sr_ ?_; refine GL.mv_ rfl rfl ?_; refine GL.pure rfl (p_build ze_191 of_191 rfl rfl) ?_; refine GL.pure rfl (p_build ze_193 of_193 rfl rfl) ?_; refine GL.step rfl (t_box rfl rfl rfl) (GL.ex fun b_t12 => ?_)
 refine GL.as_ rfl rfl ?_; refine GL.nl_ ?_; refine GC.sr_ ?_; refine GL.mv_ rfl rfl ?_; refine GL.pure rfl (p_nilCheck rfl) ?_; refine GL.pure rfl (p_fieldAddr fo_193_0 rfl) ?_; refine GL.step rfl (t_call rfl fn_151 rfl (is := [0]) (js := [0]) rfl rfl (by exact bnum_ct _ _ _ b _ 0 0 1 (by omega) (by omega) (by omega) (by omega) (by omega))) (GL.ret ?_)
 rintro _ _ _ ⟨v16, t16, k16, hs16, rfl, rfl, rfl⟩
 obtain ⟨ht16, hv16⟩ := numS_rng hs16 (by omega)
 refine GL.pure rfl (p_convR (t := 3) (r := ((v16 : Nat) : Int)) (by rw [Tryz.underlying3]; simp) Tryz.underlying28 rfl (by simp [IntKind.wrap, IntKind.bits, IntKind.signed]; omega)) ?_; refine GL.pure rfl (p_build ze_30 of_30 rfl rfl) ?_
 refine GL.step rfl (t_alloc rfl ze_30) (GL.ex fun b_t6 => ?_); refine GL.step rfl (t_storeN (i := 0) rfl rfl rfl sz_30 rfl rfl rfl) ?_; refine GL.nl_ ?_; refine GC.sr_ ?_; refine GL.mv_ rfl rfl ?_; refine GL.pure rfl (p_nilCheck rfl) ?_
 refine GL.pure rfl (p_fieldAddr fo_193_0 rfl) ?_; refine GL.step rfl (t_call rfl fn_152 rfl (is := [1]) (js := [0]) rfl rfl (by exact btext_ct _ _ _ _ _ _ _ (by omega) (by omega) (by omega) (by omega))) (GL.ret ?_)
 rintro _ _ _ ⟨x22, t22, k22, A22, c22, hs22, l22, m22, rfl, rfl, rfl⟩
 obtain ⟨ht22, hx22⟩ := txS_rng hs22 (by omega)
 refine GL.pure rfl (p_fieldAddr fo_30_1 rfl) ?_; refine GL.step rfl (t_store (i := 1) rfl rfl rfl rfl sz_25 rfl rfl rfl) ?_; refine GL.nl_ ?_; refine GC.sr_ ?_; refine GL.mv_ rfl rfl ?_; refine GL.step rfl (t_mem rfl (m_loadN (i := 1) rfl rfl ag_30 (vs := [_, _]) sz_30 ⟨rfl, rfl, trivial⟩)) ?_
 refine GL.step rfl (t_call rfl fn_61 rfl (is := []) (js := []) rfl rfl (by exact bres_ct (v16 : Int) _ x22.length _)) (GL.ret ?_)
 rintro _ _ _ ⟨rfl, rfl, rfl⟩
 refine GL.step rfl (t_call rfl fn_153 rfl (is := [0]) (js := []) rfl rfl (by exact bend_ct _ _ _ _ _ _ _ _)) (GL.ret ?_)
 rintro _ _ _ ⟨n28, e28, hn28, rfl, rfl, rfl⟩
 refine GL.mv_ rfl rfl ?_
 iterate 2 refine GL.pure rfl (p_extract rfl rfl) ?_
 iterate 2 refine GL.as_ rfl rfl ?_
 refine GL.nl_ ?_; refine GC.seq' ?_; refine GC.sr_ ?_
 have hd := decResS_eq hs16 hs22
 refine GL.mv_ rfl rfl ?_; refine GL.pure rfl (p_neq rfl rfl) ?_; refine GL.nl_ ?_; refine GC.cond rfl (fun h1 => ?_) (fun h1 => ?_)
 ·try simp only [tst_] at h1
  refine GC.sr_ ?_; refine GL.pure rfl (p_build ze_30 of_30 rfl rfl) ?_; refine GL.mv_ rfl rfl ?_; refine GL.step rfl (t_storeN (i := 2) rfl rfl rfl sz_30 rfl rfl rfl) ?_
  iterate 2 refine GL.as_ rfl rfl ?_
  refine GL.nl_ ?_; refine GC.know (q := Pers.row Kd.u8 none []) (fun _ _ _ => .inl rfl) ?_; refine GC.ret ?_
  refine fun a w h => Fin.back (rs := [.cell 2 30, .tmp 3, .tmp 4]) (vs := [_, _, _]) (is := []) (js := [0]) rfl ⟨⟨2, _, _, _, _, rfl, rfl, .inr ⟨[_, _], rfl, ag_30, sz_30, ⟨rfl, rfl, trivial⟩⟩⟩, rfl, rfl, trivial⟩ rfl rfl ?_ h
  clear h
  exact ⟨⟨0, []⟩, 0, _, none, 0, fun h => by omega, ⟨by omega, fun _ => by rw [decRes, hd, if_neg]; intro hh; exact absurd (hn28.1.2 ⟨hh.1, by rw [if_pos hh.2]⟩) (by assumption)⟩, by simp, by simp, rfl, rfl, rfl⟩
 ·try simp only [tst_] at h1
  refine GC.skip (?_ : GC _ _ _ _)
  refine GC.sr_ ?_; refine GL.step rfl (t_mem rfl (m_loadN (i := 1) rfl rfl ag_30 (vs := [_, _]) sz_30 ⟨rfl, rfl, trivial⟩)) ?_; refine GL.mv_ rfl rfl ?_; refine GL.step rfl (t_storeN (i := 2) rfl rfl rfl sz_30 rfl rfl rfl) ?_
  iterate 2 refine GL.as_ rfl rfl ?_
  refine GL.nl_ ?_; refine GC.ret ?_
  refine fun a w h => Fin.back (rs := [.cell 2 30, .tmp 3, .tmp 4]) (vs := [_, _, _]) (is := []) (js := [0]) rfl ⟨⟨2, _, _, _, _, rfl, rfl, .inr ⟨[_, _], rfl, ag_30, sz_30, ⟨rfl, rfl, trivial⟩⟩⟩, rfl, rfl, trivial⟩ rfl rfl ?_ h
  clear h
  have e0 : e28 = 0 := by assumption
  have en := hn28.2 e0
  subst en e0
  exact ⟨⟨(v16 : Int), x22⟩, t22, 0, _, _, fun _ => by rw [decRes, hd, if_pos ⟨(hn28.1.1 rfl).1, Eq.mp (resE_iff _) (hn28.1.1 rfl).2⟩], ⟨ht22, fun h => absurd rfl h⟩, l22, m22, rfl, rfl, rfl⟩
end Go.Proofs.YtdhdmbmknpjhbaaGreat
namespace Go.Sx
open Go
section
variable {P : Program} {c : Cx} {n : Nat} {env env' : List (Nat × Value)} {G G' Gr : List Own} {Q Q' : List Pers} {d : Nat} {ty : TypeId} {pos : String} {aft : Array Edge} {g : Option (Nat × Bool)} {x y : Operand} {t : TypeId} {a a' : Act} {w w' : World}
def onlyP (c : Cx) (E : Value → Prop) (M : Asr) : Exit → Asr
  | .normal => M
  | .panic ch => fun a w => a.defers = c.D ∧ PanOf E c.L0 c.w0 w (.panicked ch)
  | _ => fun _ _ => False
def GX (P : Program) (ops : Array Oper) (c : Cx) (E : Value → Prop) (M : Asr) (I : World → Prop) (fuel : Nat) (listed : Array Bool) (A : Asr) : Prop := ∀ a w, A a w → wpAnyH P .any ops (onlyP c E M) I fuel listed a w
theorem GC.regionX {R : Exit → Asr} {E : Value → Prop} {id m : Nat} {l : List Oper} {is js : List Nat} {GI : List Own} {QI : List Pers} (hm : P.follows .mixedOrders = true) (hsz : l.length = m) (hsel : sel G is = some (GI, Gr)) (hq : pickQ Q js = some QI)
    (hR : ∀ ch a w, a.defers = c.D → PanOf E c.L0 c.w0 w (.panicked ch) → R (.panic ch) a w) (h : GX P l.toArray c E (R .normal) (Mem c GI QI) m (Array.replicate m false) (St c n env G Q)) : GC P R (.region id l.toArray true) (St c n env G Q) := fun a w ha => by
  refine Code.wp_mono (fun e a w he => ?_) (wp_region_held (Q := onlyP c E (R .normal)) (S := Mem c GI QI) hm ?_)
  · cases e <;> first | exact hR _ _ _ he.1 he.2 | exact he | exact he.elim
  · subst hsz
    have := h a _ (St.drew ha)
    simpa using this
theorem GC.regionXM {R : Exit → Asr} {E : Value → Prop} {M : Asr} {id m : Nat} {l : List Oper} {is js : List Nat} {GI : List Own} {QI : List Pers} (hm : P.follows .mixedOrders = true) (hsz : l.length = m) (hsel : sel G is = some (GI, Gr)) (hq : pickQ Q js = some QI)
    (hR : ∀ ch a w, a.defers = c.D → PanOf E c.L0 c.w0 w (.panicked ch) → R (.panic ch) a w) (h : GX P l.toArray c E M (Mem c GI QI) m (Array.replicate m false) (St c n env G Q)) (k : ∀ a w, M a w → R .normal a w) : GC P R (.region id l.toArray true) (St c n env G Q) := fun a w ha => by
  refine Code.wp_mono (fun e a w he => ?_) (wp_region_held (Q := onlyP c E M) (S := Mem c GI QI) hm ?_)
  · cases e <;> first | exact hR _ _ _ he.1 he.2 | exact k _ _ he | exact he.elim
  · subst hsz
    have := h a _ (St.drew ha)
    simpa using this
end
end Go.Sx
namespace Go.Sx
open Go
section
variable {P : Program} {c : Cx} {n : Nat} {env env' : List (Nat × Value)} {G G' Gr : List Own} {Q Q' : List Pers} {d : Nat} {ty : TypeId} {pos : String} {aft : Array Edge} {g : Option (Nat × Bool)} {x y : Operand} {t : TypeId} {a a' : Act} {w w' : World}
variable {ops : Array Oper} {E : Value → Prop} {M A B : Asr} {I : World → Prop} {fuel : Nat} {listed : Array Bool}
theorem GX.done (hr : Region.ready .any ops listed = []) (h : ∀ a w, A a w → M a w) : GX P ops c E M I fuel listed A := fun a w ha => wpAnyH_done hr (h a w ha) fuel
theorem GX.ex {α : Type} {F : α → Asr} (k : ∀ x, GX P ops c E M I fuel listed (F x)) : GX P ops c E M I fuel listed (fun a w => ∃ x, F x a w) := fun a w ⟨x, hx⟩ => k x a w hx
theorem GX.imp (h : ∀ a w, A a w → B a w) (k : GX P ops c E M I fuel listed B) : GX P ops c E M I fuel listed A := fun a w ha => k a w (h a w ha)
theorem GX.ret {F : Value → List Own → List Pers → Prop} {Z : Value → List Own → List Pers → Asr} (k : ∀ v G2 Q2, F v G2 Q2 → GX P ops c E M I fuel listed (Z v G2 Q2)) : GX P ops c E M I fuel listed (fun a w => ∃ v G2 Q2, F v G2 Q2 ∧ Z v G2 Q2 a w) := fun a w ⟨v, G2, Q2, hF, hZ⟩ => k v G2 Q2 hF a w hZ
theorem GX.split {i : Nat} {b : Bool} (hi : look env i = some (.bool b)) (ht : b = true → GX P ops c E M I fuel listed (St c n ((i, .bool true) :: env) G Q)) (hf : b = false → GX P ops c E M I fuel listed (St c n ((i, .bool false) :: env) G Q)) : GX P ops c E M I fuel listed (St c n env G Q) := by
  rintro a w ⟨S, he, hh, hrel⟩
  cases b
  · exact hf rfl a w ⟨S, he.over hi, hh, hrel⟩
  · exact ht rfl a w ⟨S, he.over hi, hh, hrel⟩
theorem GX.take {op : Op} {v : Value} (i : Nat) (hi : ops[i]? = some ⟨some d, op, ty, pos, aft, none⟩) (hs : Region.noSelect ops = true) (hf : Region.free .any ops listed i = true) (hr : (Region.ready .any ops listed).contains i = true) (hd : Nat.blt d n = true) (hI : ∀ a w, St c n env G Q a w → I w)
    (h : Pi P n I env ⟨some d, op, ty, pos, aft, none⟩ v) (k : GX P ops c E M I fuel (listed.setIfInBounds i true) (St c n ((d, v) :: env) G Q)) : GX P ops c E M I (fuel + 1) listed (St c n env G Q) := fun a w ha =>
  wpAnyH_take hi hs hf hr (fun _ _ _ h => h) (.inl ⟨by simp [Region.wanted], fun w' hw' => h a w' ha.en.toEnv hw'⟩) (hI a w ha) (k _ w (ha.keep (Fr.refl _ _) (ha.en.put hd v)))
def GXs (P : Program) (ops : Array Oper) (c : Cx) (E : Value → Prop) (M : Asr) (I : World → Prop) (fuel : Nat) (listed : Array Bool) (A : Asr) (rs : List Nat) : Prop :=
  ∀ i ∈ rs, ∀ a w, A a w → wpOp P ops (onlyP c E M) i (fun a' w' => I w' ∧ wpAnyH P .any ops (onlyP c E M) I fuel (listed.setIfInBounds i true) a' w') a w
theorem GX.all {rs : List Nat} (hr : Region.ready .any ops listed = rs) (hne : rs ≠ []) (h : GXs P ops c E M I fuel listed A rs) : GX P ops c E M I (fuel + 1) listed A := fun a w ha => wpAnyH_all hr hne fun i hi => h i hi a w ha
theorem GXs.nil : GXs P ops c E M I fuel listed A [] := fun i hi => by cases hi
theorem GXs.cons {o : Oper} {i : Nat} {rs : List Nat} (hi : ops[i]? = some o) (hg : o.guard = none) (h : Tr P o A B) (hI : ∀ a w, B a w → I w) (k : GX P ops c E M I fuel (listed.setIfInBounds i true) B) (r : GXs P ops c E M I fuel listed A rs) : GXs P ops c E M I fuel listed A (i :: rs) := by
  intro j hj a w ha
  rcases List.mem_cons.1 hj with rfl | hj
  · unfold wpOp
    rw [hi]
    simp only [Region.wanted, hg, if_true]
    exact .inl (h a w ha _ _ fun a' w' hb => ⟨hI _ _ hb, k a' w' hb⟩)
  · exact r j hj a w ha
theorem GXs.consP {i : Nat} {rs : List Nat} {f : FuncId} {xs : List Operand} {vs : List Value} {ts : Array TypeId} {is js : List Nat} {G1 : List Own} {Q1 : List Pers} {R : Value → List Own → List Pers → Prop} (hi : ops[i]? = some ⟨some d, .call { callee := .value (.func f), args := xs.toArray, argTypes := ts }, ty, pos, aft, none⟩) (hd : Nat.blt d n = true) (hf : Ent P f) (hx : evs env xs = some vs)
    (hsel : sel G is = some (G1, Gr)) (hq : pickQ Q js = some Q1) (h : CtP P f vs G1 Q1 R E) (hI : ∀ a w, (∃ v G2 Q2, R v G2 Q2 ∧ St c n ((d, v) :: env) (G2 ++ Gr) (Q2 ++ Q) a w) → I w)
    (k : GX P ops c E M I fuel (listed.setIfInBounds i true) (fun a w => ∃ v G2 Q2, R v G2 Q2 ∧ St c n ((d, v) :: env) (G2 ++ Gr) (Q2 ++ Q) a w)) (r : GXs P ops c E M I fuel listed (St c n env G Q) rs) : GXs P ops c E M I fuel listed (St c n env G Q) (i :: rs) := by
  intro j hj a w ha
  rcases List.mem_cons.1 hj with rfl | hj
  · unfold wpOp
    rw [hi]
    simp only [Region.wanted, if_true]
    left
    obtain ⟨S, he, hh, hrel⟩ := ha
    have hp' := sel_perm hsel
    have hh1 := hh.perm hp'
    have hrel1 := hrel.perm hp'
    have hin : Heap S G1 Q1 w := hh1.sub (List.sublist_append_left _ _) (pickQ_mem hq)
    unfold Oper.wp
    rw [run_call hf hx a w he.toEnv, Oper.upon_enter]
    refine (h w S hin).mono ?_
    rintro e w' (⟨v, G2, Q2, S', rfl, hR, h', hfr, hS, hkk⟩ | ⟨v, rfl, hE, hfr⟩)
    · have hs := St.called hh1 hrel1 h' hfr hS hkk (he.put hd v)
      exact ⟨hI _ _ ⟨v, G2, Q2, hR, hs⟩, k _ _ ⟨v, G2, Q2, hR, hs⟩⟩
    · obtain ⟨S2, he2, hh2, hrel2⟩ := St.lost he hh1 hrel1 hfr
      exact ⟨he2.defers, v, rfl, hE, hrel2.fr⟩
  · exact r j hj a w ha
theorem GL.panicN {X : Exit → Asr} {rest : List Oper} {k : TypeId} {u : Value} (hx : ev env x = some (.iface k u)) (hp : ∀ a w, St c n env G Q a w → X (.panic [{ v := .iface k u, recovered := false }]) a w) :
    GL P ops X (⟨none, .panic x, ty, pos, aft, none⟩ :: rest) (St c n env G Q) := by
  intro a w h
  refine wpList_plain rfl fun K hK => ?_
  unfold Oper.wp
  have : (execOp a.eval ⟨none, .panic x, ty, pos, aft, none⟩).run P w = .halt (.panic (.iface k u)) w := by
    simp only [execOp, h.en.eval hx]; rfl
  rw [this]
  exact hp a w h
theorem GX.st (h : ∀ a w, St c n env G Q a w → St c n env' G' Q' a w) (k : GX P ops c E M I fuel listed (St c n env' G' Q')) : GX P ops c E M I fuel listed (St c n env G Q) := GX.imp h k
theorem GX.shape {i e sz m : Nat} {v : Value} {cs : List Value} (hi : nthO G i = some (.row v e sz m cs)) (k : ∀ A cp, v = .slice A m cp → m ≤ cp → cp ≤ 9223372036854775807 → GX P ops c E M I fuel listed (St c n env G Q)) : GX P ops c E M I fuel listed (St c n env G Q) := fun a w h => by
  obtain ⟨A, cp, h1, h2, h3⟩ := h.shape hi
  exact k A cp h1 h2 h3 a w h
theorem GX.know {q : Pers} (hq : ∀ w S, (∀ p ∈ Q, p.h w S) → q.h w S) (k : GX P ops c E M I fuel listed (St c n env G (q :: Q))) : GX P ops c E M I fuel listed (St c n env G Q) := GX.imp (fun a w h => h.know hq) k
theorem GX.torow {i b e m sz : Nat} {l : List Value} (hi : nthO G i = some (.cells b l e)) (hl : l.length = m * sz) (hm : m ≤ 9223372036854775807) (hr : repl G i (.row (.slice (some ⟨b, 0, none⟩) m m) e sz m l) = some G') (k : GX P ops c E M I fuel listed (St c n env G' Q)) : GX P ops c E M I fuel listed (St c n env G Q) :=
  GX.imp (fun a w h => h.recast hi hr rfl (cells_row hl hm)) k
theorem GX.nilrow (e : TypeId) (sz : Nat) (k : GX P ops c E M I fuel listed (St c n env (.row (.slice none 0 0) e sz 0 [] :: G) Q)) : GX P ops c E M I fuel listed (St c n env G Q) := GX.imp (fun a w h => h.nilrow e sz) k
theorem GX.freezeB {i e m cp : Nat} {A : Option Addr} {xs : List UInt8} (ht : takeO G i = some (.row (.slice A m cp) e 1 m (xs.map fun b => Value.int .u8 (b.toNat : Int)), G')) (k : GX P ops c E M I fuel listed (St c n env G' (Pers.row Kd.u8 A xs :: Q))) : GX P ops c E M I fuel listed (St c n env G Q) := GX.imp (fun a w h => h.freezeB ht) k
theorem GX.and {p : Prop} (k : p → GX P ops c E M I fuel listed A) : GX P ops c E M I fuel listed (fun a w => p ∧ A a w) := fun a w ⟨hp, ha⟩ => k hp a w ha
theorem GX.rowIs {i m m' e sz : Nat} {v : Value} {cs cs' : List Value} (hi : nthO G i = some (.row v e sz m cs)) (hm : m = m') (hc : cs = cs') (hr : repl G i (.row v e sz m' cs') = some G') (k : GX P ops c E M I fuel listed (St c n env G' Q)) : GX P ops c E M I fuel listed (St c n env G Q) := GX.st (fun a w h => h.rowIs hi hm hc hr) k
theorem GX.snoc {α : Type} {kd : Kd α} {xs : List α} {cs : List Value} {j : Nat} {js : List Nat} (z : α) (r : kd.Y) (hj : nthO Q j = some (Pers.reps kd xs cs)) (hq : pickQ Q js = some (kd.pers z r)) (hok : kd.ok z r)
    (k : GX P ops c E M I fuel listed (St c n env G (Pers.reps kd (xs ++ [z]) (cs ++ kd.cells z r) :: Q))) : GX P ops c E M I fuel listed (St c n env G Q) := GX.imp (fun a w h => h.snoc hj hq hok) k
theorem GX.freezeR {α : Type} {kd : Kd α} {i j e m cp : Nat} {A : Option Addr} {xs : List α} {cs : List Value} (ht : takeO G i = some (.row (.slice A m cp) e kd.sz m cs, G')) (hj : nthO Q j = some (Pers.reps kd xs cs)) (hp : 0 < kd.sz)
    (k : GX P ops c E M I fuel listed (St c n env G' (Pers.row kd A xs :: Q))) : GX P ops c E M I fuel listed (St c n env G Q) := GX.imp (fun a w h => h.freezeR ht hj hp) k
def CtR (P : Program) (f : FuncId) (us : List Value) (G : List Own) (Q : List Pers) (v : Value) (R : Value → List Own → List Pers → Prop) : Prop :=
  ∀ w S, Heap S G Q w → CallsD P f us.toArray (.panicking [{ v := v, recovered := false }]) w fun e u' w' => retOf ⟨w, S, keysOf G, []⟩ R e w' ∧ u' = .panicking [{ v := v, recovered := true }]
theorem CtR.intro {f : FuncId} {fn : Func} {us : List Value} {v : Value} {rest : Code} {id d1 d2 : Nat} {ty1 ty2 : TypeId} {pos1 pos2 : String} {aft1 aft2 : Array Edge} {ts : Array TypeId} {R : Value → List Own → List Pers → Prop} (hf : P.funcs[f]? = some fn)
    (hb : fn.body = some (.seq (.region id #[⟨some d1, .call { callee := .builtin .recover, args := #[], argTypes := ts }, ty1, pos1, aft1, none⟩, ⟨some d2, .assign (.tmp d1), ty2, pos2, aft2, none⟩] false) rest)) (hn : fn.ntmps = n) (hl : Nat.ble us.length n = true) (h1 : Nat.blt d1 n = true) (h2 : Nat.blt d2 n = true)
    (h : ∀ c : Cx, c.L0 = keysOf G → GC P (Fin P fn c R) rest (St c n ((d2, v) :: (d1, v) :: enum 0 us) G Q)) : CtR P f us G Q v R := by
  intro w S hh
  have hl := Nat.le_of_ble_eq_true hl
  let c : Cx := ⟨w, S, keysOf G, []⟩
  have h0 : EnvD c.D n (enum 0 us) { tmps := us.toArray ++ Array.replicate (fn.ntmps - us.toArray.size) undef, defers := [] } := by
    refine ⟨⟨by simp [hn]; omega, fun i v hi => ?_⟩, rfl⟩
    obtain ⟨k, rfl, hk⟩ := look_enum us 0 i v hi
    rw [Nat.zero_add]
    have hlt : k < us.length := (List.getElem?_eq_some_iff.1 hk).1
    simp only [List.size_toArray]
    rw [Array.getElem?_append_left (by simpa using hlt)]
    simpa using hk
  have he1 := h0.put h1 v
  have he2 := he1.put h2 v
  refine callsD_of_wpS hf hb fun c₀ cs hu => ?_
  apply wpS_seq
  apply wpS_region
  have hev : (Act.put { tmps := us.toArray ++ Array.replicate (fn.ntmps - us.toArray.size) undef, defers := [] } (some d1) v).eval (.tmp d1) = v := he1.toEnv.eval (x := .tmp d1) (v := v) (by simp [ev, look])
  have key : rest.wpS P (bodyPostS P fn c₀ cs fun e u' w' => retOf ⟨w, S, keysOf G, []⟩ R e w' ∧ u' = .panicking [{ v := v, recovered := true }]) (Act.put (Act.put { tmps := us.toArray ++ Array.replicate (fn.ntmps - us.toArray.size) undef, defers := [] } (some d1) v) (some d2) v) ({ c₀ with mode := .panicking [{ v := v, recovered := true }] } :: cs) w := by
    refine wpS_of_wp (Code.wp_mono (fun e a w' he => ?_) (h c rfl _ w ⟨S, he2, hh, ⟨Fr.refl _ _, fun _ _ _ => Iff.rfl, fun k hk => .inl hk⟩⟩))
    have hb' := he rfl
    cases e with
    | normal => obtain ⟨hd, u, hr, hR⟩ := hb'; exact ⟨hd, _, rfl, u, hr, hR, rfl⟩
    | ret => obtain ⟨hd, u, hr, hR⟩ := hb'; exact ⟨hd, _, rfl, u, hr, hR, rfl⟩
    | panic ch => obtain ⟨hd, hR⟩ := hb'; exact ⟨hd, _, rfl, hR, rfl⟩
    | exit id => exact hb'.elim
    | goto l => exact hb'.elim
    | outgrown => exact ⟨_, hb', rfl⟩
  have hlt : d1 < us.length + (fn.ntmps - us.length) := by
    have h1' : d1 < n := by simpa using h1
    omega
  simp [wpOpsS, go_sem, recoverD, hu, Exit.thenS, hlt]
  simpa [Act.put] using key
theorem FinD.catch {f : FuncId} {us : List Value} (hf : Ent P f) {fn : Func} {v : Value} {isC jsC : List Nat} {G1 Gr1 : List Own} {Q1 : List Pers} {RC R : Value → List Own → List Pers → Prop} (hC : CtR P f us G1 Q1 v RC) (hselC : sel G isC = some (G1, Gr1)) (hqC : pickQ Q jsC = some Q1)
    (hback : ∀ u G2 Q2 a w, RC u G2 Q2 → St ⟨c.w0, c.S0, c.L0, []⟩ n env (G2 ++ Gr1) (Q2 ++ Q) a w → Fin P fn ⟨c.w0, c.S0, c.L0, []⟩ R .ret a w) (h : St (c.def_ f us) n env G Q a w) : FinD P fn c R (.panic [{ v := v, recovered := false }]) a w := by
  obtain ⟨S, he, hh, hrel⟩ := h
  show Leaves P fn a.tmps (retOf c R) a.defers (.panicking [{ v := v, recovered := false }]) w
  have hd : a.defers = [⟨.fn (.func f) us.toArray, #[]⟩] := he.defers
  rw [hd]
  refine ⟨by simp, .func f, us.toArray, f, us.toArray, rfl, ?_, ?_⟩
  · have := hf us.toArray w
    simp only [invoke, Array.empty_append, this]
  · have hp' := sel_perm hselC
    have hh1 := hh.perm hp'
    have hrel1 := hrel.perm hp'
    have hin : Heap S G1 Q1 w := hh1.sub (List.sublist_append_left _ _) (pickQ_mem hqC)
    refine (hC w S hin).mono ?_
    rintro e u' w' ⟨⟨u, G2, Q2, S', rfl, hR, h', hfr, hS, hkk⟩, rfl⟩
    have he0 : EnvD [] n env { a with defers := [] } := ⟨⟨he.size, he.has⟩, rfl⟩
    have hst : St ⟨c.w0, c.S0, c.L0, []⟩ n env (G2 ++ Gr1) (Q2 ++ Q) { a with defers := [] } w' := St.called (c := ⟨c.w0, c.S0, c.L0, []⟩) hh1 ⟨hrel1.fr, hrel1.old, hrel1.key⟩ h' hfr hS hkk he0
    obtain ⟨_, v', hrun, hret⟩ := hback u G2 Q2 _ w' hR hst rfl
    exact ⟨v', hrun, hret⟩
end
end Go.Sx
namespace Go.Proofs.YtdhdmbmknpjhbaaGreat
open Go Go.Sx Go.Proofs
abbrev mF (e : Int) : Value := .iface 200 (.agg #[.int .i64 e])
def mFault (v : Value) : Prop := ∃ e : Int, e ≠ 0 ∧ v = mF e
theorem must_ct (e : Int) : CtP Tryz.prog 159 [.int .i64 e] [] [] (fun u G Q => e = 0 ∧ u = .tuple #[] ∧ G = [] ∧ Q = []) (fun v => e ≠ 0 ∧ v = mF e) := by
 refine CtP.intro Tryz.func159 rfl rfl rfl (fun c hc => ?_)
 refine GC.sr_ ?_; refine GL.mv_ rfl rfl ?_; refine GL.pure rfl (p_neq rfl rfl) ?_; refine GL.nl_ ?_; refine GC.cond rfl (fun h1 => ?_) (fun h1 => ?_)
 ·try simp only [tst_] at h1
  refine GC.region ?_; refine GL.mv_ rfl rfl ?_; refine GL.pure rfl (p_build ze_200 of_200 rfl rfl) ?_; refine GL.pure rfl (p_mkIface Tryz.underlying200 (fun m h => by cases h) rfl) ?_; refine GL.panicN rfl (fun a w h => ?_)
  exact FinP.panic ⟨by assumption, rfl⟩ h
 ·try simp only [tst_] at h1
  refine GC.skip ?_
  refine fun a w h => FinP.back0 rfl (is := []) (js := []) rfl rfl ?_ h
  clear h
  exact ⟨by omega, rfl, rfl, rfl⟩
theorem getE_zero {b : List UInt8} {at_ n : Nat} (h : getE b at_ n = 0) : at_ + n ≤ b.length := by
  by_cases hq : at_ + n ≤ b.length
  · exact hq
  · rw [getE, if_neg hq] at h; omega
def mnumF (b : List UInt8) (at_ n : Nat) : Option (Int × Nat) := if at_ + n ≤ b.length then some (if (getV b at_ n : Int) > 4611686018427387904 then -1 else (getV b at_ n : Int), getX b at_ n) else none
theorem mnumF_rng {b : List UInt8} {at_ n : Nat} {v : Int} {t : Nat} (h : mnumF b at_ n = some (v, t)) : t ≤ b.length ∧ t = at_ + n ∧ -1 ≤ v ∧ v ≤ 4611686018427387904 ∧ v < (256 ^ n : Nat) := by
  unfold mnumF at h
  split at h
  · rename_i hq
    obtain ⟨h1, h2⟩ := Prod.mk.inj (Option.some.inj h)
    have hv : valN (seg b at_ (at_ + n)) < 256 ^ n := valN_rng hq (by omega)
    have hp : 0 < 256 ^ n := Nat.pow_pos (by decide)
    split at h1 <;> omega
  · cases h
abbrev mleftG (p e : Nat) (A : Option Addr) (b : List UInt8) (cp at_ : Nat) : List Own := [.cells p [.slice A b.length cp, .int .i64 (at_ : Int)] e]
theorem mlnum_ct (p e_ : Nat) (A : Option Addr) (b : List UInt8) (cp at_ : Nat) (n : Nat) (hn : 1 ≤ n) (hn' : n ≤ 8) (hb : b.length ≤ cp) (hb' : b.length ≤ 10000000000000) (hat : at_ ≤ b.length) : CtP Tryz.prog 158 [.pointer (some ⟨p, 0, none⟩), .int .i64 (n : Int)] (mleftG p e_ A b cp at_) [Pers.row Kd.u8 A b]
    (fun u G Q => ∃ v t, mnumF b at_ n = some (v, t) ∧ u = .int .i64 v ∧ G = mleftG p e_ A b cp t ∧ Q = []) (fun v => mFault v ∧ mnumF b at_ n = none) := by
 refine CtP.intro Tryz.func158 rfl rfl rfl (fun c hc => ?_)
 refine GC.sr_ ?_; refine GL.as_ rfl rfl ?_; refine GL.nl_ ?_; refine GC.seq' ?_; refine GC.regionQ wide_ (by kernel_rfl) ?_; refine GQ.step rfl (q_pure (p_move rfl)) ?_; refine GQ.step rfl (q_pure (p_nilCheck rfl)) ?_; refine GQ.step rfl (q_pure (p_fieldAddr fo_203_0 rfl)) ?_
 refine GQ.step rfl (q_mem (m_load (i := 0) rfl rfl ag_25 rfl)) ?_; refine GQ.step rfl (q_pure (p_move rfl)) ?_; refine GQ.step rfl (q_pure (p_nilCheck rfl)) ?_; refine GQ.step rfl (q_pure (p_fieldAddr fo_203_1 rfl)) ?_; refine GQ.step rfl (q_mem (m_load (i := 0) rfl rfl ag_3 rfl)) ?_
 refine GQ.step rfl (q_pure (p_move rfl)) ?_; refine GQ.step rfl (q_call fn_91 rfl (js := [0]) rfl (by exact get_all _ b _ at_ n hn hn' hb (by omega) hat)) ?_; refine GQ.step rfl (q_pure (p_move rfl)) ?_
 iterate 3 refine GQ.step rfl (q_pure (p_extract rfl rfl)) ?_
 iterate 3 refine GQ.step rfl (q_pure (p_assign rfl)) ?_
 refine GQ.nil (?_ : GC _ _ _ _)
 refine GC.sr_ ?_; refine GL.mv_ rfl rfl ?_; refine GL.callP rfl fn_159 rfl (is := []) (js := []) rfl rfl (by exact must_ct _) (fun v a w he h => FinP.panic ⟨⟨_, he⟩, by rw [mnumF, if_neg (fun hq => he.1 (if_pos hq))]⟩ h) (GL.ret ?_)
 rintro _ _ _ ⟨he23, rfl, rfl, rfl⟩
 have hq4 := getE_zero he23
 refine GL.nl_ ?_; refine GC.sr_ ?_
 iterate 2 refine GL.mv_ rfl rfl ?_
 refine GL.pure rfl (p_nilCheck rfl) ?_; refine GL.pure rfl (p_fieldAddr fo_203_1 rfl) ?_; refine GL.step rfl (t_store (i := 0) rfl rfl rfl rfl sz_3 rfl rfl rfl) ?_; refine GL.nl_ ?_; refine GC.seq' ?_; refine GC.sr_ ?_; refine GL.mv_ rfl rfl ?_
 refine GL.pure rfl (p_gtr rfl rfl) ?_; refine GL.nl_ ?_; refine GC.cond rfl (fun h1 => ?_) (fun h1 => ?_)
 ·try simp only [tst_] at h1
  refine GC.sr_ ?_; refine GL.as_ rfl rfl ?_; refine GL.nl_ ?_; refine GC.ret ?_
  refine fun a w h => FinP.back (rs := [.tmp 4]) (vs := [_]) (is := [0]) (js := []) rfl ⟨rfl, trivial⟩ rfl rfl ?_ h
  clear h
  exact ⟨-1, _, by rw [mnumF, if_pos hq4, if_pos (by assumption)], rfl, rfl, rfl⟩
 ·try simp only [tst_] at h1
  refine GC.skip (?_ : GC _ _ _ _)
  refine GC.sr_ ?_; refine GL.mv_ rfl rfl ?_; refine GL.pure rfl (p_convR (t := 23) (r := ((getV b at_ n : Nat) : Int)) (by rw [Tryz.underlying23]; simp) Tryz.underlying3 rfl (cvI (by omega) (by omega))) ?_
  refine GL.as_ rfl rfl ?_; refine GL.nl_ ?_; refine GC.ret ?_
  refine fun a w h => FinP.back (rs := [.tmp 4]) (vs := [_]) (is := [0]) (js := []) rfl ⟨rfl, trivial⟩ rfl rfl ?_ h
  clear h
  exact ⟨_, _, by rw [mnumF, if_pos hq4, if_neg (by omega)], rfl, rfl, rfl⟩
def mtxF (b : List UInt8) (at_ : Nat) : Option (List UInt8 × Nat) := if (txF b at_).2.2 = 0 then some ((txF b at_).1, (txF b at_).2.1) else none
theorem mtxF_rng {b : List UInt8} {at_ : Nat} {x : List UInt8} {t : Nat} (h : mtxF b at_ = some (x, t)) : t ≤ b.length ∧ x.length ≤ 16777216 := by
  unfold mtxF at h
  split at h
  · rename_i h0
    obtain ⟨h1, h2⟩ := Prod.mk.inj (Option.some.inj h)
    exact txF_rng (b := b) (at_ := at_) (e := (txF b at_).2.2) (by rw [← h1, ← h2]) h0
  · cases h
end Go.Proofs.YtdhdmbmknpjhbaaGreat
