/- Texts of this claim, in one: what the law leans on (part 4). -/
import Derived.Test.YtdhdmbmknpjhbaaGreatQ3
set_option linter.unusedVariables false
set_option linter.unusedSimpArgs false
set_option maxRecDepth 100000
namespace Go.Proofs.YtdhdmbmknpjhbaaGreat
open Go Go.Sx Go.Proofs
theorem rstt_ct (s t : Stt) (A : Option Addr) (cp : Nat) (B : Option Addr) (cq : Nat) (C : Option Addr) (cr : Nat) (A' : Option Addr) (cp' : Nat) (B' : Option Addr) (cq' : Nat) (C' : Option Addr) (cr' : Nat) (h1_ : s.pages.length ≤ 140737488355328) (h2_ : s.rows.length ≤ 140737488355328) (h3_ : s.grp.members.length ≤ 140737488355328) : Ct Tryz.prog 43 [sttV s A cp B cq C cr, sttV t A' cp' B' cq' C' cr'] [] (sttQ s A B C ++ sttQ t A' B' C') (fun u G Q => u = .bool (decide (s = t)) ∧ G = [] ∧ Q = []) := by
 refine Ct.intro Tryz.func43 rfl rfl rfl (fun c hc => ?_)
 refine GC.seq' ?_
 refine GC.region ?_
 refine GL.step rfl (t_box rfl rfl rfl) (GL.ex fun b_t2 => ?_)
 refine GL.step rfl (t_box rfl rfl rfl) (GL.ex fun b_t3 => ?_)
 refine GL.pure rfl (p_assign rfl) ?_
 refine GL.nil (?_ : GC _ _ _ _)
 refine GC.seq' ?_
 refine GC.region ?_
 refine GL.pure rfl (p_fieldAddr fo_39_0 rfl) ?_
 refine GL.step rfl (t_mem rfl (m_load (i := 1) rfl rfl ag_3 rfl)) ?_
 refine GL.pure rfl (p_fieldAddr fo_39_0 rfl) ?_
 refine GL.step rfl (t_mem rfl (m_load (i := 0) rfl rfl ag_3 rfl)) ?_
 refine GL.pure rfl (p_eql rfl rfl) ?_
 refine GL.pure rfl (p_move rfl) ?_
 refine GL.split (i := 10) rfl (fun h1 => ?_) (fun h1 => ?_)
 ·try simp only [tst_, Bool.and_eq_true, Bool.and_eq_false_iff] at h1
  refine GL.pureG (s := 10) rfl rfl rfl (p_fieldAddr fo_39_1 rfl) ?_
  refine GL.stepG rfl (s := 10) rfl rfl (t_mem rfl (m_loadN (i := 1) rfl rfl ag_35 (vs := [_, _]) sz_35 ⟨rfl, rfl, trivial⟩)) ?_
  refine GL.pureG (s := 10) rfl rfl rfl (p_fieldAddr fo_39_1 rfl) ?_
  refine GL.stepG rfl (s := 10) rfl rfl (t_mem rfl (m_loadN (i := 0) rfl rfl ag_35 (vs := [_, _]) sz_35 ⟨rfl, rfl, trivial⟩)) ?_
  refine GL.pureG (s := 10) rfl rfl rfl (p_shapeEql rfl rfl) ?_
  refine GL.pure rfl (p_pick_true rfl rfl) ?_
  refine GL.pure rfl (p_move rfl) ?_
  refine GL.split (i := 17) rfl (fun h2 => ?_) (fun h2 => ?_)
  ·try simp only [tst_, Bool.and_eq_true, Bool.and_eq_false_iff] at h2
   refine GL.pureG (s := 17) rfl rfl rfl (p_fieldAddr fo_39_2 rfl) ?_
   refine GL.stepG rfl (s := 17) rfl rfl (t_mem rfl (m_load (i := 1) rfl rfl ag_36 rfl)) ?_
   refine GL.pureG (s := 17) rfl rfl rfl (p_fieldAddr fo_39_2 rfl) ?_
   refine GL.stepG rfl (s := 17) rfl rfl (t_mem rfl (m_load (i := 0) rfl rfl ag_36 rfl)) ?_
   refine GL.stepG rfl (s := 17) rfl rfl (t_call rfl fn_73 rfl (is := []) (js := [0, 3]) rfl rfl (by exact rpgs_ct _ s.pages _ _ t.pages _ (by first | assumption | omega))) (GL.ret ?_)
   rintro _ _ _ ⟨rfl, rfl, rfl⟩
   refine GL.pure rfl (p_pick_true rfl rfl) ?_
   refine GL.pure rfl (p_move rfl) ?_
   refine GL.split (i := 24) rfl (fun h3 => ?_) (fun h3 => ?_)
   ·try simp only [tst_, Bool.and_eq_true, Bool.and_eq_false_iff] at h3
    refine GL.pureG (s := 24) rfl rfl rfl (p_fieldAddr fo_39_3 rfl) ?_
    refine GL.stepG rfl (s := 24) rfl rfl (t_mem rfl (m_load (i := 1) rfl rfl ag_37 rfl)) ?_
    refine GL.pureG (s := 24) rfl rfl rfl (p_fieldAddr fo_39_3 rfl) ?_
    refine GL.stepG rfl (s := 24) rfl rfl (t_mem rfl (m_load (i := 0) rfl rfl ag_37 rfl)) ?_
    refine GL.stepG rfl (s := 24) rfl rfl (t_call rfl fn_74 rfl (is := []) (js := [1, 4]) rfl rfl (by exact rsame_ct _ s.rows _ _ t.rows _ (by first | assumption | omega))) (GL.ret ?_)
    rintro _ _ _ ⟨rfl, rfl, rfl⟩
    refine GL.pure rfl (p_pick_true rfl rfl) ?_
    refine GL.pure rfl (p_move rfl) ?_
    refine GL.split (i := 31) rfl (fun h4 => ?_) (fun h4 => ?_)
    ·try simp only [tst_, Bool.and_eq_true, Bool.and_eq_false_iff] at h4
     refine GL.pureG (s := 31) rfl rfl rfl (p_fieldAddr fo_39_4 rfl) ?_
     refine GL.stepG rfl (s := 31) rfl rfl (t_mem rfl (m_loadN (i := 1) rfl rfl ag_33 (vs := [_, _]) sz_33 ⟨rfl, rfl, trivial⟩)) ?_
     refine GL.pureG (s := 31) rfl rfl rfl (p_fieldAddr fo_39_4 rfl) ?_
     refine GL.stepG rfl (s := 31) rfl rfl (t_mem rfl (m_loadN (i := 0) rfl rfl ag_33 (vs := [_, _]) sz_33 ⟨rfl, rfl, trivial⟩)) ?_
     refine GL.stepG rfl (s := 31) rfl rfl (t_call rfl fn_42 rfl (is := []) (js := [2, 5]) rfl rfl (by exact rgsg_ct s.grp t.grp _ _ _ _ (by first | assumption | omega))) (GL.ret ?_)
     rintro _ _ _ ⟨rfl, rfl, rfl⟩
     refine GL.pure rfl (p_pick_true rfl rfl) ?_
     refine GL.pure rfl (p_assign rfl) ?_
     refine GL.nil (?_ : GC _ _ _ _)
     refine GC.ret ?_
     refine fun a w h => Fin.back (rs := [.tmp 4]) (vs := [_]) (is := []) (js := []) rfl ⟨rfl, trivial⟩ rfl rfl ?_ h
     clear h
     refine ⟨congrArg Value.bool ?_, rfl, rfl⟩
     simp [st_ext, sh_ext, *]
     (try (intros; simp_all))
    ·try simp only [tst_, Bool.and_eq_true, Bool.and_eq_false_iff] at h4
     refine GL.pass (s := 31) rfl rfl rfl ?_
     refine GL.pass (s := 31) rfl rfl rfl ?_
     refine GL.pass (s := 31) rfl rfl rfl ?_
     refine GL.pass (s := 31) rfl rfl rfl ?_
     refine GL.pass (s := 31) rfl rfl rfl ?_
     refine GL.pure rfl (p_pick_false rfl rfl) ?_
     refine GL.pure rfl (p_assign rfl) ?_
     refine GL.nil (?_ : GC _ _ _ _)
     refine GC.ret ?_
     refine fun a w h => Fin.back (rs := [.tmp 4]) (vs := [_]) (is := []) (js := []) rfl ⟨rfl, trivial⟩ rfl rfl ?_ h
     clear h
     refine ⟨congrArg Value.bool ?_, rfl, rfl⟩
     simp [st_ext, sh_ext, *]
     (try (intros; simp_all))
   ·try simp only [tst_, Bool.and_eq_true, Bool.and_eq_false_iff] at h3
    refine GL.pass (s := 24) rfl rfl rfl ?_
    refine GL.pass (s := 24) rfl rfl rfl ?_
    refine GL.pass (s := 24) rfl rfl rfl ?_
    refine GL.pass (s := 24) rfl rfl rfl ?_
    refine GL.pass (s := 24) rfl rfl rfl ?_
    refine GL.pure rfl (p_pick_false rfl rfl) ?_
    refine GL.pure rfl (p_move rfl) ?_
    refine GL.pass (s := 31) rfl rfl rfl ?_
    refine GL.pass (s := 31) rfl rfl rfl ?_
    refine GL.pass (s := 31) rfl rfl rfl ?_
    refine GL.pass (s := 31) rfl rfl rfl ?_
    refine GL.pass (s := 31) rfl rfl rfl ?_
    refine GL.pure rfl (p_pick_false rfl rfl) ?_
    refine GL.pure rfl (p_assign rfl) ?_
    refine GL.nil (?_ : GC _ _ _ _)
    refine GC.ret ?_
    refine fun a w h => Fin.back (rs := [.tmp 4]) (vs := [_]) (is := []) (js := []) rfl ⟨rfl, trivial⟩ rfl rfl ?_ h
    clear h
    refine ⟨congrArg Value.bool ?_, rfl, rfl⟩
    simp [st_ext, sh_ext, *]
    (try (intros; simp_all))
  ·try simp only [tst_, Bool.and_eq_true, Bool.and_eq_false_iff] at h2
   refine GL.pass (s := 17) rfl rfl rfl ?_
   refine GL.pass (s := 17) rfl rfl rfl ?_
   refine GL.pass (s := 17) rfl rfl rfl ?_
   refine GL.pass (s := 17) rfl rfl rfl ?_
   refine GL.pass (s := 17) rfl rfl rfl ?_
   refine GL.pure rfl (p_pick_false rfl rfl) ?_
   refine GL.pure rfl (p_move rfl) ?_
   refine GL.pass (s := 24) rfl rfl rfl ?_
   refine GL.pass (s := 24) rfl rfl rfl ?_
   refine GL.pass (s := 24) rfl rfl rfl ?_
   refine GL.pass (s := 24) rfl rfl rfl ?_
   refine GL.pass (s := 24) rfl rfl rfl ?_
   refine GL.pure rfl (p_pick_false rfl rfl) ?_
   refine GL.pure rfl (p_move rfl) ?_
   refine GL.pass (s := 31) rfl rfl rfl ?_
   refine GL.pass (s := 31) rfl rfl rfl ?_
   refine GL.pass (s := 31) rfl rfl rfl ?_
   refine GL.pass (s := 31) rfl rfl rfl ?_
   refine GL.pass (s := 31) rfl rfl rfl ?_
   refine GL.pure rfl (p_pick_false rfl rfl) ?_
   refine GL.pure rfl (p_assign rfl) ?_
   refine GL.nil (?_ : GC _ _ _ _)
   refine GC.ret ?_
   refine fun a w h => Fin.back (rs := [.tmp 4]) (vs := [_]) (is := []) (js := []) rfl ⟨rfl, trivial⟩ rfl rfl ?_ h
   clear h
   refine ⟨congrArg Value.bool ?_, rfl, rfl⟩
   simp [st_ext, sh_ext, *]
   (try (intros; simp_all))
 ·try simp only [tst_, Bool.and_eq_true, Bool.and_eq_false_iff] at h1
  refine GL.pass (s := 10) rfl rfl rfl ?_
  refine GL.pass (s := 10) rfl rfl rfl ?_
  refine GL.pass (s := 10) rfl rfl rfl ?_
  refine GL.pass (s := 10) rfl rfl rfl ?_
  refine GL.pass (s := 10) rfl rfl rfl ?_
  refine GL.pure rfl (p_pick_false rfl rfl) ?_
  refine GL.pure rfl (p_move rfl) ?_
  refine GL.pass (s := 17) rfl rfl rfl ?_
  refine GL.pass (s := 17) rfl rfl rfl ?_
  refine GL.pass (s := 17) rfl rfl rfl ?_
  refine GL.pass (s := 17) rfl rfl rfl ?_
  refine GL.pass (s := 17) rfl rfl rfl ?_
  refine GL.pure rfl (p_pick_false rfl rfl) ?_
  refine GL.pure rfl (p_move rfl) ?_
  refine GL.pass (s := 24) rfl rfl rfl ?_
  refine GL.pass (s := 24) rfl rfl rfl ?_
  refine GL.pass (s := 24) rfl rfl rfl ?_
  refine GL.pass (s := 24) rfl rfl rfl ?_
  refine GL.pass (s := 24) rfl rfl rfl ?_
  refine GL.pure rfl (p_pick_false rfl rfl) ?_
  refine GL.pure rfl (p_move rfl) ?_
  refine GL.pass (s := 31) rfl rfl rfl ?_
  refine GL.pass (s := 31) rfl rfl rfl ?_
  refine GL.pass (s := 31) rfl rfl rfl ?_
  refine GL.pass (s := 31) rfl rfl rfl ?_
  refine GL.pass (s := 31) rfl rfl rfl ?_
  refine GL.pure rfl (p_pick_false rfl rfl) ?_
  refine GL.pure rfl (p_assign rfl) ?_
  refine GL.nil (?_ : GC _ _ _ _)
  refine GC.ret ?_
  refine fun a w h => Fin.back (rs := [.tmp 4]) (vs := [_]) (is := []) (js := []) rfl ⟨rfl, trivial⟩ rfl rfl ?_ h
  clear h
  refine ⟨congrArg Value.bool ?_, rfl, rfl⟩
  simp [st_ext, sh_ext, *]
  (try (intros; simp_all))
theorem mzst_ct (s : Stt) (A : Option Addr) (cp : Nat) (B : Option Addr) (cq : Nat) (C : Option Addr) (cr : Nat) (h1_ : s.pages.length ≤ 140737488355328) (h2_ : s.rows.length ≤ 140737488355328) (h3_ : s.grp.members.length ≤ 140737488355328) : Ct Tryz.prog 38 [sttV s A cp B cq C cr, .agg #[.int .i64 0, .int .i64 0, .int .i64 0, .slice none 0 0, .slice none 0 0, .int .i64 0, .slice none 0 0]] [] (sttQ s A B C) (fun u G Q => u = .bool (decide (s = zst)) ∧ G = [] ∧ Q = []) :=
  Ct.qperm (mstt_ct s zst A cp B cq C cr none 0 none 0 none 0 h1_ h2_ h3_) (by intro q hq; simp only [List.mem_cons, List.mem_append, List.not_mem_nil, or_false] at hq ⊢; rcases hq with (rfl | rfl | rfl) | rfl | rfl | rfl <;> first | exact .inr (fun _ _ => .inl rfl) | simp)
theorem rzst_ct (s : Stt) (A : Option Addr) (cp : Nat) (B : Option Addr) (cq : Nat) (C : Option Addr) (cr : Nat) (h1_ : s.pages.length ≤ 140737488355328) (h2_ : s.rows.length ≤ 140737488355328) (h3_ : s.grp.members.length ≤ 140737488355328) : Ct Tryz.prog 43 [sttV s A cp B cq C cr, .agg #[.int .i64 0, .int .i64 0, .int .i64 0, .slice none 0 0, .slice none 0 0, .int .i64 0, .slice none 0 0]] [] (sttQ s A B C) (fun u G Q => u = .bool (decide (s = zst)) ∧ G = [] ∧ Q = []) :=
  Ct.qperm (rstt_ct s zst A cp B cq C cr none 0 none 0 none 0 h1_ h2_ h3_) (by intro q hq; simp only [List.mem_cons, List.mem_append, List.not_mem_nil, or_false] at hq ⊢; rcases hq with (rfl | rfl | rfl) | rfl | rfl | rfl <;> first | exact .inr (fun _ _ => .inl rfl) | simp)
end Go.Proofs.YtdhdmbmknpjhbaaGreat
namespace Go.Sx
open Go
section
variable {P : Program} {c : Cx} {n : Nat} {env env' envK E : List (Nat × Value)} {G G' Gr GK : List Own} {Q Q' QK : List Pers} {a : Act} {w : World}
variable {α β γ δ : Type} {x z : Code} {R : Exit → Asr} {ks is js : List Nat}
theorem GC.joinK1 (φ : α → Prop) (F : α → List (Nat × Value)) (GF : α → List Own) (QF : α → List Pers) (hK : kept env ks = some envK) (hG : pickQ G is = some GK) (hQ : pickQ Q js = some QK)
    (hx : GC P (Exit.then (fun a w => ∃ y, φ y ∧ St c n (F y ++ envK) (GF y ++ GK) (QF y ++ QK) a w) R) x (St c n env G Q))
    (hz : ∀ y, φ y → GC P R z (St c n (F y ++ envK) (GF y ++ GK) (QF y ++ QK))) : GC P R (.seq x z) (St c n env G Q) :=
  GC.seq hx fun a w ⟨y, hp, h⟩ => hz y hp a w h
end
end Go.Sx
namespace Go.Proofs.YtdhdmbmknpjhbaaGreat
open Go Go.Sx Go.Proofs
theorem wsame_ct (m k : Msg) (s t : Lie) (hm : MsgLen m) : Ct Tryz.prog 14 [msgV m s, msgV k t] [] (msgQ m s ++ msgQ k t) (fun u G Q => u = .bool (decide (m = k)) ∧ G = [] ∧ Q = []) := by
 refine Ct.intro Tryz.func14 rfl rfl rfl (fun c hc => ?_)
 refine GC.seq' ?_
 refine GC.region ?_
 refine GL.step rfl (t_box rfl rfl rfl) (GL.ex fun b_t2 => ?_)
 refine GL.step rfl (t_box rfl rfl rfl) (GL.ex fun b_t3 => ?_)
 refine GL.pure rfl (p_assign rfl) ?_
 refine GL.nil (?_ : GC _ _ _ _)
 refine GC.joinK1 (ks := [2, 3, 4]) (is := [0, 1]) (js := [0, 1, 2, 3, 4, 5, 6, 7, 8, 9, 10, 11, 12, 13, 14, 15]) (fun (u_ : Unit) => True) (fun (u_ : Unit) => [(5, .bool (decide (m.kind = k.kind ∧ m.src = k.src ∧ m.dst = k.dst ∧ m.nonce = k.nonce ∧ m.client = k.client ∧ m.serial = k.serial)))]) (fun (u_ : Unit) => []) (fun (u_ : Unit) => []) rfl rfl rfl ?_ ?_
 ·refine GC.region ?_
  refine GL.pure rfl (p_fieldAddr fo_42_0 rfl) ?_
  refine GL.step rfl (t_mem rfl (m_load (i := 1) rfl rfl ag_22 rfl)) ?_
  refine GL.pure rfl (p_fieldAddr fo_42_0 rfl) ?_
  refine GL.step rfl (t_mem rfl (m_load (i := 0) rfl rfl ag_22 rfl)) ?_
  refine GL.pure rfl (p_eql rfl rfl) ?_
  refine GL.pure rfl (p_move rfl) ?_
  refine GL.split (i := 14) rfl (fun h1 => ?_) (fun h1 => ?_)
  ·try simp only [tst_] at h1
   refine GL.pureG (s := 14) rfl rfl rfl (p_fieldAddr fo_42_1 rfl) ?_
   refine GL.stepG rfl (s := 14) rfl rfl (t_mem rfl (m_load (i := 1) rfl rfl ag_3 rfl)) ?_
   refine GL.pureG (s := 14) rfl rfl rfl (p_fieldAddr fo_42_1 rfl) ?_
   refine GL.stepG rfl (s := 14) rfl rfl (t_mem rfl (m_load (i := 0) rfl rfl ag_3 rfl)) ?_
   refine GL.pureG (s := 14) rfl rfl rfl (p_eql rfl rfl) ?_
   refine GL.pure rfl (p_pick_true rfl rfl) ?_
   refine GL.pure rfl (p_move rfl) ?_
   refine GL.split (i := 21) rfl (fun h2 => ?_) (fun h2 => ?_)
   ·try simp only [tst_] at h2
    refine GL.pureG (s := 21) rfl rfl rfl (p_fieldAddr fo_42_2 rfl) ?_
    refine GL.stepG rfl (s := 21) rfl rfl (t_mem rfl (m_load (i := 1) rfl rfl ag_3 rfl)) ?_
    refine GL.pureG (s := 21) rfl rfl rfl (p_fieldAddr fo_42_2 rfl) ?_
    refine GL.stepG rfl (s := 21) rfl rfl (t_mem rfl (m_load (i := 0) rfl rfl ag_3 rfl)) ?_
    refine GL.pureG (s := 21) rfl rfl rfl (p_eql rfl rfl) ?_
    refine GL.pure rfl (p_pick_true rfl rfl) ?_
    refine GL.pure rfl (p_move rfl) ?_
    refine GL.split (i := 28) rfl (fun h3 => ?_) (fun h3 => ?_)
    ·try simp only [tst_] at h3
     refine GL.pureG (s := 28) rfl rfl rfl (p_fieldAddr fo_42_8 rfl) ?_
     refine GL.stepG rfl (s := 28) rfl rfl (t_mem rfl (m_load (i := 1) rfl rfl ag_23 rfl)) ?_
     refine GL.pureG (s := 28) rfl rfl rfl (p_fieldAddr fo_42_8 rfl) ?_
     refine GL.stepG rfl (s := 28) rfl rfl (t_mem rfl (m_load (i := 0) rfl rfl ag_23 rfl)) ?_
     refine GL.pureG (s := 28) rfl rfl rfl (p_eql rfl rfl) ?_
     refine GL.pure rfl (p_pick_true rfl rfl) ?_
     refine GL.pure rfl (p_move rfl) ?_
     refine GL.split (i := 35) rfl (fun h4 => ?_) (fun h4 => ?_)
     ·try simp only [tst_] at h4
      refine GL.pureG (s := 35) rfl rfl rfl (p_fieldAddr fo_42_9 rfl) ?_
      refine GL.stepG rfl (s := 35) rfl rfl (t_mem rfl (m_load (i := 1) rfl rfl ag_3 rfl)) ?_
      refine GL.pureG (s := 35) rfl rfl rfl (p_fieldAddr fo_42_9 rfl) ?_
      refine GL.stepG rfl (s := 35) rfl rfl (t_mem rfl (m_load (i := 0) rfl rfl ag_3 rfl)) ?_
      refine GL.pureG (s := 35) rfl rfl rfl (p_eql rfl rfl) ?_
      refine GL.pure rfl (p_pick_true rfl rfl) ?_
      refine GL.pure rfl (p_move rfl) ?_
      refine GL.split (i := 42) rfl (fun h5 => ?_) (fun h5 => ?_)
      ·try simp only [tst_] at h5
       refine GL.pureG (s := 42) rfl rfl rfl (p_fieldAddr fo_42_10 rfl) ?_
       refine GL.stepG rfl (s := 42) rfl rfl (t_mem rfl (m_load (i := 1) rfl rfl ag_3 rfl)) ?_
       refine GL.pureG (s := 42) rfl rfl rfl (p_fieldAddr fo_42_10 rfl) ?_
       refine GL.stepG rfl (s := 42) rfl rfl (t_mem rfl (m_load (i := 0) rfl rfl ag_3 rfl)) ?_
       refine GL.pureG (s := 42) rfl rfl rfl (p_eql rfl rfl) ?_
       refine GL.pure rfl (p_pick_true rfl rfl) ?_
       refine GL.pure rfl (p_assign rfl) ?_
       refine GL.split (i := 5) rfl (fun h6 => ?_) (fun h6 => ?_)
       ·try simp only [tst_] at h6
        refine GL.nil ?_
        exact fun a w h => ⟨(()), trivial, by rw [decide_eq_true (show m.kind = k.kind ∧ m.src = k.src ∧ m.dst = k.dst ∧ m.nonce = k.nonce ∧ m.client = k.client ∧ m.serial = k.serial by simp [*])]; exact h.cut (is := [0, 0]) (js := [0, 1, 2, 3, 4, 5, 6, 7, 8, 9, 10, 11, 12, 13, 14, 15]) ⟨rfl, rfl, rfl, rfl, trivial⟩ rfl rfl⟩
       ·try simp only [tst_] at h6
        refine GL.nil ?_
        exact fun a w h => ⟨(()), trivial, by rw [decide_eq_false (show ¬ (m.kind = k.kind ∧ m.src = k.src ∧ m.dst = k.dst ∧ m.nonce = k.nonce ∧ m.client = k.client ∧ m.serial = k.serial) by simp [*])]; exact h.cut (is := [0, 0]) (js := [0, 1, 2, 3, 4, 5, 6, 7, 8, 9, 10, 11, 12, 13, 14, 15]) ⟨rfl, rfl, rfl, rfl, trivial⟩ rfl rfl⟩
      ·try simp only [tst_] at h5
       refine GL.pass (s := 42) rfl rfl rfl ?_
       refine GL.pass (s := 42) rfl rfl rfl ?_
       refine GL.pass (s := 42) rfl rfl rfl ?_
       refine GL.pass (s := 42) rfl rfl rfl ?_
       refine GL.pass (s := 42) rfl rfl rfl ?_
       refine GL.pure rfl (p_pick_false rfl rfl) ?_
       refine GL.pure rfl (p_assign rfl) ?_
       refine GL.nil ?_
       exact fun a w h => ⟨(()), trivial, by rw [decide_eq_false (show ¬ (m.kind = k.kind ∧ m.src = k.src ∧ m.dst = k.dst ∧ m.nonce = k.nonce ∧ m.client = k.client ∧ m.serial = k.serial) by simp [*])]; exact h.cut (is := [0, 0]) (js := [0, 1, 2, 3, 4, 5, 6, 7, 8, 9, 10, 11, 12, 13, 14, 15]) ⟨rfl, rfl, rfl, rfl, trivial⟩ rfl rfl⟩
     ·try simp only [tst_] at h4
      refine GL.pass (s := 35) rfl rfl rfl ?_
      refine GL.pass (s := 35) rfl rfl rfl ?_
      refine GL.pass (s := 35) rfl rfl rfl ?_
      refine GL.pass (s := 35) rfl rfl rfl ?_
      refine GL.pass (s := 35) rfl rfl rfl ?_
      refine GL.pure rfl (p_pick_false rfl rfl) ?_
      refine GL.pure rfl (p_move rfl) ?_
      refine GL.pass (s := 42) rfl rfl rfl ?_
      refine GL.pass (s := 42) rfl rfl rfl ?_
      refine GL.pass (s := 42) rfl rfl rfl ?_
      refine GL.pass (s := 42) rfl rfl rfl ?_
      refine GL.pass (s := 42) rfl rfl rfl ?_
      refine GL.pure rfl (p_pick_false rfl rfl) ?_
      refine GL.pure rfl (p_assign rfl) ?_
      refine GL.nil ?_
      exact fun a w h => ⟨(()), trivial, by rw [decide_eq_false (show ¬ (m.kind = k.kind ∧ m.src = k.src ∧ m.dst = k.dst ∧ m.nonce = k.nonce ∧ m.client = k.client ∧ m.serial = k.serial) by simp [*])]; exact h.cut (is := [0, 0]) (js := [0, 1, 2, 3, 4, 5, 6, 7, 8, 9, 10, 11, 12, 13, 14, 15]) ⟨rfl, rfl, rfl, rfl, trivial⟩ rfl rfl⟩
    ·try simp only [tst_] at h3
     refine GL.pass (s := 28) rfl rfl rfl ?_
     refine GL.pass (s := 28) rfl rfl rfl ?_
     refine GL.pass (s := 28) rfl rfl rfl ?_
     refine GL.pass (s := 28) rfl rfl rfl ?_
     refine GL.pass (s := 28) rfl rfl rfl ?_
     refine GL.pure rfl (p_pick_false rfl rfl) ?_
     refine GL.pure rfl (p_move rfl) ?_
     refine GL.pass (s := 35) rfl rfl rfl ?_
     refine GL.pass (s := 35) rfl rfl rfl ?_
     refine GL.pass (s := 35) rfl rfl rfl ?_
     refine GL.pass (s := 35) rfl rfl rfl ?_
     refine GL.pass (s := 35) rfl rfl rfl ?_
     refine GL.pure rfl (p_pick_false rfl rfl) ?_
     refine GL.pure rfl (p_move rfl) ?_
     refine GL.pass (s := 42) rfl rfl rfl ?_
     refine GL.pass (s := 42) rfl rfl rfl ?_
     refine GL.pass (s := 42) rfl rfl rfl ?_
     refine GL.pass (s := 42) rfl rfl rfl ?_
     refine GL.pass (s := 42) rfl rfl rfl ?_
     refine GL.pure rfl (p_pick_false rfl rfl) ?_
     refine GL.pure rfl (p_assign rfl) ?_
     refine GL.nil ?_
     exact fun a w h => ⟨(()), trivial, by rw [decide_eq_false (show ¬ (m.kind = k.kind ∧ m.src = k.src ∧ m.dst = k.dst ∧ m.nonce = k.nonce ∧ m.client = k.client ∧ m.serial = k.serial) by simp [*])]; exact h.cut (is := [0, 0]) (js := [0, 1, 2, 3, 4, 5, 6, 7, 8, 9, 10, 11, 12, 13, 14, 15]) ⟨rfl, rfl, rfl, rfl, trivial⟩ rfl rfl⟩
   ·try simp only [tst_] at h2
    refine GL.pass (s := 21) rfl rfl rfl ?_
    refine GL.pass (s := 21) rfl rfl rfl ?_
    refine GL.pass (s := 21) rfl rfl rfl ?_
    refine GL.pass (s := 21) rfl rfl rfl ?_
    refine GL.pass (s := 21) rfl rfl rfl ?_
    refine GL.pure rfl (p_pick_false rfl rfl) ?_
    refine GL.pure rfl (p_move rfl) ?_
    refine GL.pass (s := 28) rfl rfl rfl ?_
    refine GL.pass (s := 28) rfl rfl rfl ?_
    refine GL.pass (s := 28) rfl rfl rfl ?_
    refine GL.pass (s := 28) rfl rfl rfl ?_
    refine GL.pass (s := 28) rfl rfl rfl ?_
    refine GL.pure rfl (p_pick_false rfl rfl) ?_
    refine GL.pure rfl (p_move rfl) ?_
    refine GL.pass (s := 35) rfl rfl rfl ?_
    refine GL.pass (s := 35) rfl rfl rfl ?_
    refine GL.pass (s := 35) rfl rfl rfl ?_
    refine GL.pass (s := 35) rfl rfl rfl ?_
    refine GL.pass (s := 35) rfl rfl rfl ?_
    refine GL.pure rfl (p_pick_false rfl rfl) ?_
    refine GL.pure rfl (p_move rfl) ?_
    refine GL.pass (s := 42) rfl rfl rfl ?_
    refine GL.pass (s := 42) rfl rfl rfl ?_
    refine GL.pass (s := 42) rfl rfl rfl ?_
    refine GL.pass (s := 42) rfl rfl rfl ?_
    refine GL.pass (s := 42) rfl rfl rfl ?_
    refine GL.pure rfl (p_pick_false rfl rfl) ?_
    refine GL.pure rfl (p_assign rfl) ?_
    refine GL.nil ?_
    exact fun a w h => ⟨(()), trivial, by rw [decide_eq_false (show ¬ (m.kind = k.kind ∧ m.src = k.src ∧ m.dst = k.dst ∧ m.nonce = k.nonce ∧ m.client = k.client ∧ m.serial = k.serial) by simp [*])]; exact h.cut (is := [0, 0]) (js := [0, 1, 2, 3, 4, 5, 6, 7, 8, 9, 10, 11, 12, 13, 14, 15]) ⟨rfl, rfl, rfl, rfl, trivial⟩ rfl rfl⟩
  ·try simp only [tst_] at h1
   refine GL.pass (s := 14) rfl rfl rfl ?_
   refine GL.pass (s := 14) rfl rfl rfl ?_
   refine GL.pass (s := 14) rfl rfl rfl ?_
   refine GL.pass (s := 14) rfl rfl rfl ?_
   refine GL.pass (s := 14) rfl rfl rfl ?_
   refine GL.pure rfl (p_pick_false rfl rfl) ?_
   refine GL.pure rfl (p_move rfl) ?_
   refine GL.pass (s := 21) rfl rfl rfl ?_
   refine GL.pass (s := 21) rfl rfl rfl ?_
   refine GL.pass (s := 21) rfl rfl rfl ?_
   refine GL.pass (s := 21) rfl rfl rfl ?_
   refine GL.pass (s := 21) rfl rfl rfl ?_
   refine GL.pure rfl (p_pick_false rfl rfl) ?_
   refine GL.pure rfl (p_move rfl) ?_
   refine GL.pass (s := 28) rfl rfl rfl ?_
   refine GL.pass (s := 28) rfl rfl rfl ?_
   refine GL.pass (s := 28) rfl rfl rfl ?_
   refine GL.pass (s := 28) rfl rfl rfl ?_
   refine GL.pass (s := 28) rfl rfl rfl ?_
   refine GL.pure rfl (p_pick_false rfl rfl) ?_
   refine GL.pure rfl (p_move rfl) ?_
   refine GL.pass (s := 35) rfl rfl rfl ?_
   refine GL.pass (s := 35) rfl rfl rfl ?_
   refine GL.pass (s := 35) rfl rfl rfl ?_
   refine GL.pass (s := 35) rfl rfl rfl ?_
   refine GL.pass (s := 35) rfl rfl rfl ?_
   refine GL.pure rfl (p_pick_false rfl rfl) ?_
   refine GL.pure rfl (p_move rfl) ?_
   refine GL.pass (s := 42) rfl rfl rfl ?_
   refine GL.pass (s := 42) rfl rfl rfl ?_
   refine GL.pass (s := 42) rfl rfl rfl ?_
   refine GL.pass (s := 42) rfl rfl rfl ?_
   refine GL.pass (s := 42) rfl rfl rfl ?_
   refine GL.pure rfl (p_pick_false rfl rfl) ?_
   refine GL.pure rfl (p_assign rfl) ?_
   refine GL.nil ?_
   exact fun a w h => ⟨(()), trivial, by rw [decide_eq_false (show ¬ (m.kind = k.kind ∧ m.src = k.src ∧ m.dst = k.dst ∧ m.nonce = k.nonce ∧ m.client = k.client ∧ m.serial = k.serial) by simp [*])]; exact h.cut (is := [0, 0]) (js := [0, 1, 2, 3, 4, 5, 6, 7, 8, 9, 10, 11, 12, 13, 14, 15]) ⟨rfl, rfl, rfl, rfl, trivial⟩ rfl rfl⟩
 ·intro u_ hj1
  try dsimp only [List.cons_append, List.nil_append] at hj1 ⊢
  refine GC.joinK1 (ks := [2, 3, 4, 5]) (is := [0, 1]) (js := [0, 1, 2, 3, 4, 5, 6, 7, 8, 9, 10, 11, 12, 13, 14, 15]) (fun (u_ : Unit) => True) (fun (u_ : Unit) => [(6, .bool (decide (m.epoch = k.epoch ∧ m.view = k.view ∧ m.num = k.num ∧ m.commit = k.commit ∧ m.normal = k.normal)))]) (fun (u_ : Unit) => []) (fun (u_ : Unit) => []) rfl rfl rfl ?_ ?_
  ·refine GC.region ?_
   refine GL.pure rfl (p_fieldAddr fo_42_3 rfl) ?_
   refine GL.step rfl (t_mem rfl (m_load (i := 1) rfl rfl ag_3 rfl)) ?_
   refine GL.pure rfl (p_fieldAddr fo_42_3 rfl) ?_
   refine GL.step rfl (t_mem rfl (m_load (i := 0) rfl rfl ag_3 rfl)) ?_
   refine GL.pure rfl (p_eql rfl rfl) ?_
   refine GL.pure rfl (p_move rfl) ?_
   refine GL.split (i := 54) rfl (fun h7 => ?_) (fun h7 => ?_)
   ·try simp only [tst_] at h7
    refine GL.pureG (s := 54) rfl rfl rfl (p_fieldAddr fo_42_4 rfl) ?_
    refine GL.stepG rfl (s := 54) rfl rfl (t_mem rfl (m_load (i := 1) rfl rfl ag_3 rfl)) ?_
    refine GL.pureG (s := 54) rfl rfl rfl (p_fieldAddr fo_42_4 rfl) ?_
    refine GL.stepG rfl (s := 54) rfl rfl (t_mem rfl (m_load (i := 0) rfl rfl ag_3 rfl)) ?_
    refine GL.pureG (s := 54) rfl rfl rfl (p_eql rfl rfl) ?_
    refine GL.pure rfl (p_pick_true rfl rfl) ?_
    refine GL.pure rfl (p_move rfl) ?_
    refine GL.split (i := 61) rfl (fun h8 => ?_) (fun h8 => ?_)
    ·try simp only [tst_] at h8
     refine GL.pureG (s := 61) rfl rfl rfl (p_fieldAddr fo_42_5 rfl) ?_
     refine GL.stepG rfl (s := 61) rfl rfl (t_mem rfl (m_load (i := 1) rfl rfl ag_3 rfl)) ?_
     refine GL.pureG (s := 61) rfl rfl rfl (p_fieldAddr fo_42_5 rfl) ?_
     refine GL.stepG rfl (s := 61) rfl rfl (t_mem rfl (m_load (i := 0) rfl rfl ag_3 rfl)) ?_
     refine GL.pureG (s := 61) rfl rfl rfl (p_eql rfl rfl) ?_
     refine GL.pure rfl (p_pick_true rfl rfl) ?_
     refine GL.pure rfl (p_move rfl) ?_
     refine GL.split (i := 68) rfl (fun h9 => ?_) (fun h9 => ?_)
     ·try simp only [tst_] at h9
      refine GL.pureG (s := 68) rfl rfl rfl (p_fieldAddr fo_42_6 rfl) ?_
      refine GL.stepG rfl (s := 68) rfl rfl (t_mem rfl (m_load (i := 1) rfl rfl ag_3 rfl)) ?_
      refine GL.pureG (s := 68) rfl rfl rfl (p_fieldAddr fo_42_6 rfl) ?_
      refine GL.stepG rfl (s := 68) rfl rfl (t_mem rfl (m_load (i := 0) rfl rfl ag_3 rfl)) ?_
      refine GL.pureG (s := 68) rfl rfl rfl (p_eql rfl rfl) ?_
      refine GL.pure rfl (p_pick_true rfl rfl) ?_
      refine GL.pure rfl (p_move rfl) ?_
      refine GL.split (i := 75) rfl (fun h10 => ?_) (fun h10 => ?_)
      ·try simp only [tst_] at h10
       refine GL.pureG (s := 75) rfl rfl rfl (p_fieldAddr fo_42_7 rfl) ?_
       refine GL.stepG rfl (s := 75) rfl rfl (t_mem rfl (m_load (i := 1) rfl rfl ag_3 rfl)) ?_
       refine GL.pureG (s := 75) rfl rfl rfl (p_fieldAddr fo_42_7 rfl) ?_
       refine GL.stepG rfl (s := 75) rfl rfl (t_mem rfl (m_load (i := 0) rfl rfl ag_3 rfl)) ?_
       refine GL.pureG (s := 75) rfl rfl rfl (p_eql rfl rfl) ?_
       refine GL.pure rfl (p_pick_true rfl rfl) ?_
       refine GL.pure rfl (p_assign rfl) ?_
       refine GL.split (i := 6) rfl (fun h11 => ?_) (fun h11 => ?_)
       ·try simp only [tst_] at h11
        refine GL.nil ?_
        exact fun a w h => ⟨(()), trivial, by rw [decide_eq_true (show m.epoch = k.epoch ∧ m.view = k.view ∧ m.num = k.num ∧ m.commit = k.commit ∧ m.normal = k.normal by simp [*])]; exact h.cut (is := [0, 0]) (js := [0, 1, 2, 3, 4, 5, 6, 7, 8, 9, 10, 11, 12, 13, 14, 15]) ⟨rfl, rfl, rfl, rfl, rfl, trivial⟩ rfl rfl⟩
       ·try simp only [tst_] at h11
        refine GL.nil ?_
        exact fun a w h => ⟨(()), trivial, by rw [decide_eq_false (show ¬ (m.epoch = k.epoch ∧ m.view = k.view ∧ m.num = k.num ∧ m.commit = k.commit ∧ m.normal = k.normal) by simp [*])]; exact h.cut (is := [0, 0]) (js := [0, 1, 2, 3, 4, 5, 6, 7, 8, 9, 10, 11, 12, 13, 14, 15]) ⟨rfl, rfl, rfl, rfl, rfl, trivial⟩ rfl rfl⟩
      ·try simp only [tst_] at h10
       refine GL.pass (s := 75) rfl rfl rfl ?_
       refine GL.pass (s := 75) rfl rfl rfl ?_
       refine GL.pass (s := 75) rfl rfl rfl ?_
       refine GL.pass (s := 75) rfl rfl rfl ?_
       refine GL.pass (s := 75) rfl rfl rfl ?_
       refine GL.pure rfl (p_pick_false rfl rfl) ?_
       refine GL.pure rfl (p_assign rfl) ?_
       refine GL.nil ?_
       exact fun a w h => ⟨(()), trivial, by rw [decide_eq_false (show ¬ (m.epoch = k.epoch ∧ m.view = k.view ∧ m.num = k.num ∧ m.commit = k.commit ∧ m.normal = k.normal) by simp [*])]; exact h.cut (is := [0, 0]) (js := [0, 1, 2, 3, 4, 5, 6, 7, 8, 9, 10, 11, 12, 13, 14, 15]) ⟨rfl, rfl, rfl, rfl, rfl, trivial⟩ rfl rfl⟩
     ·try simp only [tst_] at h9
      refine GL.pass (s := 68) rfl rfl rfl ?_
      refine GL.pass (s := 68) rfl rfl rfl ?_
      refine GL.pass (s := 68) rfl rfl rfl ?_
      refine GL.pass (s := 68) rfl rfl rfl ?_
      refine GL.pass (s := 68) rfl rfl rfl ?_
      refine GL.pure rfl (p_pick_false rfl rfl) ?_
      refine GL.pure rfl (p_move rfl) ?_
      refine GL.pass (s := 75) rfl rfl rfl ?_
      refine GL.pass (s := 75) rfl rfl rfl ?_
      refine GL.pass (s := 75) rfl rfl rfl ?_
      refine GL.pass (s := 75) rfl rfl rfl ?_
      refine GL.pass (s := 75) rfl rfl rfl ?_
      refine GL.pure rfl (p_pick_false rfl rfl) ?_
      refine GL.pure rfl (p_assign rfl) ?_
      refine GL.nil ?_
      exact fun a w h => ⟨(()), trivial, by rw [decide_eq_false (show ¬ (m.epoch = k.epoch ∧ m.view = k.view ∧ m.num = k.num ∧ m.commit = k.commit ∧ m.normal = k.normal) by simp [*])]; exact h.cut (is := [0, 0]) (js := [0, 1, 2, 3, 4, 5, 6, 7, 8, 9, 10, 11, 12, 13, 14, 15]) ⟨rfl, rfl, rfl, rfl, rfl, trivial⟩ rfl rfl⟩
    ·try simp only [tst_] at h8
     refine GL.pass (s := 61) rfl rfl rfl ?_
     refine GL.pass (s := 61) rfl rfl rfl ?_
     refine GL.pass (s := 61) rfl rfl rfl ?_
     refine GL.pass (s := 61) rfl rfl rfl ?_
     refine GL.pass (s := 61) rfl rfl rfl ?_
     refine GL.pure rfl (p_pick_false rfl rfl) ?_
     refine GL.pure rfl (p_move rfl) ?_
     refine GL.pass (s := 68) rfl rfl rfl ?_
     refine GL.pass (s := 68) rfl rfl rfl ?_
     refine GL.pass (s := 68) rfl rfl rfl ?_
     refine GL.pass (s := 68) rfl rfl rfl ?_
     refine GL.pass (s := 68) rfl rfl rfl ?_
     refine GL.pure rfl (p_pick_false rfl rfl) ?_
     refine GL.pure rfl (p_move rfl) ?_
     refine GL.pass (s := 75) rfl rfl rfl ?_
     refine GL.pass (s := 75) rfl rfl rfl ?_
     refine GL.pass (s := 75) rfl rfl rfl ?_
     refine GL.pass (s := 75) rfl rfl rfl ?_
     refine GL.pass (s := 75) rfl rfl rfl ?_
     refine GL.pure rfl (p_pick_false rfl rfl) ?_
     refine GL.pure rfl (p_assign rfl) ?_
     refine GL.nil ?_
     exact fun a w h => ⟨(()), trivial, by rw [decide_eq_false (show ¬ (m.epoch = k.epoch ∧ m.view = k.view ∧ m.num = k.num ∧ m.commit = k.commit ∧ m.normal = k.normal) by simp [*])]; exact h.cut (is := [0, 0]) (js := [0, 1, 2, 3, 4, 5, 6, 7, 8, 9, 10, 11, 12, 13, 14, 15]) ⟨rfl, rfl, rfl, rfl, rfl, trivial⟩ rfl rfl⟩
   ·try simp only [tst_] at h7
    refine GL.pass (s := 54) rfl rfl rfl ?_
    refine GL.pass (s := 54) rfl rfl rfl ?_
    refine GL.pass (s := 54) rfl rfl rfl ?_
    refine GL.pass (s := 54) rfl rfl rfl ?_
    refine GL.pass (s := 54) rfl rfl rfl ?_
    refine GL.pure rfl (p_pick_false rfl rfl) ?_
    refine GL.pure rfl (p_move rfl) ?_
    refine GL.pass (s := 61) rfl rfl rfl ?_
    refine GL.pass (s := 61) rfl rfl rfl ?_
    refine GL.pass (s := 61) rfl rfl rfl ?_
    refine GL.pass (s := 61) rfl rfl rfl ?_
    refine GL.pass (s := 61) rfl rfl rfl ?_
    refine GL.pure rfl (p_pick_false rfl rfl) ?_
    refine GL.pure rfl (p_move rfl) ?_
    refine GL.pass (s := 68) rfl rfl rfl ?_
    refine GL.pass (s := 68) rfl rfl rfl ?_
    refine GL.pass (s := 68) rfl rfl rfl ?_
    refine GL.pass (s := 68) rfl rfl rfl ?_
    refine GL.pass (s := 68) rfl rfl rfl ?_
    refine GL.pure rfl (p_pick_false rfl rfl) ?_
    refine GL.pure rfl (p_move rfl) ?_
    refine GL.pass (s := 75) rfl rfl rfl ?_
    refine GL.pass (s := 75) rfl rfl rfl ?_
    refine GL.pass (s := 75) rfl rfl rfl ?_
    refine GL.pass (s := 75) rfl rfl rfl ?_
    refine GL.pass (s := 75) rfl rfl rfl ?_
    refine GL.pure rfl (p_pick_false rfl rfl) ?_
    refine GL.pure rfl (p_assign rfl) ?_
    refine GL.nil ?_
    exact fun a w h => ⟨(()), trivial, by rw [decide_eq_false (show ¬ (m.epoch = k.epoch ∧ m.view = k.view ∧ m.num = k.num ∧ m.commit = k.commit ∧ m.normal = k.normal) by simp [*])]; exact h.cut (is := [0, 0]) (js := [0, 1, 2, 3, 4, 5, 6, 7, 8, 9, 10, 11, 12, 13, 14, 15]) ⟨rfl, rfl, rfl, rfl, rfl, trivial⟩ rfl rfl⟩
  ·intro u_ hj2
   try dsimp only [List.cons_append, List.nil_append] at hj2 ⊢
   refine GC.joinK1 (ks := [2, 3, 4, 5, 6]) (is := [0, 1]) (js := [0, 1, 2, 3, 4, 5, 6, 7, 8, 9, 10, 11, 12, 13, 14, 15]) (fun (u_ : Unit) => True) (fun (u_ : Unit) => [(7, .bool (decide (m.res = k.res)))]) (fun (u_ : Unit) => []) (fun (u_ : Unit) => []) rfl rfl rfl ?_ ?_
   ·refine GC.region ?_
    refine GL.pure rfl (p_fieldAddr fo_42_12 rfl) ?_
    refine GL.pure rfl (p_fieldAddr fo_30_0 rfl) ?_
    refine GL.step rfl (t_mem rfl (m_load (i := 1) rfl rfl ag_28 rfl)) ?_
    refine GL.pure rfl (p_fieldAddr fo_42_12 rfl) ?_
    refine GL.pure rfl (p_fieldAddr fo_30_0 rfl) ?_
    refine GL.step rfl (t_mem rfl (m_load (i := 0) rfl rfl ag_28 rfl)) ?_
    refine GL.pure rfl (p_eql rfl rfl) ?_
    refine GL.pure rfl (p_move rfl) ?_
    refine GL.split (i := 89) rfl (fun h12 => ?_) (fun h12 => ?_)
    ·try simp only [tst_] at h12
     refine GL.pureG (s := 89) rfl rfl rfl (p_fieldAddr fo_42_12 rfl) ?_
     refine GL.pureG (s := 89) rfl rfl rfl (p_fieldAddr fo_30_1 rfl) ?_
     refine GL.stepG rfl (s := 89) rfl rfl (t_mem rfl (m_load (i := 1) rfl rfl ag_25 rfl)) ?_
     refine GL.pureG (s := 89) rfl rfl rfl (p_fieldAddr fo_42_12 rfl) ?_
     refine GL.pureG (s := 89) rfl rfl rfl (p_fieldAddr fo_30_1 rfl) ?_
     refine GL.stepG rfl (s := 89) rfl rfl (t_mem rfl (m_load (i := 0) rfl rfl ag_25 rfl)) ?_
     refine GL.stepG rfl (s := 89) rfl rfl (t_call rfl fn_35 rfl (is := []) (js := [2, 10]) rfl rfl (by exact equal_ct _ _ _ _ _ _)) (GL.ret ?_)
     rintro _ _ _ ⟨rfl, rfl, rfl⟩
     refine GL.pure rfl (p_pick_true rfl rfl) ?_
     refine GL.pure rfl (p_assign rfl) ?_
     refine GL.split (i := 7) rfl (fun h13 => ?_) (fun h13 => ?_)
     ·try simp only [tst_] at h13
      refine GL.nil ?_
      exact fun a w h => ⟨(()), trivial, by rw [decide_eq_true (show m.res = k.res by simp [rs_ext, *])]; exact h.cut (is := [0, 0]) (js := [0, 1, 2, 3, 4, 5, 6, 7, 8, 9, 10, 11, 12, 13, 14, 15]) ⟨rfl, rfl, rfl, rfl, rfl, rfl, trivial⟩ rfl rfl⟩
     ·try simp only [tst_] at h13
      refine GL.nil ?_
      exact fun a w h => ⟨(()), trivial, by rw [decide_eq_false (show ¬ (m.res = k.res) by simp [rs_ext, *])]; exact h.cut (is := [0, 0]) (js := [0, 1, 2, 3, 4, 5, 6, 7, 8, 9, 10, 11, 12, 13, 14, 15]) ⟨rfl, rfl, rfl, rfl, rfl, rfl, trivial⟩ rfl rfl⟩
    ·try simp only [tst_] at h12
     refine GL.pass (s := 89) rfl rfl rfl ?_
     refine GL.pass (s := 89) rfl rfl rfl ?_
     refine GL.pass (s := 89) rfl rfl rfl ?_
     refine GL.pass (s := 89) rfl rfl rfl ?_
     refine GL.pass (s := 89) rfl rfl rfl ?_
     refine GL.pass (s := 89) rfl rfl rfl ?_
     refine GL.pass (s := 89) rfl rfl rfl ?_
     refine GL.pure rfl (p_pick_false rfl rfl) ?_
     refine GL.pure rfl (p_assign rfl) ?_
     refine GL.nil ?_
     exact fun a w h => ⟨(()), trivial, by rw [decide_eq_false (show ¬ (m.res = k.res) by simp [rs_ext, *])]; exact h.cut (is := [0, 0]) (js := [0, 1, 2, 3, 4, 5, 6, 7, 8, 9, 10, 11, 12, 13, 14, 15]) ⟨rfl, rfl, rfl, rfl, rfl, rfl, trivial⟩ rfl rfl⟩
   ·intro u_ hj3
    try dsimp only [List.cons_append, List.nil_append] at hj3 ⊢
    refine GC.joinK1 (ks := [2, 3, 4, 5, 6, 7]) (is := [0, 1]) (js := [0, 1, 2, 3, 4, 5, 6, 7, 8, 9, 10, 11, 12, 13, 14, 15]) (fun (u_ : Unit) => True) (fun (u_ : Unit) => [(8, .bool (decide (m.grp = k.grp)))]) (fun (u_ : Unit) => []) (fun (u_ : Unit) => []) rfl rfl rfl ?_ ?_
    ·refine GC.region ?_
     refine GL.pure rfl (p_fieldAddr fo_42_13 rfl) ?_
     refine GL.pure rfl (p_fieldAddr fo_33_0 rfl) ?_
     refine GL.step rfl (t_mem rfl (m_load (i := 1) rfl rfl ag_3 rfl)) ?_
     refine GL.pure rfl (p_fieldAddr fo_42_13 rfl) ?_
     refine GL.pure rfl (p_fieldAddr fo_33_0 rfl) ?_
     refine GL.step rfl (t_mem rfl (m_load (i := 0) rfl rfl ag_3 rfl)) ?_
     refine GL.pure rfl (p_eql rfl rfl) ?_
     refine GL.pure rfl (p_move rfl) ?_
     refine GL.split (i := 105) rfl (fun h14 => ?_) (fun h14 => ?_)
     ·try simp only [tst_] at h14
      refine GL.pureG (s := 105) rfl rfl rfl (p_fieldAddr fo_42_13 rfl) ?_
      refine GL.pureG (s := 105) rfl rfl rfl (p_fieldAddr fo_33_1 rfl) ?_
      refine GL.stepG rfl (s := 105) rfl rfl (t_mem rfl (m_load (i := 1) rfl rfl ag_31 rfl)) ?_
      refine GL.pureG (s := 105) rfl rfl rfl (p_fieldAddr fo_42_13 rfl) ?_
      refine GL.pureG (s := 105) rfl rfl rfl (p_fieldAddr fo_33_1 rfl) ?_
      refine GL.stepG rfl (s := 105) rfl rfl (t_mem rfl (m_load (i := 0) rfl rfl ag_31 rfl)) ?_
      refine GL.stepG rfl (s := 105) rfl rfl (t_call rfl fn_36 rfl (is := []) (js := [3, 11]) rfl rfl (by exact equal_i _ m.grp.members _ _ k.grp.members _ (by have := hm.g; omega))) (GL.ret ?_)
      rintro _ _ _ ⟨rfl, rfl, rfl⟩
      refine GL.pure rfl (p_pick_true rfl rfl) ?_
      refine GL.pure rfl (p_assign rfl) ?_
      refine GL.split (i := 8) rfl (fun h15 => ?_) (fun h15 => ?_)
      ·try simp only [tst_] at h15
       refine GL.nil ?_
       exact fun a w h => ⟨(()), trivial, by rw [decide_eq_true (show m.grp = k.grp by simp [gr_ext, *])]; exact h.cut (is := [0, 0]) (js := [0, 1, 2, 3, 4, 5, 6, 7, 8, 9, 10, 11, 12, 13, 14, 15]) ⟨rfl, rfl, rfl, rfl, rfl, rfl, rfl, trivial⟩ rfl rfl⟩
      ·try simp only [tst_] at h15
       refine GL.nil ?_
       exact fun a w h => ⟨(()), trivial, by rw [decide_eq_false (show ¬ (m.grp = k.grp) by simp [gr_ext, *])]; exact h.cut (is := [0, 0]) (js := [0, 1, 2, 3, 4, 5, 6, 7, 8, 9, 10, 11, 12, 13, 14, 15]) ⟨rfl, rfl, rfl, rfl, rfl, rfl, rfl, trivial⟩ rfl rfl⟩
     ·try simp only [tst_] at h14
      refine GL.pass (s := 105) rfl rfl rfl ?_
      refine GL.pass (s := 105) rfl rfl rfl ?_
      refine GL.pass (s := 105) rfl rfl rfl ?_
      refine GL.pass (s := 105) rfl rfl rfl ?_
      refine GL.pass (s := 105) rfl rfl rfl ?_
      refine GL.pass (s := 105) rfl rfl rfl ?_
      refine GL.pass (s := 105) rfl rfl rfl ?_
      refine GL.pure rfl (p_pick_false rfl rfl) ?_
      refine GL.pure rfl (p_assign rfl) ?_
      refine GL.nil ?_
      exact fun a w h => ⟨(()), trivial, by rw [decide_eq_false (show ¬ (m.grp = k.grp) by simp [gr_ext, *])]; exact h.cut (is := [0, 0]) (js := [0, 1, 2, 3, 4, 5, 6, 7, 8, 9, 10, 11, 12, 13, 14, 15]) ⟨rfl, rfl, rfl, rfl, rfl, rfl, rfl, trivial⟩ rfl rfl⟩
    ·intro u_ hj4
     try dsimp only [List.cons_append, List.nil_append] at hj4 ⊢
     refine GC.seq' ?_
     refine GC.region ?_
     refine GL.pure rfl (p_move rfl) ?_
     refine GL.pure rfl (p_move rfl) ?_
     refine GL.split (i := 115) rfl (fun h16 => ?_) (fun h16 => ?_)
     ·try simp only [tst_] at h16
      refine GL.pureG (s := 115) rfl rfl rfl (p_move rfl) ?_
      refine GL.pure rfl (p_pick_true rfl rfl) ?_
      refine GL.pure rfl (p_move rfl) ?_
      refine GL.split (i := 118) rfl (fun h17 => ?_) (fun h17 => ?_)
      ·try simp only [tst_] at h17
       refine GL.pureG (s := 118) rfl rfl rfl (p_move rfl) ?_
       refine GL.pure rfl (p_pick_true rfl rfl) ?_
       refine GL.pure rfl (p_move rfl) ?_
       refine GL.split (i := 121) rfl (fun h18 => ?_) (fun h18 => ?_)
       ·try simp only [tst_] at h18
        refine GL.pureG (s := 121) rfl rfl rfl (p_move rfl) ?_
        refine GL.pure rfl (p_pick_true rfl rfl) ?_
        refine GL.pure rfl (p_move rfl) ?_
        refine GL.split (i := 124) rfl (fun h19 => ?_) (fun h19 => ?_)
        ·try simp only [tst_] at h19
         refine GL.pureG (s := 124) rfl rfl rfl (p_fieldAddr fo_42_11 rfl) ?_
         refine GL.stepG rfl (s := 124) rfl rfl (t_mem rfl (m_loadN (i := 1) rfl rfl ag_27 (vs := [_, _, _, _, _]) sz_27 ⟨rfl, rfl, rfl, rfl, rfl, trivial⟩)) ?_
         refine GL.pureG (s := 124) rfl rfl rfl (p_fieldAddr fo_42_11 rfl) ?_
         refine GL.stepG rfl (s := 124) rfl rfl (t_mem rfl (m_loadN (i := 0) rfl rfl ag_27 (vs := [_, _, _, _, _]) sz_27 ⟨rfl, rfl, rfl, rfl, rfl, trivial⟩)) ?_
         refine GL.stepG rfl (s := 124) rfl rfl (t_call rfl fn_37 rfl (is := []) (js := [0, 1, 8, 9]) rfl rfl (by exact bsame_ct m.op k.op _ _ _ _ _ _ _ _)) (GL.ret ?_)
         rintro _ _ _ ⟨rfl, rfl, rfl⟩
         refine GL.pure rfl (p_pick_true rfl rfl) ?_
         refine GL.pure rfl (p_move rfl) ?_
         refine GL.split (i := 131) rfl (fun h20 => ?_) (fun h20 => ?_)
         ·try simp only [tst_] at h20
          refine GL.pureG (s := 131) rfl rfl rfl (p_fieldAddr fo_42_14 rfl) ?_
          refine GL.stepG rfl (s := 131) rfl rfl (t_mem rfl (m_loadN (i := 1) rfl rfl ag_39 (vs := [_, _, _, _, _, _, _]) sz_39 ⟨rfl, rfl, rfl, rfl, rfl, rfl, rfl, trivial⟩)) ?_
          refine GL.pureG (s := 131) rfl rfl rfl (p_fieldAddr fo_42_14 rfl) ?_
          refine GL.stepG rfl (s := 131) rfl rfl (t_mem rfl (m_loadN (i := 0) rfl rfl ag_39 (vs := [_, _, _, _, _, _, _]) sz_39 ⟨rfl, rfl, rfl, rfl, rfl, rfl, rfl, trivial⟩)) ?_
          refine GL.stepG rfl (s := 131) rfl rfl (t_call rfl fn_38 rfl (is := []) (js := [4, 5, 6, 12, 13, 14]) rfl rfl (by exact mstt_ct m.stt k.stt _ _ _ _ _ _ _ _ _ _ _ _ (by have := hm.s.p; omega) (by have := hm.s.r; omega) (by have := hm.s.m; omega))) (GL.ret ?_)
          rintro _ _ _ ⟨rfl, rfl, rfl⟩
          refine GL.pure rfl (p_pick_true rfl rfl) ?_
          refine GL.pure rfl (p_move rfl) ?_
          refine GL.split (i := 138) rfl (fun h21 => ?_) (fun h21 => ?_)
          ·try simp only [tst_] at h21
           refine GL.pureG (s := 138) rfl rfl rfl (p_fieldAddr fo_42_15 rfl) ?_
           refine GL.stepG rfl (s := 138) rfl rfl (t_mem rfl (m_load (i := 1) rfl rfl ag_40 rfl)) ?_
           refine GL.pureG (s := 138) rfl rfl rfl (p_fieldAddr fo_42_15 rfl) ?_
           refine GL.stepG rfl (s := 138) rfl rfl (t_mem rfl (m_load (i := 0) rfl rfl ag_40 rfl)) ?_
           refine GL.stepG rfl (s := 138) rfl rfl (t_call rfl fn_39 rfl (is := []) (js := [7, 15]) rfl rfl (by exact eqen_ct _ m.log _ _ k.log _ (by have := hm.l; omega) hm.e)) (GL.ret ?_)
           rintro _ _ _ ⟨rfl, rfl, rfl⟩
           refine GL.pure rfl (p_pick_true rfl rfl) ?_
           refine GL.pure rfl (p_assign rfl) ?_
           refine GL.nil (?_ : GC _ _ _ _)
           refine GC.ret ?_
           refine fun a w h => Fin.back (rs := [.tmp 4]) (vs := [_]) (is := []) (js := []) rfl ⟨rfl, trivial⟩ rfl rfl ?_ h
           clear h
           first | (refine ⟨congrArg Value.bool (decide_eq_true ?_).symm, rfl, rfl⟩; simp_all [ms_ext, gr_ext, rs_ext]; done) | (refine ⟨congrArg Value.bool (decide_eq_false ?_).symm, rfl, rfl⟩; intro e; subst e; simp_all; done) | (refine ⟨congrArg Value.bool ?_, rfl, rfl⟩; rw [Bool.eq_iff_iff]; simp_all [ms_ext, gr_ext, rs_ext]; done)
          ·try simp only [tst_] at h21
           refine GL.pass (s := 138) rfl rfl rfl ?_
           refine GL.pass (s := 138) rfl rfl rfl ?_
           refine GL.pass (s := 138) rfl rfl rfl ?_
           refine GL.pass (s := 138) rfl rfl rfl ?_
           refine GL.pass (s := 138) rfl rfl rfl ?_
           refine GL.pure rfl (p_pick_false rfl rfl) ?_
           refine GL.pure rfl (p_assign rfl) ?_
           refine GL.nil (?_ : GC _ _ _ _)
           refine GC.ret ?_
           refine fun a w h => Fin.back (rs := [.tmp 4]) (vs := [_]) (is := []) (js := []) rfl ⟨rfl, trivial⟩ rfl rfl ?_ h
           clear h
           first | (refine ⟨congrArg Value.bool (decide_eq_true ?_).symm, rfl, rfl⟩; simp_all [ms_ext, gr_ext, rs_ext]; done) | (refine ⟨congrArg Value.bool (decide_eq_false ?_).symm, rfl, rfl⟩; intro e; subst e; simp_all; done) | (refine ⟨congrArg Value.bool ?_, rfl, rfl⟩; rw [Bool.eq_iff_iff]; simp_all [ms_ext, gr_ext, rs_ext]; done)
         ·try simp only [tst_] at h20
          refine GL.pass (s := 131) rfl rfl rfl ?_
          refine GL.pass (s := 131) rfl rfl rfl ?_
          refine GL.pass (s := 131) rfl rfl rfl ?_
          refine GL.pass (s := 131) rfl rfl rfl ?_
          refine GL.pass (s := 131) rfl rfl rfl ?_
          refine GL.pure rfl (p_pick_false rfl rfl) ?_
          refine GL.pure rfl (p_move rfl) ?_
          refine GL.pass (s := 138) rfl rfl rfl ?_
          refine GL.pass (s := 138) rfl rfl rfl ?_
          refine GL.pass (s := 138) rfl rfl rfl ?_
          refine GL.pass (s := 138) rfl rfl rfl ?_
          refine GL.pass (s := 138) rfl rfl rfl ?_
          refine GL.pure rfl (p_pick_false rfl rfl) ?_
          refine GL.pure rfl (p_assign rfl) ?_
          refine GL.nil (?_ : GC _ _ _ _)
          refine GC.ret ?_
          refine fun a w h => Fin.back (rs := [.tmp 4]) (vs := [_]) (is := []) (js := []) rfl ⟨rfl, trivial⟩ rfl rfl ?_ h
          clear h
          first | (refine ⟨congrArg Value.bool (decide_eq_true ?_).symm, rfl, rfl⟩; simp_all [ms_ext, gr_ext, rs_ext]; done) | (refine ⟨congrArg Value.bool (decide_eq_false ?_).symm, rfl, rfl⟩; intro e; subst e; simp_all; done) | (refine ⟨congrArg Value.bool ?_, rfl, rfl⟩; rw [Bool.eq_iff_iff]; simp_all [ms_ext, gr_ext, rs_ext]; done)
        ·try simp only [tst_] at h19
         refine GL.pass (s := 124) rfl rfl rfl ?_
         refine GL.pass (s := 124) rfl rfl rfl ?_
         refine GL.pass (s := 124) rfl rfl rfl ?_
         refine GL.pass (s := 124) rfl rfl rfl ?_
         refine GL.pass (s := 124) rfl rfl rfl ?_
         refine GL.pure rfl (p_pick_false rfl rfl) ?_
         refine GL.pure rfl (p_move rfl) ?_
         refine GL.pass (s := 131) rfl rfl rfl ?_
         refine GL.pass (s := 131) rfl rfl rfl ?_
         refine GL.pass (s := 131) rfl rfl rfl ?_
         refine GL.pass (s := 131) rfl rfl rfl ?_
         refine GL.pass (s := 131) rfl rfl rfl ?_
         refine GL.pure rfl (p_pick_false rfl rfl) ?_
         refine GL.pure rfl (p_move rfl) ?_
         refine GL.pass (s := 138) rfl rfl rfl ?_
         refine GL.pass (s := 138) rfl rfl rfl ?_
         refine GL.pass (s := 138) rfl rfl rfl ?_
         refine GL.pass (s := 138) rfl rfl rfl ?_
         refine GL.pass (s := 138) rfl rfl rfl ?_
         refine GL.pure rfl (p_pick_false rfl rfl) ?_
         refine GL.pure rfl (p_assign rfl) ?_
         refine GL.nil (?_ : GC _ _ _ _)
         refine GC.ret ?_
         refine fun a w h => Fin.back (rs := [.tmp 4]) (vs := [_]) (is := []) (js := []) rfl ⟨rfl, trivial⟩ rfl rfl ?_ h
         clear h
         first | (refine ⟨congrArg Value.bool (decide_eq_true ?_).symm, rfl, rfl⟩; simp_all [ms_ext, gr_ext, rs_ext]; done) | (refine ⟨congrArg Value.bool (decide_eq_false ?_).symm, rfl, rfl⟩; intro e; subst e; simp_all; done) | (refine ⟨congrArg Value.bool ?_, rfl, rfl⟩; rw [Bool.eq_iff_iff]; simp_all [ms_ext, gr_ext, rs_ext]; done)
       ·try simp only [tst_] at h18
        refine GL.pass (s := 121) rfl rfl rfl ?_
        refine GL.pure rfl (p_pick_false rfl rfl) ?_
        refine GL.pure rfl (p_move rfl) ?_
        refine GL.pass (s := 124) rfl rfl rfl ?_
        refine GL.pass (s := 124) rfl rfl rfl ?_
        refine GL.pass (s := 124) rfl rfl rfl ?_
        refine GL.pass (s := 124) rfl rfl rfl ?_
        refine GL.pass (s := 124) rfl rfl rfl ?_
        refine GL.pure rfl (p_pick_false rfl rfl) ?_
        refine GL.pure rfl (p_move rfl) ?_
        refine GL.pass (s := 131) rfl rfl rfl ?_
        refine GL.pass (s := 131) rfl rfl rfl ?_
        refine GL.pass (s := 131) rfl rfl rfl ?_
        refine GL.pass (s := 131) rfl rfl rfl ?_
        refine GL.pass (s := 131) rfl rfl rfl ?_
        refine GL.pure rfl (p_pick_false rfl rfl) ?_
        refine GL.pure rfl (p_move rfl) ?_
        refine GL.pass (s := 138) rfl rfl rfl ?_
        refine GL.pass (s := 138) rfl rfl rfl ?_
        refine GL.pass (s := 138) rfl rfl rfl ?_
        refine GL.pass (s := 138) rfl rfl rfl ?_
        refine GL.pass (s := 138) rfl rfl rfl ?_
        refine GL.pure rfl (p_pick_false rfl rfl) ?_
        refine GL.pure rfl (p_assign rfl) ?_
        refine GL.nil (?_ : GC _ _ _ _)
        refine GC.ret ?_
        refine fun a w h => Fin.back (rs := [.tmp 4]) (vs := [_]) (is := []) (js := []) rfl ⟨rfl, trivial⟩ rfl rfl ?_ h
        clear h
        first | (refine ⟨congrArg Value.bool (decide_eq_true ?_).symm, rfl, rfl⟩; simp_all [ms_ext, gr_ext, rs_ext]; done) | (refine ⟨congrArg Value.bool (decide_eq_false ?_).symm, rfl, rfl⟩; intro e; subst e; simp_all; done) | (refine ⟨congrArg Value.bool ?_, rfl, rfl⟩; rw [Bool.eq_iff_iff]; simp_all [ms_ext, gr_ext, rs_ext]; done)
      ·try simp only [tst_] at h17
       refine GL.pass (s := 118) rfl rfl rfl ?_
       refine GL.pure rfl (p_pick_false rfl rfl) ?_
       refine GL.pure rfl (p_move rfl) ?_
       refine GL.pass (s := 121) rfl rfl rfl ?_
       refine GL.pure rfl (p_pick_false rfl rfl) ?_
       refine GL.pure rfl (p_move rfl) ?_
       refine GL.pass (s := 124) rfl rfl rfl ?_
       refine GL.pass (s := 124) rfl rfl rfl ?_
       refine GL.pass (s := 124) rfl rfl rfl ?_
       refine GL.pass (s := 124) rfl rfl rfl ?_
       refine GL.pass (s := 124) rfl rfl rfl ?_
       refine GL.pure rfl (p_pick_false rfl rfl) ?_
       refine GL.pure rfl (p_move rfl) ?_
       refine GL.pass (s := 131) rfl rfl rfl ?_
       refine GL.pass (s := 131) rfl rfl rfl ?_
       refine GL.pass (s := 131) rfl rfl rfl ?_
       refine GL.pass (s := 131) rfl rfl rfl ?_
       refine GL.pass (s := 131) rfl rfl rfl ?_
       refine GL.pure rfl (p_pick_false rfl rfl) ?_
       refine GL.pure rfl (p_move rfl) ?_
       refine GL.pass (s := 138) rfl rfl rfl ?_
       refine GL.pass (s := 138) rfl rfl rfl ?_
       refine GL.pass (s := 138) rfl rfl rfl ?_
       refine GL.pass (s := 138) rfl rfl rfl ?_
       refine GL.pass (s := 138) rfl rfl rfl ?_
       refine GL.pure rfl (p_pick_false rfl rfl) ?_
       refine GL.pure rfl (p_assign rfl) ?_
       refine GL.nil (?_ : GC _ _ _ _)
       refine GC.ret ?_
       refine fun a w h => Fin.back (rs := [.tmp 4]) (vs := [_]) (is := []) (js := []) rfl ⟨rfl, trivial⟩ rfl rfl ?_ h
       clear h
       first | (refine ⟨congrArg Value.bool (decide_eq_true ?_).symm, rfl, rfl⟩; simp_all [ms_ext, gr_ext, rs_ext]; done) | (refine ⟨congrArg Value.bool (decide_eq_false ?_).symm, rfl, rfl⟩; intro e; subst e; simp_all; done) | (refine ⟨congrArg Value.bool ?_, rfl, rfl⟩; rw [Bool.eq_iff_iff]; simp_all [ms_ext, gr_ext, rs_ext]; done)
     ·try simp only [tst_] at h16
      refine GL.pass (s := 115) rfl rfl rfl ?_
      refine GL.pure rfl (p_pick_false rfl rfl) ?_
      refine GL.pure rfl (p_move rfl) ?_
      refine GL.pass (s := 118) rfl rfl rfl ?_
      refine GL.pure rfl (p_pick_false rfl rfl) ?_
      refine GL.pure rfl (p_move rfl) ?_
      refine GL.pass (s := 121) rfl rfl rfl ?_
      refine GL.pure rfl (p_pick_false rfl rfl) ?_
      refine GL.pure rfl (p_move rfl) ?_
      refine GL.pass (s := 124) rfl rfl rfl ?_
      refine GL.pass (s := 124) rfl rfl rfl ?_
      refine GL.pass (s := 124) rfl rfl rfl ?_
      refine GL.pass (s := 124) rfl rfl rfl ?_
      refine GL.pass (s := 124) rfl rfl rfl ?_
      refine GL.pure rfl (p_pick_false rfl rfl) ?_
      refine GL.pure rfl (p_move rfl) ?_
      refine GL.pass (s := 131) rfl rfl rfl ?_
      refine GL.pass (s := 131) rfl rfl rfl ?_
      refine GL.pass (s := 131) rfl rfl rfl ?_
      refine GL.pass (s := 131) rfl rfl rfl ?_
      refine GL.pass (s := 131) rfl rfl rfl ?_
      refine GL.pure rfl (p_pick_false rfl rfl) ?_
      refine GL.pure rfl (p_move rfl) ?_
      refine GL.pass (s := 138) rfl rfl rfl ?_
      refine GL.pass (s := 138) rfl rfl rfl ?_
      refine GL.pass (s := 138) rfl rfl rfl ?_
      refine GL.pass (s := 138) rfl rfl rfl ?_
      refine GL.pass (s := 138) rfl rfl rfl ?_
      refine GL.pure rfl (p_pick_false rfl rfl) ?_
      refine GL.pure rfl (p_assign rfl) ?_
      refine GL.nil (?_ : GC _ _ _ _)
      refine GC.ret ?_
      refine fun a w h => Fin.back (rs := [.tmp 4]) (vs := [_]) (is := []) (js := []) rfl ⟨rfl, trivial⟩ rfl rfl ?_ h
      clear h
      first | (refine ⟨congrArg Value.bool (decide_eq_true ?_).symm, rfl, rfl⟩; simp_all [ms_ext, gr_ext, rs_ext]; done) | (refine ⟨congrArg Value.bool (decide_eq_false ?_).symm, rfl, rfl⟩; intro e; subst e; simp_all; done) | (refine ⟨congrArg Value.bool ?_, rfl, rfl⟩; rw [Bool.eq_iff_iff]; simp_all [ms_ext, gr_ext, rs_ext]; done)
theorem rmsame_ct (m k : Msg) (s t : Lie) (hm : MsgLen m) : Ct Tryz.prog 15 [msgV m s, msgV k t] [] (msgQ m s ++ msgQ k t) (fun u G Q => u = .bool (decide (m = k)) ∧ G = [] ∧ Q = []) := by
 refine Ct.intro Tryz.func15 rfl rfl rfl (fun c hc => ?_)
 refine GC.seq' ?_
 refine GC.region ?_
 refine GL.step rfl (t_box rfl rfl rfl) (GL.ex fun b_t2 => ?_)
 refine GL.step rfl (t_box rfl rfl rfl) (GL.ex fun b_t3 => ?_)
 refine GL.pure rfl (p_assign rfl) ?_
 refine GL.nil (?_ : GC _ _ _ _)
 refine GC.joinK1 (ks := [2, 3, 4]) (is := [0, 1]) (js := [0, 1, 2, 3, 4, 5, 6, 7, 8, 9, 10, 11, 12, 13, 14, 15]) (fun (u_ : Unit) => True) (fun (u_ : Unit) => [(5, .bool (decide (m.kind = k.kind ∧ m.src = k.src ∧ m.dst = k.dst ∧ m.epoch = k.epoch ∧ m.view = k.view ∧ m.num = k.num ∧ m.commit = k.commit ∧ m.normal = k.normal ∧ m.nonce = k.nonce ∧ m.client = k.client ∧ m.serial = k.serial)))]) (fun (u_ : Unit) => []) (fun (u_ : Unit) => []) rfl rfl rfl ?_ ?_
 ·refine GC.region ?_
  refine GL.pure rfl (p_fieldAddr fo_42_0 rfl) ?_
  refine GL.step rfl (t_mem rfl (m_load (i := 1) rfl rfl ag_22 rfl)) ?_
  refine GL.pure rfl (p_fieldAddr fo_42_0 rfl) ?_
  refine GL.step rfl (t_mem rfl (m_load (i := 0) rfl rfl ag_22 rfl)) ?_
  refine GL.pure rfl (p_eql rfl rfl) ?_
  refine GL.pure rfl (p_move rfl) ?_
  refine GL.split (i := 11) rfl (fun h1 => ?_) (fun h1 => ?_)
  ·try simp only [tst_] at h1
   refine GL.pureG (s := 11) rfl rfl rfl (p_fieldAddr fo_42_1 rfl) ?_
   refine GL.stepG rfl (s := 11) rfl rfl (t_mem rfl (m_load (i := 1) rfl rfl ag_3 rfl)) ?_
   refine GL.pureG (s := 11) rfl rfl rfl (p_fieldAddr fo_42_1 rfl) ?_
   refine GL.stepG rfl (s := 11) rfl rfl (t_mem rfl (m_load (i := 0) rfl rfl ag_3 rfl)) ?_
   refine GL.pureG (s := 11) rfl rfl rfl (p_eql rfl rfl) ?_
   refine GL.pure rfl (p_pick_true rfl rfl) ?_
   refine GL.pure rfl (p_move rfl) ?_
   refine GL.split (i := 18) rfl (fun h2 => ?_) (fun h2 => ?_)
   ·try simp only [tst_] at h2
    refine GL.pureG (s := 18) rfl rfl rfl (p_fieldAddr fo_42_2 rfl) ?_
    refine GL.stepG rfl (s := 18) rfl rfl (t_mem rfl (m_load (i := 1) rfl rfl ag_3 rfl)) ?_
    refine GL.pureG (s := 18) rfl rfl rfl (p_fieldAddr fo_42_2 rfl) ?_
    refine GL.stepG rfl (s := 18) rfl rfl (t_mem rfl (m_load (i := 0) rfl rfl ag_3 rfl)) ?_
    refine GL.pureG (s := 18) rfl rfl rfl (p_eql rfl rfl) ?_
    refine GL.pure rfl (p_pick_true rfl rfl) ?_
    refine GL.pure rfl (p_move rfl) ?_
    refine GL.split (i := 25) rfl (fun h3 => ?_) (fun h3 => ?_)
    ·try simp only [tst_] at h3
     refine GL.pureG (s := 25) rfl rfl rfl (p_fieldAddr fo_42_3 rfl) ?_
     refine GL.stepG rfl (s := 25) rfl rfl (t_mem rfl (m_load (i := 1) rfl rfl ag_3 rfl)) ?_
     refine GL.pureG (s := 25) rfl rfl rfl (p_fieldAddr fo_42_3 rfl) ?_
     refine GL.stepG rfl (s := 25) rfl rfl (t_mem rfl (m_load (i := 0) rfl rfl ag_3 rfl)) ?_
     refine GL.pureG (s := 25) rfl rfl rfl (p_eql rfl rfl) ?_
     refine GL.pure rfl (p_pick_true rfl rfl) ?_
     refine GL.pure rfl (p_move rfl) ?_
     refine GL.split (i := 32) rfl (fun h4 => ?_) (fun h4 => ?_)
     ·try simp only [tst_] at h4
      refine GL.pureG (s := 32) rfl rfl rfl (p_fieldAddr fo_42_4 rfl) ?_
      refine GL.stepG rfl (s := 32) rfl rfl (t_mem rfl (m_load (i := 1) rfl rfl ag_3 rfl)) ?_
      refine GL.pureG (s := 32) rfl rfl rfl (p_fieldAddr fo_42_4 rfl) ?_
      refine GL.stepG rfl (s := 32) rfl rfl (t_mem rfl (m_load (i := 0) rfl rfl ag_3 rfl)) ?_
      refine GL.pureG (s := 32) rfl rfl rfl (p_eql rfl rfl) ?_
      refine GL.pure rfl (p_pick_true rfl rfl) ?_
      refine GL.pure rfl (p_move rfl) ?_
      refine GL.split (i := 39) rfl (fun h5 => ?_) (fun h5 => ?_)
      ·try simp only [tst_] at h5
       refine GL.pureG (s := 39) rfl rfl rfl (p_fieldAddr fo_42_5 rfl) ?_
       refine GL.stepG rfl (s := 39) rfl rfl (t_mem rfl (m_load (i := 1) rfl rfl ag_3 rfl)) ?_
       refine GL.pureG (s := 39) rfl rfl rfl (p_fieldAddr fo_42_5 rfl) ?_
       refine GL.stepG rfl (s := 39) rfl rfl (t_mem rfl (m_load (i := 0) rfl rfl ag_3 rfl)) ?_
       refine GL.pureG (s := 39) rfl rfl rfl (p_eql rfl rfl) ?_
       refine GL.pure rfl (p_pick_true rfl rfl) ?_
       refine GL.pure rfl (p_move rfl) ?_
       refine GL.split (i := 46) rfl (fun h6 => ?_) (fun h6 => ?_)
       ·try simp only [tst_] at h6
        refine GL.pureG (s := 46) rfl rfl rfl (p_fieldAddr fo_42_6 rfl) ?_
        refine GL.stepG rfl (s := 46) rfl rfl (t_mem rfl (m_load (i := 1) rfl rfl ag_3 rfl)) ?_
        refine GL.pureG (s := 46) rfl rfl rfl (p_fieldAddr fo_42_6 rfl) ?_
        refine GL.stepG rfl (s := 46) rfl rfl (t_mem rfl (m_load (i := 0) rfl rfl ag_3 rfl)) ?_
        refine GL.pureG (s := 46) rfl rfl rfl (p_eql rfl rfl) ?_
        refine GL.pure rfl (p_pick_true rfl rfl) ?_
        refine GL.pure rfl (p_move rfl) ?_
        refine GL.split (i := 53) rfl (fun h7 => ?_) (fun h7 => ?_)
        ·try simp only [tst_] at h7
         refine GL.pureG (s := 53) rfl rfl rfl (p_fieldAddr fo_42_7 rfl) ?_
         refine GL.stepG rfl (s := 53) rfl rfl (t_mem rfl (m_load (i := 1) rfl rfl ag_3 rfl)) ?_
         refine GL.pureG (s := 53) rfl rfl rfl (p_fieldAddr fo_42_7 rfl) ?_
         refine GL.stepG rfl (s := 53) rfl rfl (t_mem rfl (m_load (i := 0) rfl rfl ag_3 rfl)) ?_
         refine GL.pureG (s := 53) rfl rfl rfl (p_eql rfl rfl) ?_
         refine GL.pure rfl (p_pick_true rfl rfl) ?_
         refine GL.pure rfl (p_move rfl) ?_
         refine GL.split (i := 60) rfl (fun h8 => ?_) (fun h8 => ?_)
         ·try simp only [tst_] at h8
          refine GL.pureG (s := 60) rfl rfl rfl (p_fieldAddr fo_42_8 rfl) ?_
          refine GL.stepG rfl (s := 60) rfl rfl (t_mem rfl (m_load (i := 1) rfl rfl ag_23 rfl)) ?_
          refine GL.pureG (s := 60) rfl rfl rfl (p_fieldAddr fo_42_8 rfl) ?_
          refine GL.stepG rfl (s := 60) rfl rfl (t_mem rfl (m_load (i := 0) rfl rfl ag_23 rfl)) ?_
          refine GL.pureG (s := 60) rfl rfl rfl (p_eql rfl rfl) ?_
          refine GL.pure rfl (p_pick_true rfl rfl) ?_
          refine GL.pure rfl (p_move rfl) ?_
          refine GL.split (i := 67) rfl (fun h9 => ?_) (fun h9 => ?_)
          ·try simp only [tst_] at h9
           refine GL.pureG (s := 67) rfl rfl rfl (p_fieldAddr fo_42_9 rfl) ?_
           refine GL.stepG rfl (s := 67) rfl rfl (t_mem rfl (m_load (i := 1) rfl rfl ag_3 rfl)) ?_
           refine GL.pureG (s := 67) rfl rfl rfl (p_fieldAddr fo_42_9 rfl) ?_
           refine GL.stepG rfl (s := 67) rfl rfl (t_mem rfl (m_load (i := 0) rfl rfl ag_3 rfl)) ?_
           refine GL.pureG (s := 67) rfl rfl rfl (p_eql rfl rfl) ?_
           refine GL.pure rfl (p_pick_true rfl rfl) ?_
           refine GL.pure rfl (p_move rfl) ?_
           refine GL.split (i := 74) rfl (fun h10 => ?_) (fun h10 => ?_)
           ·try simp only [tst_] at h10
            refine GL.pureG (s := 74) rfl rfl rfl (p_fieldAddr fo_42_10 rfl) ?_
            refine GL.stepG rfl (s := 74) rfl rfl (t_mem rfl (m_load (i := 1) rfl rfl ag_3 rfl)) ?_
            refine GL.pureG (s := 74) rfl rfl rfl (p_fieldAddr fo_42_10 rfl) ?_
            refine GL.stepG rfl (s := 74) rfl rfl (t_mem rfl (m_load (i := 0) rfl rfl ag_3 rfl)) ?_
            refine GL.pureG (s := 74) rfl rfl rfl (p_eql rfl rfl) ?_
            refine GL.pure rfl (p_pick_true rfl rfl) ?_
            refine GL.pure rfl (p_assign rfl) ?_
            refine GL.split (i := 5) rfl (fun h11 => ?_) (fun h11 => ?_)
            ·try simp only [tst_] at h11
             refine GL.nil ?_
             exact fun a w h => ⟨(()), trivial, by rw [decide_eq_true (show m.kind = k.kind ∧ m.src = k.src ∧ m.dst = k.dst ∧ m.epoch = k.epoch ∧ m.view = k.view ∧ m.num = k.num ∧ m.commit = k.commit ∧ m.normal = k.normal ∧ m.nonce = k.nonce ∧ m.client = k.client ∧ m.serial = k.serial by simp [*])]; exact h.cut (is := [0, 0]) (js := [0, 1, 2, 3, 4, 5, 6, 7, 8, 9, 10, 11, 12, 13, 14, 15]) ⟨rfl, rfl, rfl, rfl, trivial⟩ rfl rfl⟩
            ·try simp only [tst_] at h11
             refine GL.nil ?_
             exact fun a w h => ⟨(()), trivial, by rw [decide_eq_false (show ¬ (m.kind = k.kind ∧ m.src = k.src ∧ m.dst = k.dst ∧ m.epoch = k.epoch ∧ m.view = k.view ∧ m.num = k.num ∧ m.commit = k.commit ∧ m.normal = k.normal ∧ m.nonce = k.nonce ∧ m.client = k.client ∧ m.serial = k.serial) by simp [*])]; exact h.cut (is := [0, 0]) (js := [0, 1, 2, 3, 4, 5, 6, 7, 8, 9, 10, 11, 12, 13, 14, 15]) ⟨rfl, rfl, rfl, rfl, trivial⟩ rfl rfl⟩
           ·try simp only [tst_] at h10
            refine GL.pass (s := 74) rfl rfl rfl ?_
            refine GL.pass (s := 74) rfl rfl rfl ?_
            refine GL.pass (s := 74) rfl rfl rfl ?_
            refine GL.pass (s := 74) rfl rfl rfl ?_
            refine GL.pass (s := 74) rfl rfl rfl ?_
            refine GL.pure rfl (p_pick_false rfl rfl) ?_
            refine GL.pure rfl (p_assign rfl) ?_
            refine GL.nil ?_
            exact fun a w h => ⟨(()), trivial, by rw [decide_eq_false (show ¬ (m.kind = k.kind ∧ m.src = k.src ∧ m.dst = k.dst ∧ m.epoch = k.epoch ∧ m.view = k.view ∧ m.num = k.num ∧ m.commit = k.commit ∧ m.normal = k.normal ∧ m.nonce = k.nonce ∧ m.client = k.client ∧ m.serial = k.serial) by simp [*])]; exact h.cut (is := [0, 0]) (js := [0, 1, 2, 3, 4, 5, 6, 7, 8, 9, 10, 11, 12, 13, 14, 15]) ⟨rfl, rfl, rfl, rfl, trivial⟩ rfl rfl⟩
          ·try simp only [tst_] at h9
           refine GL.pass (s := 67) rfl rfl rfl ?_
           refine GL.pass (s := 67) rfl rfl rfl ?_
           refine GL.pass (s := 67) rfl rfl rfl ?_
           refine GL.pass (s := 67) rfl rfl rfl ?_
           refine GL.pass (s := 67) rfl rfl rfl ?_
           refine GL.pure rfl (p_pick_false rfl rfl) ?_
           refine GL.pure rfl (p_move rfl) ?_
           refine GL.pass (s := 74) rfl rfl rfl ?_
           refine GL.pass (s := 74) rfl rfl rfl ?_
           refine GL.pass (s := 74) rfl rfl rfl ?_
           refine GL.pass (s := 74) rfl rfl rfl ?_
           refine GL.pass (s := 74) rfl rfl rfl ?_
           refine GL.pure rfl (p_pick_false rfl rfl) ?_
           refine GL.pure rfl (p_assign rfl) ?_
           refine GL.nil ?_
           exact fun a w h => ⟨(()), trivial, by rw [decide_eq_false (show ¬ (m.kind = k.kind ∧ m.src = k.src ∧ m.dst = k.dst ∧ m.epoch = k.epoch ∧ m.view = k.view ∧ m.num = k.num ∧ m.commit = k.commit ∧ m.normal = k.normal ∧ m.nonce = k.nonce ∧ m.client = k.client ∧ m.serial = k.serial) by simp [*])]; exact h.cut (is := [0, 0]) (js := [0, 1, 2, 3, 4, 5, 6, 7, 8, 9, 10, 11, 12, 13, 14, 15]) ⟨rfl, rfl, rfl, rfl, trivial⟩ rfl rfl⟩
         ·try simp only [tst_] at h8
          refine GL.pass (s := 60) rfl rfl rfl ?_
          refine GL.pass (s := 60) rfl rfl rfl ?_
          refine GL.pass (s := 60) rfl rfl rfl ?_
          refine GL.pass (s := 60) rfl rfl rfl ?_
          refine GL.pass (s := 60) rfl rfl rfl ?_
          refine GL.pure rfl (p_pick_false rfl rfl) ?_
          refine GL.pure rfl (p_move rfl) ?_
          refine GL.pass (s := 67) rfl rfl rfl ?_
          refine GL.pass (s := 67) rfl rfl rfl ?_
          refine GL.pass (s := 67) rfl rfl rfl ?_
          refine GL.pass (s := 67) rfl rfl rfl ?_
          refine GL.pass (s := 67) rfl rfl rfl ?_
          refine GL.pure rfl (p_pick_false rfl rfl) ?_
          refine GL.pure rfl (p_move rfl) ?_
          refine GL.pass (s := 74) rfl rfl rfl ?_
          refine GL.pass (s := 74) rfl rfl rfl ?_
          refine GL.pass (s := 74) rfl rfl rfl ?_
          refine GL.pass (s := 74) rfl rfl rfl ?_
          refine GL.pass (s := 74) rfl rfl rfl ?_
          refine GL.pure rfl (p_pick_false rfl rfl) ?_
          refine GL.pure rfl (p_assign rfl) ?_
          refine GL.nil ?_
          exact fun a w h => ⟨(()), trivial, by rw [decide_eq_false (show ¬ (m.kind = k.kind ∧ m.src = k.src ∧ m.dst = k.dst ∧ m.epoch = k.epoch ∧ m.view = k.view ∧ m.num = k.num ∧ m.commit = k.commit ∧ m.normal = k.normal ∧ m.nonce = k.nonce ∧ m.client = k.client ∧ m.serial = k.serial) by simp [*])]; exact h.cut (is := [0, 0]) (js := [0, 1, 2, 3, 4, 5, 6, 7, 8, 9, 10, 11, 12, 13, 14, 15]) ⟨rfl, rfl, rfl, rfl, trivial⟩ rfl rfl⟩
        ·try simp only [tst_] at h7
         refine GL.pass (s := 53) rfl rfl rfl ?_
         refine GL.pass (s := 53) rfl rfl rfl ?_
         refine GL.pass (s := 53) rfl rfl rfl ?_
         refine GL.pass (s := 53) rfl rfl rfl ?_
         refine GL.pass (s := 53) rfl rfl rfl ?_
         refine GL.pure rfl (p_pick_false rfl rfl) ?_
         refine GL.pure rfl (p_move rfl) ?_
         refine GL.pass (s := 60) rfl rfl rfl ?_
         refine GL.pass (s := 60) rfl rfl rfl ?_
         refine GL.pass (s := 60) rfl rfl rfl ?_
         refine GL.pass (s := 60) rfl rfl rfl ?_
         refine GL.pass (s := 60) rfl rfl rfl ?_
         refine GL.pure rfl (p_pick_false rfl rfl) ?_
         refine GL.pure rfl (p_move rfl) ?_
         refine GL.pass (s := 67) rfl rfl rfl ?_
         refine GL.pass (s := 67) rfl rfl rfl ?_
         refine GL.pass (s := 67) rfl rfl rfl ?_
         refine GL.pass (s := 67) rfl rfl rfl ?_
         refine GL.pass (s := 67) rfl rfl rfl ?_
         refine GL.pure rfl (p_pick_false rfl rfl) ?_
         refine GL.pure rfl (p_move rfl) ?_
         refine GL.pass (s := 74) rfl rfl rfl ?_
         refine GL.pass (s := 74) rfl rfl rfl ?_
         refine GL.pass (s := 74) rfl rfl rfl ?_
         refine GL.pass (s := 74) rfl rfl rfl ?_
         refine GL.pass (s := 74) rfl rfl rfl ?_
         refine GL.pure rfl (p_pick_false rfl rfl) ?_
         refine GL.pure rfl (p_assign rfl) ?_
         refine GL.nil ?_
         exact fun a w h => ⟨(()), trivial, by rw [decide_eq_false (show ¬ (m.kind = k.kind ∧ m.src = k.src ∧ m.dst = k.dst ∧ m.epoch = k.epoch ∧ m.view = k.view ∧ m.num = k.num ∧ m.commit = k.commit ∧ m.normal = k.normal ∧ m.nonce = k.nonce ∧ m.client = k.client ∧ m.serial = k.serial) by simp [*])]; exact h.cut (is := [0, 0]) (js := [0, 1, 2, 3, 4, 5, 6, 7, 8, 9, 10, 11, 12, 13, 14, 15]) ⟨rfl, rfl, rfl, rfl, trivial⟩ rfl rfl⟩
       ·try simp only [tst_] at h6
        refine GL.pass (s := 46) rfl rfl rfl ?_
        refine GL.pass (s := 46) rfl rfl rfl ?_
        refine GL.pass (s := 46) rfl rfl rfl ?_
        refine GL.pass (s := 46) rfl rfl rfl ?_
        refine GL.pass (s := 46) rfl rfl rfl ?_
        refine GL.pure rfl (p_pick_false rfl rfl) ?_
        refine GL.pure rfl (p_move rfl) ?_
        refine GL.pass (s := 53) rfl rfl rfl ?_
        refine GL.pass (s := 53) rfl rfl rfl ?_
        refine GL.pass (s := 53) rfl rfl rfl ?_
        refine GL.pass (s := 53) rfl rfl rfl ?_
        refine GL.pass (s := 53) rfl rfl rfl ?_
        refine GL.pure rfl (p_pick_false rfl rfl) ?_
        refine GL.pure rfl (p_move rfl) ?_
        refine GL.pass (s := 60) rfl rfl rfl ?_
        refine GL.pass (s := 60) rfl rfl rfl ?_
        refine GL.pass (s := 60) rfl rfl rfl ?_
        refine GL.pass (s := 60) rfl rfl rfl ?_
        refine GL.pass (s := 60) rfl rfl rfl ?_
        refine GL.pure rfl (p_pick_false rfl rfl) ?_
        refine GL.pure rfl (p_move rfl) ?_
        refine GL.pass (s := 67) rfl rfl rfl ?_
        refine GL.pass (s := 67) rfl rfl rfl ?_
        refine GL.pass (s := 67) rfl rfl rfl ?_
        refine GL.pass (s := 67) rfl rfl rfl ?_
        refine GL.pass (s := 67) rfl rfl rfl ?_
        refine GL.pure rfl (p_pick_false rfl rfl) ?_
        refine GL.pure rfl (p_move rfl) ?_
        refine GL.pass (s := 74) rfl rfl rfl ?_
        refine GL.pass (s := 74) rfl rfl rfl ?_
        refine GL.pass (s := 74) rfl rfl rfl ?_
        refine GL.pass (s := 74) rfl rfl rfl ?_
        refine GL.pass (s := 74) rfl rfl rfl ?_
        refine GL.pure rfl (p_pick_false rfl rfl) ?_
        refine GL.pure rfl (p_assign rfl) ?_
        refine GL.nil ?_
        exact fun a w h => ⟨(()), trivial, by rw [decide_eq_false (show ¬ (m.kind = k.kind ∧ m.src = k.src ∧ m.dst = k.dst ∧ m.epoch = k.epoch ∧ m.view = k.view ∧ m.num = k.num ∧ m.commit = k.commit ∧ m.normal = k.normal ∧ m.nonce = k.nonce ∧ m.client = k.client ∧ m.serial = k.serial) by simp [*])]; exact h.cut (is := [0, 0]) (js := [0, 1, 2, 3, 4, 5, 6, 7, 8, 9, 10, 11, 12, 13, 14, 15]) ⟨rfl, rfl, rfl, rfl, trivial⟩ rfl rfl⟩
      ·try simp only [tst_] at h5
       refine GL.pass (s := 39) rfl rfl rfl ?_
       refine GL.pass (s := 39) rfl rfl rfl ?_
       refine GL.pass (s := 39) rfl rfl rfl ?_
       refine GL.pass (s := 39) rfl rfl rfl ?_
       refine GL.pass (s := 39) rfl rfl rfl ?_
       refine GL.pure rfl (p_pick_false rfl rfl) ?_
       refine GL.pure rfl (p_move rfl) ?_
       refine GL.pass (s := 46) rfl rfl rfl ?_
       refine GL.pass (s := 46) rfl rfl rfl ?_
       refine GL.pass (s := 46) rfl rfl rfl ?_
       refine GL.pass (s := 46) rfl rfl rfl ?_
       refine GL.pass (s := 46) rfl rfl rfl ?_
       refine GL.pure rfl (p_pick_false rfl rfl) ?_
       refine GL.pure rfl (p_move rfl) ?_
       refine GL.pass (s := 53) rfl rfl rfl ?_
       refine GL.pass (s := 53) rfl rfl rfl ?_
       refine GL.pass (s := 53) rfl rfl rfl ?_
       refine GL.pass (s := 53) rfl rfl rfl ?_
       refine GL.pass (s := 53) rfl rfl rfl ?_
       refine GL.pure rfl (p_pick_false rfl rfl) ?_
       refine GL.pure rfl (p_move rfl) ?_
       refine GL.pass (s := 60) rfl rfl rfl ?_
       refine GL.pass (s := 60) rfl rfl rfl ?_
       refine GL.pass (s := 60) rfl rfl rfl ?_
       refine GL.pass (s := 60) rfl rfl rfl ?_
       refine GL.pass (s := 60) rfl rfl rfl ?_
       refine GL.pure rfl (p_pick_false rfl rfl) ?_
       refine GL.pure rfl (p_move rfl) ?_
       refine GL.pass (s := 67) rfl rfl rfl ?_
       refine GL.pass (s := 67) rfl rfl rfl ?_
       refine GL.pass (s := 67) rfl rfl rfl ?_
       refine GL.pass (s := 67) rfl rfl rfl ?_
       refine GL.pass (s := 67) rfl rfl rfl ?_
       refine GL.pure rfl (p_pick_false rfl rfl) ?_
       refine GL.pure rfl (p_move rfl) ?_
       refine GL.pass (s := 74) rfl rfl rfl ?_
       refine GL.pass (s := 74) rfl rfl rfl ?_
       refine GL.pass (s := 74) rfl rfl rfl ?_
       refine GL.pass (s := 74) rfl rfl rfl ?_
       refine GL.pass (s := 74) rfl rfl rfl ?_
       refine GL.pure rfl (p_pick_false rfl rfl) ?_
       refine GL.pure rfl (p_assign rfl) ?_
       refine GL.nil ?_
       exact fun a w h => ⟨(()), trivial, by rw [decide_eq_false (show ¬ (m.kind = k.kind ∧ m.src = k.src ∧ m.dst = k.dst ∧ m.epoch = k.epoch ∧ m.view = k.view ∧ m.num = k.num ∧ m.commit = k.commit ∧ m.normal = k.normal ∧ m.nonce = k.nonce ∧ m.client = k.client ∧ m.serial = k.serial) by simp [*])]; exact h.cut (is := [0, 0]) (js := [0, 1, 2, 3, 4, 5, 6, 7, 8, 9, 10, 11, 12, 13, 14, 15]) ⟨rfl, rfl, rfl, rfl, trivial⟩ rfl rfl⟩
     ·try simp only [tst_] at h4
      refine GL.pass (s := 32) rfl rfl rfl ?_
      refine GL.pass (s := 32) rfl rfl rfl ?_
      refine GL.pass (s := 32) rfl rfl rfl ?_
      refine GL.pass (s := 32) rfl rfl rfl ?_
      refine GL.pass (s := 32) rfl rfl rfl ?_
      refine GL.pure rfl (p_pick_false rfl rfl) ?_
      refine GL.pure rfl (p_move rfl) ?_
      refine GL.pass (s := 39) rfl rfl rfl ?_
      refine GL.pass (s := 39) rfl rfl rfl ?_
      refine GL.pass (s := 39) rfl rfl rfl ?_
      refine GL.pass (s := 39) rfl rfl rfl ?_
      refine GL.pass (s := 39) rfl rfl rfl ?_
      refine GL.pure rfl (p_pick_false rfl rfl) ?_
      refine GL.pure rfl (p_move rfl) ?_
      refine GL.pass (s := 46) rfl rfl rfl ?_
      refine GL.pass (s := 46) rfl rfl rfl ?_
      refine GL.pass (s := 46) rfl rfl rfl ?_
      refine GL.pass (s := 46) rfl rfl rfl ?_
      refine GL.pass (s := 46) rfl rfl rfl ?_
      refine GL.pure rfl (p_pick_false rfl rfl) ?_
      refine GL.pure rfl (p_move rfl) ?_
      refine GL.pass (s := 53) rfl rfl rfl ?_
      refine GL.pass (s := 53) rfl rfl rfl ?_
      refine GL.pass (s := 53) rfl rfl rfl ?_
      refine GL.pass (s := 53) rfl rfl rfl ?_
      refine GL.pass (s := 53) rfl rfl rfl ?_
      refine GL.pure rfl (p_pick_false rfl rfl) ?_
      refine GL.pure rfl (p_move rfl) ?_
      refine GL.pass (s := 60) rfl rfl rfl ?_
      refine GL.pass (s := 60) rfl rfl rfl ?_
      refine GL.pass (s := 60) rfl rfl rfl ?_
      refine GL.pass (s := 60) rfl rfl rfl ?_
      refine GL.pass (s := 60) rfl rfl rfl ?_
      refine GL.pure rfl (p_pick_false rfl rfl) ?_
      refine GL.pure rfl (p_move rfl) ?_
      refine GL.pass (s := 67) rfl rfl rfl ?_
      refine GL.pass (s := 67) rfl rfl rfl ?_
      refine GL.pass (s := 67) rfl rfl rfl ?_
      refine GL.pass (s := 67) rfl rfl rfl ?_
      refine GL.pass (s := 67) rfl rfl rfl ?_
      refine GL.pure rfl (p_pick_false rfl rfl) ?_
      refine GL.pure rfl (p_move rfl) ?_
      refine GL.pass (s := 74) rfl rfl rfl ?_
      refine GL.pass (s := 74) rfl rfl rfl ?_
      refine GL.pass (s := 74) rfl rfl rfl ?_
      refine GL.pass (s := 74) rfl rfl rfl ?_
      refine GL.pass (s := 74) rfl rfl rfl ?_
      refine GL.pure rfl (p_pick_false rfl rfl) ?_
      refine GL.pure rfl (p_assign rfl) ?_
      refine GL.nil ?_
      exact fun a w h => ⟨(()), trivial, by rw [decide_eq_false (show ¬ (m.kind = k.kind ∧ m.src = k.src ∧ m.dst = k.dst ∧ m.epoch = k.epoch ∧ m.view = k.view ∧ m.num = k.num ∧ m.commit = k.commit ∧ m.normal = k.normal ∧ m.nonce = k.nonce ∧ m.client = k.client ∧ m.serial = k.serial) by simp [*])]; exact h.cut (is := [0, 0]) (js := [0, 1, 2, 3, 4, 5, 6, 7, 8, 9, 10, 11, 12, 13, 14, 15]) ⟨rfl, rfl, rfl, rfl, trivial⟩ rfl rfl⟩
    ·try simp only [tst_] at h3
     refine GL.pass (s := 25) rfl rfl rfl ?_
     refine GL.pass (s := 25) rfl rfl rfl ?_
     refine GL.pass (s := 25) rfl rfl rfl ?_
     refine GL.pass (s := 25) rfl rfl rfl ?_
     refine GL.pass (s := 25) rfl rfl rfl ?_
     refine GL.pure rfl (p_pick_false rfl rfl) ?_
     refine GL.pure rfl (p_move rfl) ?_
     refine GL.pass (s := 32) rfl rfl rfl ?_
     refine GL.pass (s := 32) rfl rfl rfl ?_
     refine GL.pass (s := 32) rfl rfl rfl ?_
     refine GL.pass (s := 32) rfl rfl rfl ?_
     refine GL.pass (s := 32) rfl rfl rfl ?_
     refine GL.pure rfl (p_pick_false rfl rfl) ?_
     refine GL.pure rfl (p_move rfl) ?_
     refine GL.pass (s := 39) rfl rfl rfl ?_
     refine GL.pass (s := 39) rfl rfl rfl ?_
     refine GL.pass (s := 39) rfl rfl rfl ?_
     refine GL.pass (s := 39) rfl rfl rfl ?_
     refine GL.pass (s := 39) rfl rfl rfl ?_
     refine GL.pure rfl (p_pick_false rfl rfl) ?_
     refine GL.pure rfl (p_move rfl) ?_
     refine GL.pass (s := 46) rfl rfl rfl ?_
     refine GL.pass (s := 46) rfl rfl rfl ?_
     refine GL.pass (s := 46) rfl rfl rfl ?_
     refine GL.pass (s := 46) rfl rfl rfl ?_
     refine GL.pass (s := 46) rfl rfl rfl ?_
     refine GL.pure rfl (p_pick_false rfl rfl) ?_
     refine GL.pure rfl (p_move rfl) ?_
     refine GL.pass (s := 53) rfl rfl rfl ?_
     refine GL.pass (s := 53) rfl rfl rfl ?_
     refine GL.pass (s := 53) rfl rfl rfl ?_
     refine GL.pass (s := 53) rfl rfl rfl ?_
     refine GL.pass (s := 53) rfl rfl rfl ?_
     refine GL.pure rfl (p_pick_false rfl rfl) ?_
     refine GL.pure rfl (p_move rfl) ?_
     refine GL.pass (s := 60) rfl rfl rfl ?_
     refine GL.pass (s := 60) rfl rfl rfl ?_
     refine GL.pass (s := 60) rfl rfl rfl ?_
     refine GL.pass (s := 60) rfl rfl rfl ?_
     refine GL.pass (s := 60) rfl rfl rfl ?_
     refine GL.pure rfl (p_pick_false rfl rfl) ?_
     refine GL.pure rfl (p_move rfl) ?_
     refine GL.pass (s := 67) rfl rfl rfl ?_
     refine GL.pass (s := 67) rfl rfl rfl ?_
     refine GL.pass (s := 67) rfl rfl rfl ?_
     refine GL.pass (s := 67) rfl rfl rfl ?_
     refine GL.pass (s := 67) rfl rfl rfl ?_
     refine GL.pure rfl (p_pick_false rfl rfl) ?_
     refine GL.pure rfl (p_move rfl) ?_
     refine GL.pass (s := 74) rfl rfl rfl ?_
     refine GL.pass (s := 74) rfl rfl rfl ?_
     refine GL.pass (s := 74) rfl rfl rfl ?_
     refine GL.pass (s := 74) rfl rfl rfl ?_
     refine GL.pass (s := 74) rfl rfl rfl ?_
     refine GL.pure rfl (p_pick_false rfl rfl) ?_
     refine GL.pure rfl (p_assign rfl) ?_
     refine GL.nil ?_
     exact fun a w h => ⟨(()), trivial, by rw [decide_eq_false (show ¬ (m.kind = k.kind ∧ m.src = k.src ∧ m.dst = k.dst ∧ m.epoch = k.epoch ∧ m.view = k.view ∧ m.num = k.num ∧ m.commit = k.commit ∧ m.normal = k.normal ∧ m.nonce = k.nonce ∧ m.client = k.client ∧ m.serial = k.serial) by simp [*])]; exact h.cut (is := [0, 0]) (js := [0, 1, 2, 3, 4, 5, 6, 7, 8, 9, 10, 11, 12, 13, 14, 15]) ⟨rfl, rfl, rfl, rfl, trivial⟩ rfl rfl⟩
   ·try simp only [tst_] at h2
    refine GL.pass (s := 18) rfl rfl rfl ?_
    refine GL.pass (s := 18) rfl rfl rfl ?_
    refine GL.pass (s := 18) rfl rfl rfl ?_
    refine GL.pass (s := 18) rfl rfl rfl ?_
    refine GL.pass (s := 18) rfl rfl rfl ?_
    refine GL.pure rfl (p_pick_false rfl rfl) ?_
    refine GL.pure rfl (p_move rfl) ?_
    refine GL.pass (s := 25) rfl rfl rfl ?_
    refine GL.pass (s := 25) rfl rfl rfl ?_
    refine GL.pass (s := 25) rfl rfl rfl ?_
    refine GL.pass (s := 25) rfl rfl rfl ?_
    refine GL.pass (s := 25) rfl rfl rfl ?_
    refine GL.pure rfl (p_pick_false rfl rfl) ?_
    refine GL.pure rfl (p_move rfl) ?_
    refine GL.pass (s := 32) rfl rfl rfl ?_
    refine GL.pass (s := 32) rfl rfl rfl ?_
    refine GL.pass (s := 32) rfl rfl rfl ?_
    refine GL.pass (s := 32) rfl rfl rfl ?_
    refine GL.pass (s := 32) rfl rfl rfl ?_
    refine GL.pure rfl (p_pick_false rfl rfl) ?_
    refine GL.pure rfl (p_move rfl) ?_
    refine GL.pass (s := 39) rfl rfl rfl ?_
    refine GL.pass (s := 39) rfl rfl rfl ?_
    refine GL.pass (s := 39) rfl rfl rfl ?_
    refine GL.pass (s := 39) rfl rfl rfl ?_
    refine GL.pass (s := 39) rfl rfl rfl ?_
    refine GL.pure rfl (p_pick_false rfl rfl) ?_
    refine GL.pure rfl (p_move rfl) ?_
    refine GL.pass (s := 46) rfl rfl rfl ?_
    refine GL.pass (s := 46) rfl rfl rfl ?_
    refine GL.pass (s := 46) rfl rfl rfl ?_
    refine GL.pass (s := 46) rfl rfl rfl ?_
    refine GL.pass (s := 46) rfl rfl rfl ?_
    refine GL.pure rfl (p_pick_false rfl rfl) ?_
    refine GL.pure rfl (p_move rfl) ?_
    refine GL.pass (s := 53) rfl rfl rfl ?_
    refine GL.pass (s := 53) rfl rfl rfl ?_
    refine GL.pass (s := 53) rfl rfl rfl ?_
    refine GL.pass (s := 53) rfl rfl rfl ?_
    refine GL.pass (s := 53) rfl rfl rfl ?_
    refine GL.pure rfl (p_pick_false rfl rfl) ?_
    refine GL.pure rfl (p_move rfl) ?_
    refine GL.pass (s := 60) rfl rfl rfl ?_
    refine GL.pass (s := 60) rfl rfl rfl ?_
    refine GL.pass (s := 60) rfl rfl rfl ?_
    refine GL.pass (s := 60) rfl rfl rfl ?_
    refine GL.pass (s := 60) rfl rfl rfl ?_
    refine GL.pure rfl (p_pick_false rfl rfl) ?_
    refine GL.pure rfl (p_move rfl) ?_
    refine GL.pass (s := 67) rfl rfl rfl ?_
    refine GL.pass (s := 67) rfl rfl rfl ?_
    refine GL.pass (s := 67) rfl rfl rfl ?_
    refine GL.pass (s := 67) rfl rfl rfl ?_
    refine GL.pass (s := 67) rfl rfl rfl ?_
    refine GL.pure rfl (p_pick_false rfl rfl) ?_
    refine GL.pure rfl (p_move rfl) ?_
    refine GL.pass (s := 74) rfl rfl rfl ?_
    refine GL.pass (s := 74) rfl rfl rfl ?_
    refine GL.pass (s := 74) rfl rfl rfl ?_
    refine GL.pass (s := 74) rfl rfl rfl ?_
    refine GL.pass (s := 74) rfl rfl rfl ?_
    refine GL.pure rfl (p_pick_false rfl rfl) ?_
    refine GL.pure rfl (p_assign rfl) ?_
    refine GL.nil ?_
    exact fun a w h => ⟨(()), trivial, by rw [decide_eq_false (show ¬ (m.kind = k.kind ∧ m.src = k.src ∧ m.dst = k.dst ∧ m.epoch = k.epoch ∧ m.view = k.view ∧ m.num = k.num ∧ m.commit = k.commit ∧ m.normal = k.normal ∧ m.nonce = k.nonce ∧ m.client = k.client ∧ m.serial = k.serial) by simp [*])]; exact h.cut (is := [0, 0]) (js := [0, 1, 2, 3, 4, 5, 6, 7, 8, 9, 10, 11, 12, 13, 14, 15]) ⟨rfl, rfl, rfl, rfl, trivial⟩ rfl rfl⟩
  ·try simp only [tst_] at h1
   refine GL.pass (s := 11) rfl rfl rfl ?_
   refine GL.pass (s := 11) rfl rfl rfl ?_
   refine GL.pass (s := 11) rfl rfl rfl ?_
   refine GL.pass (s := 11) rfl rfl rfl ?_
   refine GL.pass (s := 11) rfl rfl rfl ?_
   refine GL.pure rfl (p_pick_false rfl rfl) ?_
   refine GL.pure rfl (p_move rfl) ?_
   refine GL.pass (s := 18) rfl rfl rfl ?_
   refine GL.pass (s := 18) rfl rfl rfl ?_
   refine GL.pass (s := 18) rfl rfl rfl ?_
   refine GL.pass (s := 18) rfl rfl rfl ?_
   refine GL.pass (s := 18) rfl rfl rfl ?_
   refine GL.pure rfl (p_pick_false rfl rfl) ?_
   refine GL.pure rfl (p_move rfl) ?_
   refine GL.pass (s := 25) rfl rfl rfl ?_
   refine GL.pass (s := 25) rfl rfl rfl ?_
   refine GL.pass (s := 25) rfl rfl rfl ?_
   refine GL.pass (s := 25) rfl rfl rfl ?_
   refine GL.pass (s := 25) rfl rfl rfl ?_
   refine GL.pure rfl (p_pick_false rfl rfl) ?_
   refine GL.pure rfl (p_move rfl) ?_
   refine GL.pass (s := 32) rfl rfl rfl ?_
   refine GL.pass (s := 32) rfl rfl rfl ?_
   refine GL.pass (s := 32) rfl rfl rfl ?_
   refine GL.pass (s := 32) rfl rfl rfl ?_
   refine GL.pass (s := 32) rfl rfl rfl ?_
   refine GL.pure rfl (p_pick_false rfl rfl) ?_
   refine GL.pure rfl (p_move rfl) ?_
   refine GL.pass (s := 39) rfl rfl rfl ?_
   refine GL.pass (s := 39) rfl rfl rfl ?_
   refine GL.pass (s := 39) rfl rfl rfl ?_
   refine GL.pass (s := 39) rfl rfl rfl ?_
   refine GL.pass (s := 39) rfl rfl rfl ?_
   refine GL.pure rfl (p_pick_false rfl rfl) ?_
   refine GL.pure rfl (p_move rfl) ?_
   refine GL.pass (s := 46) rfl rfl rfl ?_
   refine GL.pass (s := 46) rfl rfl rfl ?_
   refine GL.pass (s := 46) rfl rfl rfl ?_
   refine GL.pass (s := 46) rfl rfl rfl ?_
   refine GL.pass (s := 46) rfl rfl rfl ?_
   refine GL.pure rfl (p_pick_false rfl rfl) ?_
   refine GL.pure rfl (p_move rfl) ?_
   refine GL.pass (s := 53) rfl rfl rfl ?_
   refine GL.pass (s := 53) rfl rfl rfl ?_
   refine GL.pass (s := 53) rfl rfl rfl ?_
   refine GL.pass (s := 53) rfl rfl rfl ?_
   refine GL.pass (s := 53) rfl rfl rfl ?_
   refine GL.pure rfl (p_pick_false rfl rfl) ?_
   refine GL.pure rfl (p_move rfl) ?_
   refine GL.pass (s := 60) rfl rfl rfl ?_
   refine GL.pass (s := 60) rfl rfl rfl ?_
   refine GL.pass (s := 60) rfl rfl rfl ?_
   refine GL.pass (s := 60) rfl rfl rfl ?_
   refine GL.pass (s := 60) rfl rfl rfl ?_
   refine GL.pure rfl (p_pick_false rfl rfl) ?_
   refine GL.pure rfl (p_move rfl) ?_
   refine GL.pass (s := 67) rfl rfl rfl ?_
   refine GL.pass (s := 67) rfl rfl rfl ?_
   refine GL.pass (s := 67) rfl rfl rfl ?_
   refine GL.pass (s := 67) rfl rfl rfl ?_
   refine GL.pass (s := 67) rfl rfl rfl ?_
   refine GL.pure rfl (p_pick_false rfl rfl) ?_
   refine GL.pure rfl (p_move rfl) ?_
   refine GL.pass (s := 74) rfl rfl rfl ?_
   refine GL.pass (s := 74) rfl rfl rfl ?_
   refine GL.pass (s := 74) rfl rfl rfl ?_
   refine GL.pass (s := 74) rfl rfl rfl ?_
   refine GL.pass (s := 74) rfl rfl rfl ?_
   refine GL.pure rfl (p_pick_false rfl rfl) ?_
   refine GL.pure rfl (p_assign rfl) ?_
   refine GL.nil ?_
   exact fun a w h => ⟨(()), trivial, by rw [decide_eq_false (show ¬ (m.kind = k.kind ∧ m.src = k.src ∧ m.dst = k.dst ∧ m.epoch = k.epoch ∧ m.view = k.view ∧ m.num = k.num ∧ m.commit = k.commit ∧ m.normal = k.normal ∧ m.nonce = k.nonce ∧ m.client = k.client ∧ m.serial = k.serial) by simp [*])]; exact h.cut (is := [0, 0]) (js := [0, 1, 2, 3, 4, 5, 6, 7, 8, 9, 10, 11, 12, 13, 14, 15]) ⟨rfl, rfl, rfl, rfl, trivial⟩ rfl rfl⟩
 ·intro u_ hj1
  try dsimp only [List.cons_append, List.nil_append] at hj1 ⊢
  refine GC.seq' ?_
  refine GC.region ?_
  refine GL.pure rfl (p_move rfl) ?_
  refine GL.pure rfl (p_move rfl) ?_
  refine GL.split (i := 82) rfl (fun h12 => ?_) (fun h12 => ?_)
  ·try simp only [tst_] at h12
   refine GL.pureG (s := 82) rfl rfl rfl (p_fieldAddr fo_42_11 rfl) ?_
   refine GL.stepG rfl (s := 82) rfl rfl (t_mem rfl (m_loadN (i := 1) rfl rfl ag_27 (vs := [_, _, _, _, _]) sz_27 ⟨rfl, rfl, rfl, rfl, rfl, trivial⟩)) ?_
   refine GL.pureG (s := 82) rfl rfl rfl (p_fieldAddr fo_42_11 rfl) ?_
   refine GL.stepG rfl (s := 82) rfl rfl (t_mem rfl (m_loadN (i := 0) rfl rfl ag_27 (vs := [_, _, _, _, _]) sz_27 ⟨rfl, rfl, rfl, rfl, rfl, trivial⟩)) ?_
   refine GL.stepG rfl (s := 82) rfl rfl (t_call rfl fn_27 rfl (is := []) (js := [0, 1, 8, 9]) rfl rfl (by exact rbsame_ct m.op k.op _ _ _ _ _ _ _ _)) (GL.ret ?_)
   rintro _ _ _ ⟨rfl, rfl, rfl⟩
   refine GL.pure rfl (p_pick_true rfl rfl) ?_
   refine GL.pure rfl (p_move rfl) ?_
   refine GL.split (i := 89) rfl (fun h13 => ?_) (fun h13 => ?_)
   ·try simp only [tst_] at h13
    refine GL.pureG (s := 89) rfl rfl rfl (p_fieldAddr fo_42_12 rfl) ?_
    refine GL.stepG rfl (s := 89) rfl rfl (t_mem rfl (m_loadN (i := 1) rfl rfl ag_30 (vs := [_, _]) sz_30 ⟨rfl, rfl, trivial⟩)) ?_
    refine GL.pureG (s := 89) rfl rfl rfl (p_fieldAddr fo_42_12 rfl) ?_
    refine GL.stepG rfl (s := 89) rfl rfl (t_mem rfl (m_loadN (i := 0) rfl rfl ag_30 (vs := [_, _]) sz_30 ⟨rfl, rfl, trivial⟩)) ?_
    refine GL.stepG rfl (s := 89) rfl rfl (t_call rfl fn_41 rfl (is := []) (js := [2, 10]) rfl rfl (by exact srs_ct m.res k.res _ _ _ _)) (GL.ret ?_)
    rintro _ _ _ ⟨rfl, rfl, rfl⟩
    refine GL.pure rfl (p_pick_true rfl rfl) ?_
    refine GL.pure rfl (p_move rfl) ?_
    refine GL.split (i := 96) rfl (fun h14 => ?_) (fun h14 => ?_)
    ·try simp only [tst_] at h14
     refine GL.pureG (s := 96) rfl rfl rfl (p_fieldAddr fo_42_13 rfl) ?_
     refine GL.stepG rfl (s := 96) rfl rfl (t_mem rfl (m_loadN (i := 1) rfl rfl ag_33 (vs := [_, _]) sz_33 ⟨rfl, rfl, trivial⟩)) ?_
     refine GL.pureG (s := 96) rfl rfl rfl (p_fieldAddr fo_42_13 rfl) ?_
     refine GL.stepG rfl (s := 96) rfl rfl (t_mem rfl (m_loadN (i := 0) rfl rfl ag_33 (vs := [_, _]) sz_33 ⟨rfl, rfl, trivial⟩)) ?_
     refine GL.stepG rfl (s := 96) rfl rfl (t_call rfl fn_42 rfl (is := []) (js := [3, 11]) rfl rfl (by exact rgsg_ct m.grp k.grp _ _ _ _ (by have := hm.g; omega))) (GL.ret ?_)
     rintro _ _ _ ⟨rfl, rfl, rfl⟩
     refine GL.pure rfl (p_pick_true rfl rfl) ?_
     refine GL.pure rfl (p_move rfl) ?_
     refine GL.split (i := 103) rfl (fun h15 => ?_) (fun h15 => ?_)
     ·try simp only [tst_] at h15
      refine GL.pureG (s := 103) rfl rfl rfl (p_fieldAddr fo_42_14 rfl) ?_
      refine GL.stepG rfl (s := 103) rfl rfl (t_mem rfl (m_loadN (i := 1) rfl rfl ag_39 (vs := [_, _, _, _, _, _, _]) sz_39 ⟨rfl, rfl, rfl, rfl, rfl, rfl, rfl, trivial⟩)) ?_
      refine GL.pureG (s := 103) rfl rfl rfl (p_fieldAddr fo_42_14 rfl) ?_
      refine GL.stepG rfl (s := 103) rfl rfl (t_mem rfl (m_loadN (i := 0) rfl rfl ag_39 (vs := [_, _, _, _, _, _, _]) sz_39 ⟨rfl, rfl, rfl, rfl, rfl, rfl, rfl, trivial⟩)) ?_
      refine GL.stepG rfl (s := 103) rfl rfl (t_call rfl fn_43 rfl (is := []) (js := [4, 5, 6, 12, 13, 14]) rfl rfl (by exact rstt_ct m.stt k.stt _ _ _ _ _ _ _ _ _ _ _ _ (by have := hm.s.p; omega) (by have := hm.s.r; omega) (by have := hm.s.m; omega))) (GL.ret ?_)
      rintro _ _ _ ⟨rfl, rfl, rfl⟩
      refine GL.pure rfl (p_pick_true rfl rfl) ?_
      refine GL.pure rfl (p_move rfl) ?_
      refine GL.split (i := 110) rfl (fun h16 => ?_) (fun h16 => ?_)
      ·try simp only [tst_] at h16
       refine GL.pureG (s := 110) rfl rfl rfl (p_fieldAddr fo_42_15 rfl) ?_
       refine GL.stepG rfl (s := 110) rfl rfl (t_mem rfl (m_load (i := 1) rfl rfl ag_40 rfl)) ?_
       refine GL.pureG (s := 110) rfl rfl rfl (p_fieldAddr fo_42_15 rfl) ?_
       refine GL.stepG rfl (s := 110) rfl rfl (t_mem rfl (m_load (i := 0) rfl rfl ag_40 rfl)) ?_
       refine GL.stepG rfl (s := 110) rfl rfl (t_call rfl fn_44 rfl (is := []) (js := [7, 15]) rfl rfl (by exact rens_ct _ m.log _ _ k.log _ (by have := hm.l; omega) hm.e)) (GL.ret ?_)
       rintro _ _ _ ⟨rfl, rfl, rfl⟩
       refine GL.pure rfl (p_pick_true rfl rfl) ?_
       refine GL.pure rfl (p_assign rfl) ?_
       refine GL.nil (?_ : GC _ _ _ _)
       refine GC.ret ?_
       refine fun a w h => Fin.back (rs := [.tmp 4]) (vs := [_]) (is := []) (js := []) rfl ⟨rfl, trivial⟩ rfl rfl ?_ h
       clear h
       first | (refine ⟨congrArg Value.bool (decide_eq_true ?_).symm, rfl, rfl⟩; simp_all [ms_ext, gr_ext, rs_ext]; done) | (refine ⟨congrArg Value.bool (decide_eq_false ?_).symm, rfl, rfl⟩; intro e; subst e; simp_all; done) | (refine ⟨congrArg Value.bool ?_, rfl, rfl⟩; rw [Bool.eq_iff_iff]; simp_all [ms_ext, gr_ext, rs_ext]; done)
      ·try simp only [tst_] at h16
       refine GL.pass (s := 110) rfl rfl rfl ?_
       refine GL.pass (s := 110) rfl rfl rfl ?_
       refine GL.pass (s := 110) rfl rfl rfl ?_
       refine GL.pass (s := 110) rfl rfl rfl ?_
       refine GL.pass (s := 110) rfl rfl rfl ?_
       refine GL.pure rfl (p_pick_false rfl rfl) ?_
       refine GL.pure rfl (p_assign rfl) ?_
       refine GL.nil (?_ : GC _ _ _ _)
       refine GC.ret ?_
       refine fun a w h => Fin.back (rs := [.tmp 4]) (vs := [_]) (is := []) (js := []) rfl ⟨rfl, trivial⟩ rfl rfl ?_ h
       clear h
       first | (refine ⟨congrArg Value.bool (decide_eq_true ?_).symm, rfl, rfl⟩; simp_all [ms_ext, gr_ext, rs_ext]; done) | (refine ⟨congrArg Value.bool (decide_eq_false ?_).symm, rfl, rfl⟩; intro e; subst e; simp_all; done) | (refine ⟨congrArg Value.bool ?_, rfl, rfl⟩; rw [Bool.eq_iff_iff]; simp_all [ms_ext, gr_ext, rs_ext]; done)
     ·try simp only [tst_] at h15
      refine GL.pass (s := 103) rfl rfl rfl ?_
      refine GL.pass (s := 103) rfl rfl rfl ?_
      refine GL.pass (s := 103) rfl rfl rfl ?_
      refine GL.pass (s := 103) rfl rfl rfl ?_
      refine GL.pass (s := 103) rfl rfl rfl ?_
      refine GL.pure rfl (p_pick_false rfl rfl) ?_
      refine GL.pure rfl (p_move rfl) ?_
      refine GL.pass (s := 110) rfl rfl rfl ?_
      refine GL.pass (s := 110) rfl rfl rfl ?_
      refine GL.pass (s := 110) rfl rfl rfl ?_
      refine GL.pass (s := 110) rfl rfl rfl ?_
      refine GL.pass (s := 110) rfl rfl rfl ?_
      refine GL.pure rfl (p_pick_false rfl rfl) ?_
      refine GL.pure rfl (p_assign rfl) ?_
      refine GL.nil (?_ : GC _ _ _ _)
      refine GC.ret ?_
      refine fun a w h => Fin.back (rs := [.tmp 4]) (vs := [_]) (is := []) (js := []) rfl ⟨rfl, trivial⟩ rfl rfl ?_ h
      clear h
      first | (refine ⟨congrArg Value.bool (decide_eq_true ?_).symm, rfl, rfl⟩; simp_all [ms_ext, gr_ext, rs_ext]; done) | (refine ⟨congrArg Value.bool (decide_eq_false ?_).symm, rfl, rfl⟩; intro e; subst e; simp_all; done) | (refine ⟨congrArg Value.bool ?_, rfl, rfl⟩; rw [Bool.eq_iff_iff]; simp_all [ms_ext, gr_ext, rs_ext]; done)
    ·try simp only [tst_] at h14
     refine GL.pass (s := 96) rfl rfl rfl ?_
     refine GL.pass (s := 96) rfl rfl rfl ?_
     refine GL.pass (s := 96) rfl rfl rfl ?_
     refine GL.pass (s := 96) rfl rfl rfl ?_
     refine GL.pass (s := 96) rfl rfl rfl ?_
     refine GL.pure rfl (p_pick_false rfl rfl) ?_
     refine GL.pure rfl (p_move rfl) ?_
     refine GL.pass (s := 103) rfl rfl rfl ?_
     refine GL.pass (s := 103) rfl rfl rfl ?_
     refine GL.pass (s := 103) rfl rfl rfl ?_
     refine GL.pass (s := 103) rfl rfl rfl ?_
     refine GL.pass (s := 103) rfl rfl rfl ?_
     refine GL.pure rfl (p_pick_false rfl rfl) ?_
     refine GL.pure rfl (p_move rfl) ?_
     refine GL.pass (s := 110) rfl rfl rfl ?_
     refine GL.pass (s := 110) rfl rfl rfl ?_
     refine GL.pass (s := 110) rfl rfl rfl ?_
     refine GL.pass (s := 110) rfl rfl rfl ?_
     refine GL.pass (s := 110) rfl rfl rfl ?_
     refine GL.pure rfl (p_pick_false rfl rfl) ?_
     refine GL.pure rfl (p_assign rfl) ?_
     refine GL.nil (?_ : GC _ _ _ _)
     refine GC.ret ?_
     refine fun a w h => Fin.back (rs := [.tmp 4]) (vs := [_]) (is := []) (js := []) rfl ⟨rfl, trivial⟩ rfl rfl ?_ h
     clear h
     first | (refine ⟨congrArg Value.bool (decide_eq_true ?_).symm, rfl, rfl⟩; simp_all [ms_ext, gr_ext, rs_ext]; done) | (refine ⟨congrArg Value.bool (decide_eq_false ?_).symm, rfl, rfl⟩; intro e; subst e; simp_all; done) | (refine ⟨congrArg Value.bool ?_, rfl, rfl⟩; rw [Bool.eq_iff_iff]; simp_all [ms_ext, gr_ext, rs_ext]; done)
   ·try simp only [tst_] at h13
    refine GL.pass (s := 89) rfl rfl rfl ?_
    refine GL.pass (s := 89) rfl rfl rfl ?_
    refine GL.pass (s := 89) rfl rfl rfl ?_
    refine GL.pass (s := 89) rfl rfl rfl ?_
    refine GL.pass (s := 89) rfl rfl rfl ?_
    refine GL.pure rfl (p_pick_false rfl rfl) ?_
    refine GL.pure rfl (p_move rfl) ?_
    refine GL.pass (s := 96) rfl rfl rfl ?_
    refine GL.pass (s := 96) rfl rfl rfl ?_
    refine GL.pass (s := 96) rfl rfl rfl ?_
    refine GL.pass (s := 96) rfl rfl rfl ?_
    refine GL.pass (s := 96) rfl rfl rfl ?_
    refine GL.pure rfl (p_pick_false rfl rfl) ?_
    refine GL.pure rfl (p_move rfl) ?_
    refine GL.pass (s := 103) rfl rfl rfl ?_
    refine GL.pass (s := 103) rfl rfl rfl ?_
    refine GL.pass (s := 103) rfl rfl rfl ?_
    refine GL.pass (s := 103) rfl rfl rfl ?_
    refine GL.pass (s := 103) rfl rfl rfl ?_
    refine GL.pure rfl (p_pick_false rfl rfl) ?_
    refine GL.pure rfl (p_move rfl) ?_
    refine GL.pass (s := 110) rfl rfl rfl ?_
    refine GL.pass (s := 110) rfl rfl rfl ?_
    refine GL.pass (s := 110) rfl rfl rfl ?_
    refine GL.pass (s := 110) rfl rfl rfl ?_
    refine GL.pass (s := 110) rfl rfl rfl ?_
    refine GL.pure rfl (p_pick_false rfl rfl) ?_
    refine GL.pure rfl (p_assign rfl) ?_
    refine GL.nil (?_ : GC _ _ _ _)
    refine GC.ret ?_
    refine fun a w h => Fin.back (rs := [.tmp 4]) (vs := [_]) (is := []) (js := []) rfl ⟨rfl, trivial⟩ rfl rfl ?_ h
    clear h
    first | (refine ⟨congrArg Value.bool (decide_eq_true ?_).symm, rfl, rfl⟩; simp_all [ms_ext, gr_ext, rs_ext]; done) | (refine ⟨congrArg Value.bool (decide_eq_false ?_).symm, rfl, rfl⟩; intro e; subst e; simp_all; done) | (refine ⟨congrArg Value.bool ?_, rfl, rfl⟩; rw [Bool.eq_iff_iff]; simp_all [ms_ext, gr_ext, rs_ext]; done)
  ·try simp only [tst_] at h12
   refine GL.pass (s := 82) rfl rfl rfl ?_
   refine GL.pass (s := 82) rfl rfl rfl ?_
   refine GL.pass (s := 82) rfl rfl rfl ?_
   refine GL.pass (s := 82) rfl rfl rfl ?_
   refine GL.pass (s := 82) rfl rfl rfl ?_
   refine GL.pure rfl (p_pick_false rfl rfl) ?_
   refine GL.pure rfl (p_move rfl) ?_
   refine GL.pass (s := 89) rfl rfl rfl ?_
   refine GL.pass (s := 89) rfl rfl rfl ?_
   refine GL.pass (s := 89) rfl rfl rfl ?_
   refine GL.pass (s := 89) rfl rfl rfl ?_
   refine GL.pass (s := 89) rfl rfl rfl ?_
   refine GL.pure rfl (p_pick_false rfl rfl) ?_
   refine GL.pure rfl (p_move rfl) ?_
   refine GL.pass (s := 96) rfl rfl rfl ?_
   refine GL.pass (s := 96) rfl rfl rfl ?_
   refine GL.pass (s := 96) rfl rfl rfl ?_
   refine GL.pass (s := 96) rfl rfl rfl ?_
   refine GL.pass (s := 96) rfl rfl rfl ?_
   refine GL.pure rfl (p_pick_false rfl rfl) ?_
   refine GL.pure rfl (p_move rfl) ?_
   refine GL.pass (s := 103) rfl rfl rfl ?_
   refine GL.pass (s := 103) rfl rfl rfl ?_
   refine GL.pass (s := 103) rfl rfl rfl ?_
   refine GL.pass (s := 103) rfl rfl rfl ?_
   refine GL.pass (s := 103) rfl rfl rfl ?_
   refine GL.pure rfl (p_pick_false rfl rfl) ?_
   refine GL.pure rfl (p_move rfl) ?_
   refine GL.pass (s := 110) rfl rfl rfl ?_
   refine GL.pass (s := 110) rfl rfl rfl ?_
   refine GL.pass (s := 110) rfl rfl rfl ?_
   refine GL.pass (s := 110) rfl rfl rfl ?_
   refine GL.pass (s := 110) rfl rfl rfl ?_
   refine GL.pure rfl (p_pick_false rfl rfl) ?_
   refine GL.pure rfl (p_assign rfl) ?_
   refine GL.nil (?_ : GC _ _ _ _)
   refine GC.ret ?_
   refine fun a w h => Fin.back (rs := [.tmp 4]) (vs := [_]) (is := []) (js := []) rfl ⟨rfl, trivial⟩ rfl rfl ?_ h
   clear h
   first | (refine ⟨congrArg Value.bool (decide_eq_true ?_).symm, rfl, rfl⟩; simp_all [ms_ext, gr_ext, rs_ext]; done) | (refine ⟨congrArg Value.bool (decide_eq_false ?_).symm, rfl, rfl⟩; intro e; subst e; simp_all; done) | (refine ⟨congrArg Value.bool ?_, rfl, rfl⟩; rw [Bool.eq_iff_iff]; simp_all [ms_ext, gr_ext, rs_ext]; done)
end Go.Proofs.YtdhdmbmknpjhbaaGreat
namespace Go.Proofs.YtdhdmbmknpjhbaaGreat
open Go Go.Sx Go.Proofs
theorem mnum_ct (n : Int) : Ct Tryz.prog 144 [.int .i64 n] [] [] (fun v G Q => v = .bool (isNum n) ∧ G = [] ∧ Q = []) := by
 refine Ct.intro Tryz.func144 rfl rfl rfl (fun c hc => ?_)
 refine GC.seq' ?_
 refine GC.region ?_
 refine GL.pure rfl (p_assign rfl) ?_
 refine GL.nil (?_ : GC _ _ _ _)
 refine GC.seq' ?_
 refine GC.region ?_
 refine GL.pure rfl (p_move rfl) ?_
 refine GL.pure rfl (p_geq rfl rfl) ?_
 refine GL.pure rfl (p_move rfl) ?_
 refine GL.split (i := 5) rfl (fun h1 => ?_) (fun h1 => ?_)
 ·try simp only [tst_] at h1
  refine GL.pureG (s := 5) rfl rfl rfl (p_move rfl) ?_
  refine GL.pureG (s := 5) rfl rfl rfl (p_leq rfl rfl) ?_
  refine GL.pure rfl (p_pick_true rfl rfl) ?_
  refine GL.pure rfl (p_assign rfl) ?_
  refine GL.nil (?_ : GC _ _ _ _)
  refine GC.ret ?_
  refine fun a w h => Fin.back (rs := [.tmp 2]) (vs := [_]) (is := []) (js := []) rfl ⟨rfl, trivial⟩ rfl rfl ?_ h
  clear h
  refine ⟨congrArg Value.bool ?_, rfl, rfl⟩; simp [isNum]; omega
 ·try simp only [tst_] at h1
  refine GL.pass (s := 5) rfl rfl rfl ?_
  refine GL.pass (s := 5) rfl rfl rfl ?_
  refine GL.pure rfl (p_pick_false rfl rfl) ?_
  refine GL.pure rfl (p_assign rfl) ?_
  refine GL.nil (?_ : GC _ _ _ _)
  refine GC.ret ?_
  refine fun a w h => Fin.back (rs := [.tmp 2]) (vs := [_]) (is := []) (js := []) rfl ⟨rfl, trivial⟩ rfl rfl ?_ h
  clear h
  refine ⟨congrArg Value.bool ?_, rfl, rfl⟩; simp [isNum]; omega
theorem who_ct (n : Int) : Ct Tryz.prog 23 [.int .i64 n] [] [] (fun v G Q => v = .bool (decide (who n)) ∧ G = [] ∧ Q = []) := by
 refine Ct.intro Tryz.func23 rfl rfl rfl (fun c hc => ?_)
 refine GC.seq' ?_
 refine GC.region ?_
 refine GL.pure rfl (p_assign rfl) ?_
 refine GL.nil (?_ : GC _ _ _ _)
 refine GC.seq' ?_
 refine GC.region ?_
 refine GL.pure rfl (p_move rfl) ?_
 refine GL.pure rfl (p_geq rfl rfl) ?_
 refine GL.pure rfl (p_move rfl) ?_
 refine GL.split (i := 5) rfl (fun h1 => ?_) (fun h1 => ?_)
 ·try simp only [tst_] at h1
  refine GL.pureG (s := 5) rfl rfl rfl (p_move rfl) ?_
  refine GL.pureG (s := 5) rfl rfl rfl (p_lss rfl rfl) ?_
  refine GL.pure rfl (p_pick_true rfl rfl) ?_
  refine GL.pure rfl (p_assign rfl) ?_
  refine GL.nil (?_ : GC _ _ _ _)
  refine GC.ret ?_
  refine fun a w h => Fin.back (rs := [.tmp 2]) (vs := [_]) (is := []) (js := []) rfl ⟨rfl, trivial⟩ rfl rfl ?_ h
  clear h
  refine ⟨congrArg Value.bool ?_, rfl, rfl⟩; first | exact (decide_eq_true (by unfold who; omega)).symm | exact (decide_eq_false (by unfold who; omega)).symm | exact decide_eq_decide.2 (by unfold who; omega)
 ·try simp only [tst_] at h1
  refine GL.pass (s := 5) rfl rfl rfl ?_
  refine GL.pass (s := 5) rfl rfl rfl ?_
  refine GL.pure rfl (p_pick_false rfl rfl) ?_
  refine GL.pure rfl (p_assign rfl) ?_
  refine GL.nil (?_ : GC _ _ _ _)
  refine GC.ret ?_
  refine fun a w h => Fin.back (rs := [.tmp 2]) (vs := [_]) (is := []) (js := []) rfl ⟨rfl, trivial⟩ rfl rfl ?_ h
  clear h
  refine ⟨congrArg Value.bool ?_, rfl, rfl⟩; first | exact (decide_eq_true (by unfold who; omega)).symm | exact (decide_eq_false (by unfold who; omega)).symm | exact decide_eq_decide.2 (by unfold who; omega)
theorem rwho_ct (n : Int) : Ct Tryz.prog 25 [.int .i64 n] [] [] (fun v G Q => v = .bool (decide (who n)) ∧ G = [] ∧ Q = []) := by
 refine Ct.intro Tryz.func25 rfl rfl rfl (fun c hc => ?_)
 refine GC.seq' ?_
 refine GC.region ?_
 refine GL.pure rfl (p_assign rfl) ?_
 refine GL.nil (?_ : GC _ _ _ _)
 refine GC.seq' ?_
 refine GC.region ?_
 refine GL.pure rfl (p_move rfl) ?_
 refine GL.pure rfl (p_geq rfl rfl) ?_
 refine GL.pure rfl (p_move rfl) ?_
 refine GL.split (i := 5) rfl (fun h1 => ?_) (fun h1 => ?_)
 ·try simp only [tst_] at h1
  refine GL.pureG (s := 5) rfl rfl rfl (p_move rfl) ?_
  refine GL.pureG (s := 5) rfl rfl rfl (p_lss rfl rfl) ?_
  refine GL.pure rfl (p_pick_true rfl rfl) ?_
  refine GL.pure rfl (p_assign rfl) ?_
  refine GL.nil (?_ : GC _ _ _ _)
  refine GC.ret ?_
  refine fun a w h => Fin.back (rs := [.tmp 2]) (vs := [_]) (is := []) (js := []) rfl ⟨rfl, trivial⟩ rfl rfl ?_ h
  clear h
  refine ⟨congrArg Value.bool ?_, rfl, rfl⟩; first | exact (decide_eq_true (by unfold who; omega)).symm | exact (decide_eq_false (by unfold who; omega)).symm | exact decide_eq_decide.2 (by unfold who; omega)
 ·try simp only [tst_] at h1
  refine GL.pass (s := 5) rfl rfl rfl ?_
  refine GL.pass (s := 5) rfl rfl rfl ?_
  refine GL.pure rfl (p_pick_false rfl rfl) ?_
  refine GL.pure rfl (p_assign rfl) ?_
  refine GL.nil (?_ : GC _ _ _ _)
  refine GC.ret ?_
  refine fun a w h => Fin.back (rs := [.tmp 2]) (vs := [_]) (is := []) (js := []) rfl ⟨rfl, trivial⟩ rfl rfl ?_ h
  clear h
  refine ⟨congrArg Value.bool ?_, rfl, rfl⟩; first | exact (decide_eq_true (by unfold who; omega)).symm | exact (decide_eq_false (by unfold who; omega)).symm | exact decide_eq_decide.2 (by unfold who; omega)
theorem chk1_ct (n : Int) : Ct Tryz.prog 22 [.int .i64 n] [] [] (fun v G Q => v = .bool (decide (¬ in62 n)) ∧ G = [] ∧ Q = []) := by
 refine Ct.intro Tryz.func22 rfl rfl rfl (fun c hc => ?_)
 refine GC.seq' ?_
 refine GC.region ?_
 refine GL.pure rfl (p_assign rfl) ?_
 refine GL.nil (?_ : GC _ _ _ _)
 refine GC.seq' ?_
 refine GC.region ?_
 refine GL.pure rfl (p_move rfl) ?_
 refine GL.pure rfl (p_lss rfl rfl) ?_
 refine GL.pure rfl (p_move rfl) ?_
 refine GL.split (i := 5) rfl (fun h1 => ?_) (fun h1 => ?_)
 ·try simp only [tst_] at h1
  refine GL.pass (s := 5) rfl rfl rfl ?_
  refine GL.pass (s := 5) rfl rfl rfl ?_
  refine GL.pure rfl (p_pick_true rfl rfl) ?_
  refine GL.pure rfl (p_assign rfl) ?_
  refine GL.nil (?_ : GC _ _ _ _)
  refine GC.ret ?_
  refine fun a w h => Fin.back (rs := [.tmp 2]) (vs := [_]) (is := []) (js := []) rfl ⟨rfl, trivial⟩ rfl rfl ?_ h
  clear h
  refine ⟨congrArg Value.bool ?_, rfl, rfl⟩; first | exact (decide_eq_true (by unfold in62; omega)).symm | exact (decide_eq_false (by unfold in62; omega)).symm | exact decide_eq_decide.2 (by unfold in62; omega)
 ·try simp only [tst_] at h1
  refine GL.pureG (s := 5) rfl rfl rfl (p_move rfl) ?_
  refine GL.pureG (s := 5) rfl rfl rfl (p_gtr rfl rfl) ?_
  refine GL.pure rfl (p_pick_false rfl rfl) ?_
  refine GL.pure rfl (p_assign rfl) ?_
  refine GL.nil (?_ : GC _ _ _ _)
  refine GC.ret ?_
  refine fun a w h => Fin.back (rs := [.tmp 2]) (vs := [_]) (is := []) (js := []) rfl ⟨rfl, trivial⟩ rfl rfl ?_ h
  clear h
  refine ⟨congrArg Value.bool ?_, rfl, rfl⟩; first | exact (decide_eq_true (by unfold in62; omega)).symm | exact (decide_eq_false (by unfold in62; omega)).symm | exact decide_eq_decide.2 (by unfold in62; omega)
theorem zgrp_ct (g : Grp) (A : Option Addr) (cp : Nat) : Ct Tryz.prog 31 [grpV g.epoch A g.members.length cp] [] [] (fun v G Q => v = .bool (decide (g = zgr)) ∧ G = [] ∧ Q = []) := by
 refine Ct.intro Tryz.func31 rfl rfl rfl (fun c hc => ?_)
 refine GC.seq' ?_
 refine GC.region ?_
 refine GL.step rfl (t_box rfl rfl rfl) (GL.ex fun b_t1 => ?_)
 refine GL.pure rfl (p_assign rfl) ?_
 refine GL.nil (?_ : GC _ _ _ _)
 refine GC.seq' ?_
 refine GC.region ?_
 refine GL.pure rfl (p_fieldAddr fo_33_0 rfl) ?_
 refine GL.step rfl (t_mem rfl (m_load (i := 0) rfl rfl ag_3 rfl)) ?_
 refine GL.pure rfl (p_eql rfl rfl) ?_
 refine GL.pure rfl (p_move rfl) ?_
 refine GL.split (i := 6) rfl (fun h1 => ?_) (fun h1 => ?_)
 ·try simp only [tst_] at h1
  refine GL.pureG (s := 6) rfl rfl rfl (p_fieldAddr fo_33_1 rfl) ?_
  refine GL.stepG rfl (s := 6) rfl rfl (t_mem rfl (m_load (i := 0) rfl rfl ag_31 rfl)) ?_
  refine GL.pureG (s := 6) rfl rfl rfl (p_len Tryz.underlying31 rfl) ?_
  refine GL.pureG (s := 6) rfl rfl rfl (p_eql rfl rfl) ?_
  refine GL.pure rfl (p_pick_true rfl rfl) ?_
  refine GL.pure rfl (p_assign rfl) ?_
  refine GL.nil (?_ : GC _ _ _ _)
  refine GC.ret ?_
  refine fun a w h => Fin.back (rs := [.tmp 2]) (vs := [_]) (is := []) (js := []) rfl ⟨rfl, trivial⟩ rfl rfl ?_ h
  clear h
  refine ⟨congrArg Value.bool ?_, rfl, rfl⟩; simp [gr_ext, zgr, *]
 ·try simp only [tst_] at h1
  refine GL.pass (s := 6) rfl rfl rfl ?_
  refine GL.pass (s := 6) rfl rfl rfl ?_
  refine GL.pass (s := 6) rfl rfl rfl ?_
  refine GL.pass (s := 6) rfl rfl rfl ?_
  refine GL.pure rfl (p_pick_false rfl rfl) ?_
  refine GL.pure rfl (p_assign rfl) ?_
  refine GL.nil (?_ : GC _ _ _ _)
  refine GC.ret ?_
  refine fun a w h => Fin.back (rs := [.tmp 2]) (vs := [_]) (is := []) (js := []) rfl ⟨rfl, trivial⟩ rfl rfl ?_ h
  clear h
  refine ⟨congrArg Value.bool ?_, rfl, rfl⟩; simp [gr_ext, zgr, *]
theorem zres_ct (g : Res) (A : Option Addr) (cp : Nat) : Ct Tryz.prog 29 [.agg #[.int .u8 g.code, .slice A g.data.length cp]] [] [] (fun v G Q => v = .bool (decide (g = rz)) ∧ G = [] ∧ Q = []) := by
 refine Ct.intro Tryz.func29 rfl rfl rfl (fun c hc => ?_)
 refine GC.seq' ?_
 refine GC.region ?_
 refine GL.step rfl (t_box rfl rfl rfl) (GL.ex fun b_t1 => ?_)
 refine GL.pure rfl (p_assign rfl) ?_
 refine GL.nil (?_ : GC _ _ _ _)
 refine GC.seq' ?_
 refine GC.region ?_
 refine GL.pure rfl (p_fieldAddr fo_30_0 rfl) ?_
 refine GL.step rfl (t_mem rfl (m_load (i := 0) rfl rfl ag_28 rfl)) ?_
 refine GL.pure rfl (p_eql rfl rfl) ?_
 refine GL.pure rfl (p_move rfl) ?_
 refine GL.split (i := 6) rfl (fun h1 => ?_) (fun h1 => ?_)
 ·try simp only [tst_] at h1
  refine GL.pureG (s := 6) rfl rfl rfl (p_fieldAddr fo_30_1 rfl) ?_
  refine GL.stepG rfl (s := 6) rfl rfl (t_mem rfl (m_load (i := 0) rfl rfl ag_25 rfl)) ?_
  refine GL.pureG (s := 6) rfl rfl rfl (p_len Tryz.underlying25 rfl) ?_
  refine GL.pureG (s := 6) rfl rfl rfl (p_eql rfl rfl) ?_
  refine GL.pure rfl (p_pick_true rfl rfl) ?_
  refine GL.pure rfl (p_assign rfl) ?_
  refine GL.nil (?_ : GC _ _ _ _)
  refine GC.ret ?_
  refine fun a w h => Fin.back (rs := [.tmp 2]) (vs := [_]) (is := []) (js := []) rfl ⟨rfl, trivial⟩ rfl rfl ?_ h
  clear h
  refine ⟨congrArg Value.bool ?_, rfl, rfl⟩; simp [rs_ext, rz, *]
 ·try simp only [tst_] at h1
  refine GL.pass (s := 6) rfl rfl rfl ?_
  refine GL.pass (s := 6) rfl rfl rfl ?_
  refine GL.pass (s := 6) rfl rfl rfl ?_
  refine GL.pass (s := 6) rfl rfl rfl ?_
  refine GL.pure rfl (p_pick_false rfl rfl) ?_
  refine GL.pure rfl (p_assign rfl) ?_
  refine GL.nil (?_ : GC _ _ _ _)
  refine GC.ret ?_
  refine fun a w h => Fin.back (rs := [.tmp 2]) (vs := [_]) (is := []) (js := []) rfl ⟨rfl, trivial⟩ rfl rfl ?_ h
  clear h
  refine ⟨congrArg Value.bool ?_, rfl, rfl⟩; simp [rs_ext, rz, *]
theorem bareO_ct (o : OpD) (A : Option Addr) (cp : Nat) (B : Option Addr) (cq : Nat) : Ct Tryz.prog 113 [opD o A cp B cq] [] [Pers.row Kd.u8 A o.data, Pers.row Kd.u8 B o.old] (fun u G Q => u = .bool (decide (o = zop)) ∧ G = [] ∧ Q = []) := by
 refine Ct.intro Tryz.func113 rfl rfl rfl (fun c hc => ?_)
 refine GC.seq' ?_
 refine GC.region ?_
 refine GL.step rfl (t_box rfl rfl rfl) (GL.ex fun b_t1 => ?_)
 refine GL.pure rfl (p_assign rfl) ?_
 refine GL.nil (?_ : GC _ _ _ _)
 refine GC.seq' ?_
 refine GC.region ?_
 refine GL.step rfl (t_mem rfl (m_loadN (i := 0) rfl rfl ag_27 (vs := [_, _, _, _, _]) sz_27 ⟨rfl, rfl, rfl, rfl, rfl, trivial⟩)) ?_
 refine GL.pure rfl (p_build ze_27 of_27 rfl rfl) ?_
 refine GL.step rfl (t_call rfl fn_27 rfl (is := []) (js := [0, 1]) rfl rfl (by exact rbzero_ct o _ _ _ _)) (GL.ret ?_)
 rintro _ _ _ ⟨rfl, rfl, rfl⟩
 refine GL.pure rfl (p_assign rfl) ?_
 refine GL.nil (?_ : GC _ _ _ _)
 refine GC.ret ?_
 refine fun a w h => Fin.back (rs := [.tmp 2]) (vs := [_]) (is := []) (js := []) rfl ⟨rfl, trivial⟩ rfl rfl ?_ h
 clear h
 exact ⟨rfl, rfl, rfl⟩
def entNums (e : Entry) : Prop := isNum e.num = true ∧ isNum e.client = true ∧ isNum e.serial = true ∧ in62 e.view
instance (e : Entry) : Decidable (entNums e) := by unfold entNums; infer_instance
def entRest (e : Entry) : Prop := (e.kind = 1 ∧ formD e.op ∧ e.grp.epoch = 0 ∧ e.grp.members.length = 0) ∨ (e.kind = 2 ∧ e.op = zop ∧ groupOk e.grp.epoch e.grp.members = true ∧ e.view < 4611686018427387904)
instance (e : Entry) : Decidable (entRest e) := by unfold entRest; infer_instance
theorem entE_eq (e : Entry) : entE e = if entNums e ∧ entRest e then 0 else 71 := by
  unfold entE entOk entNums entRest
  congr 1
  simp only [eq_iff_iff, and_assoc]
theorem entE_yes {e : Entry} (h : entNums e ∧ entRest e) : entE e = 0 := by rw [entE_eq, if_pos h]
theorem entE_no {e : Entry} (h : ¬ (entNums e ∧ entRest e)) : entE e = 71 := by rw [entE_eq, if_neg h]
theorem ment_ct (e : Entry) (A : Option Addr) (cp : Nat) (B : Option Addr) (cq : Nat) (C : Option Addr) (cr : Nat) (hl : e.grp.members.length ≤ 140737488355328) : Ct Tryz.prog 112 [entV e A cp B cq C cr] [] (entQ e A B C) (fun u G Q => u = .int .i64 (entE e) ∧ G = [] ∧ Q = []) := by
 refine Ct.intro Tryz.func112 rfl rfl rfl (fun c hc => ?_)
 refine GC.seq' ?_
 refine GC.region ?_
 refine GL.step rfl (t_box rfl rfl rfl) (GL.ex fun b_t1 => ?_)
 refine GL.pure rfl (p_assign rfl) ?_
 refine GL.nil (?_ : GC _ _ _ _)
 refine GC.joinK1 (ks := [1, 2]) (is := [0]) (js := [0, 1, 2]) (fun (u_ : Unit) => True) (fun (u_ : Unit) => [(3, .bool (decide (entNums e)))]) (fun (u_ : Unit) => []) (fun (u_ : Unit) => []) rfl rfl rfl ?_ ?_
 ·refine GC.region ?_
  refine GL.pure rfl (p_fieldAddr fo_64_1 rfl) ?_
  refine GL.step rfl (t_mem rfl (m_load (i := 0) rfl rfl ag_3 rfl)) ?_
  refine GL.step rfl (t_call rfl fn_144 rfl (is := []) (js := []) rfl rfl (by exact mnum_ct _)) (GL.ret ?_)
  rintro _ _ _ ⟨rfl, rfl, rfl⟩
  refine GL.pure rfl (p_move rfl) ?_
  refine GL.split (i := 7) rfl (fun h1 => ?_) (fun h1 => ?_)
  ·try simp only [tst_, formE_iff, grpE_iff] at h1
   refine GL.pureG (s := 7) rfl rfl rfl (p_fieldAddr fo_64_3 rfl) ?_
   refine GL.stepG rfl (s := 7) rfl rfl (t_mem rfl (m_load (i := 0) rfl rfl ag_3 rfl)) ?_
   refine GL.stepG rfl (s := 7) rfl rfl (t_call rfl fn_144 rfl (is := []) (js := []) rfl rfl (by exact mnum_ct _)) (GL.ret ?_)
   rintro _ _ _ ⟨rfl, rfl, rfl⟩
   refine GL.pure rfl (p_pick_true rfl rfl) ?_
   refine GL.pure rfl (p_move rfl) ?_
   refine GL.split (i := 12) rfl (fun h2 => ?_) (fun h2 => ?_)
   ·try simp only [tst_, formE_iff, grpE_iff] at h2
    refine GL.pureG (s := 12) rfl rfl rfl (p_fieldAddr fo_64_4 rfl) ?_
    refine GL.stepG rfl (s := 12) rfl rfl (t_mem rfl (m_load (i := 0) rfl rfl ag_3 rfl)) ?_
    refine GL.stepG rfl (s := 12) rfl rfl (t_call rfl fn_144 rfl (is := []) (js := []) rfl rfl (by exact mnum_ct _)) (GL.ret ?_)
    rintro _ _ _ ⟨rfl, rfl, rfl⟩
    refine GL.pure rfl (p_pick_true rfl rfl) ?_
    refine GL.pure rfl (p_move rfl) ?_
    refine GL.split (i := 17) rfl (fun h3 => ?_) (fun h3 => ?_)
    ·try simp only [tst_, formE_iff, grpE_iff] at h3
     refine GL.pureG (s := 17) rfl rfl rfl (p_fieldAddr fo_64_2 rfl) ?_
     refine GL.stepG rfl (s := 17) rfl rfl (t_mem rfl (m_load (i := 0) rfl rfl ag_3 rfl)) ?_
     refine GL.pureG (s := 17) rfl rfl rfl (p_geq rfl rfl) ?_
     refine GL.pure rfl (p_pick_true rfl rfl) ?_
     refine GL.pure rfl (p_move rfl) ?_
     refine GL.split (i := 22) rfl (fun h4 => ?_) (fun h4 => ?_)
     ·try simp only [tst_, formE_iff, grpE_iff] at h4
      refine GL.pureG (s := 22) rfl rfl rfl (p_fieldAddr fo_64_2 rfl) ?_
      refine GL.stepG rfl (s := 22) rfl rfl (t_mem rfl (m_load (i := 0) rfl rfl ag_3 rfl)) ?_
      refine GL.pureG (s := 22) rfl rfl rfl (p_leq rfl rfl) ?_
      refine GL.pure rfl (p_pick_true rfl rfl) ?_
      refine GL.pure rfl (p_assign rfl) ?_
      refine GL.split (i := 3) rfl (fun h5 => ?_) (fun h5 => ?_)
      ·try simp only [tst_, formE_iff, grpE_iff] at h5
       refine GL.nil ?_
       exact fun a w h => ⟨(()), trivial, by rw [decide_eq_true (show entNums e by simp only [entNums, in62]; simp_all; try omega)]; exact h.cut (is := [0]) (js := [0, 1, 2]) ⟨rfl, rfl, rfl, trivial⟩ rfl rfl⟩
      ·try simp only [tst_, formE_iff, grpE_iff] at h5
       refine GL.nil ?_
       exact fun a w h => ⟨(()), trivial, by rw [decide_eq_false (show ¬ (entNums e) by simp only [entNums, in62]; simp_all; try omega)]; exact h.cut (is := [0]) (js := [0, 1, 2]) ⟨rfl, rfl, rfl, trivial⟩ rfl rfl⟩
     ·try simp only [tst_, formE_iff, grpE_iff] at h4
      refine GL.pass (s := 22) rfl rfl rfl ?_
      refine GL.pass (s := 22) rfl rfl rfl ?_
      refine GL.pass (s := 22) rfl rfl rfl ?_
      refine GL.pure rfl (p_pick_false rfl rfl) ?_
      refine GL.pure rfl (p_assign rfl) ?_
      refine GL.nil ?_
      exact fun a w h => ⟨(()), trivial, by rw [decide_eq_false (show ¬ (entNums e) by simp only [entNums, in62]; simp_all; try omega)]; exact h.cut (is := [0]) (js := [0, 1, 2]) ⟨rfl, rfl, rfl, trivial⟩ rfl rfl⟩
    ·try simp only [tst_, formE_iff, grpE_iff] at h3
     refine GL.pass (s := 17) rfl rfl rfl ?_
     refine GL.pass (s := 17) rfl rfl rfl ?_
     refine GL.pass (s := 17) rfl rfl rfl ?_
     refine GL.pure rfl (p_pick_false rfl rfl) ?_
     refine GL.pure rfl (p_move rfl) ?_
     refine GL.pass (s := 22) rfl rfl rfl ?_
     refine GL.pass (s := 22) rfl rfl rfl ?_
     refine GL.pass (s := 22) rfl rfl rfl ?_
     refine GL.pure rfl (p_pick_false rfl rfl) ?_
     refine GL.pure rfl (p_assign rfl) ?_
     refine GL.nil ?_
     exact fun a w h => ⟨(()), trivial, by rw [decide_eq_false (show ¬ (entNums e) by simp only [entNums, in62]; simp_all; try omega)]; exact h.cut (is := [0]) (js := [0, 1, 2]) ⟨rfl, rfl, rfl, trivial⟩ rfl rfl⟩
   ·try simp only [tst_, formE_iff, grpE_iff] at h2
    refine GL.pass (s := 12) rfl rfl rfl ?_
    refine GL.pass (s := 12) rfl rfl rfl ?_
    refine GL.pass (s := 12) rfl rfl rfl ?_
    refine GL.pure rfl (p_pick_false rfl rfl) ?_
    refine GL.pure rfl (p_move rfl) ?_
    refine GL.pass (s := 17) rfl rfl rfl ?_
    refine GL.pass (s := 17) rfl rfl rfl ?_
    refine GL.pass (s := 17) rfl rfl rfl ?_
    refine GL.pure rfl (p_pick_false rfl rfl) ?_
    refine GL.pure rfl (p_move rfl) ?_
    refine GL.pass (s := 22) rfl rfl rfl ?_
    refine GL.pass (s := 22) rfl rfl rfl ?_
    refine GL.pass (s := 22) rfl rfl rfl ?_
    refine GL.pure rfl (p_pick_false rfl rfl) ?_
    refine GL.pure rfl (p_assign rfl) ?_
    refine GL.nil ?_
    exact fun a w h => ⟨(()), trivial, by rw [decide_eq_false (show ¬ (entNums e) by simp only [entNums, in62]; simp_all; try omega)]; exact h.cut (is := [0]) (js := [0, 1, 2]) ⟨rfl, rfl, rfl, trivial⟩ rfl rfl⟩
  ·try simp only [tst_, formE_iff, grpE_iff] at h1
   refine GL.pass (s := 7) rfl rfl rfl ?_
   refine GL.pass (s := 7) rfl rfl rfl ?_
   refine GL.pass (s := 7) rfl rfl rfl ?_
   refine GL.pure rfl (p_pick_false rfl rfl) ?_
   refine GL.pure rfl (p_move rfl) ?_
   refine GL.pass (s := 12) rfl rfl rfl ?_
   refine GL.pass (s := 12) rfl rfl rfl ?_
   refine GL.pass (s := 12) rfl rfl rfl ?_
   refine GL.pure rfl (p_pick_false rfl rfl) ?_
   refine GL.pure rfl (p_move rfl) ?_
   refine GL.pass (s := 17) rfl rfl rfl ?_
   refine GL.pass (s := 17) rfl rfl rfl ?_
   refine GL.pass (s := 17) rfl rfl rfl ?_
   refine GL.pure rfl (p_pick_false rfl rfl) ?_
   refine GL.pure rfl (p_move rfl) ?_
   refine GL.pass (s := 22) rfl rfl rfl ?_
   refine GL.pass (s := 22) rfl rfl rfl ?_
   refine GL.pass (s := 22) rfl rfl rfl ?_
   refine GL.pure rfl (p_pick_false rfl rfl) ?_
   refine GL.pure rfl (p_assign rfl) ?_
   refine GL.nil ?_
   exact fun a w h => ⟨(()), trivial, by rw [decide_eq_false (show ¬ (entNums e) by simp only [entNums, in62]; simp_all; try omega)]; exact h.cut (is := [0]) (js := [0, 1, 2]) ⟨rfl, rfl, rfl, trivial⟩ rfl rfl⟩
 ·intro u_ hj1
  try dsimp only [List.cons_append, List.nil_append] at hj1 ⊢
  refine GC.joinK1 (ks := [2]) (is := [0]) (js := [0, 1, 2]) (fun (u_ : Unit) => True) (fun (u_ : Unit) => [(3, .bool (decide (entNums e ∧ entRest e)))]) (fun (u_ : Unit) => []) (fun (u_ : Unit) => []) rfl rfl rfl ?_ ?_
  ·refine GC.seq' ?_
   refine GC.region ?_
   refine GL.pure rfl (p_fieldAddr fo_64_0 rfl) ?_
   refine GL.step rfl (t_mem rfl (m_load (i := 0) rfl rfl ag_62 rfl)) ?_
   refine GL.nil (?_ : GC _ _ _ _)
   refine GC.block ?_
   refine GC.seq' ?_
   refine GC.region ?_
   refine GL.pure rfl (p_eql rfl rfl) ?_
   refine GL.pure rfl (p_assign rfl) ?_
   refine GL.nil (?_ : GC _ _ _ _)
   refine GC.cond rfl (fun h6 => ?_) (fun h6 => ?_)
   ·try simp only [tst_, formE_iff, grpE_iff] at h6
    refine GC.region ?_
    refine GL.pure rfl (p_move rfl) ?_
    refine GL.pure rfl (p_move rfl) ?_
    refine GL.split (i := 32) rfl (fun h7 => ?_) (fun h7 => ?_)
    ·try simp only [tst_, formE_iff, grpE_iff] at h7
     refine GL.pureG (s := 32) rfl rfl rfl (p_fieldAddr fo_64_5 rfl) ?_
     refine GL.stepG rfl (s := 32) rfl rfl (t_mem rfl (m_loadN (i := 0) rfl rfl ag_27 (vs := [_, _, _, _, _]) sz_27 ⟨rfl, rfl, rfl, rfl, rfl, trivial⟩)) ?_
     refine GL.stepG rfl (s := 32) rfl rfl (t_call rfl fn_60 rfl (is := []) (js := []) rfl rfl (by exact form_ct e.op.kind e.op.at_ e.op.n _ e.op.data.length _ _ e.op.old.length _)) (GL.ret ?_)
     rintro _ _ _ ⟨rfl, rfl, rfl⟩
     refine GL.pureG (s := 32) rfl rfl rfl (p_eql rfl rfl) ?_
     refine GL.pure rfl (p_pick_true rfl rfl) ?_
     refine GL.pure rfl (p_move rfl) ?_
     refine GL.split (i := 38) rfl (fun h8 => ?_) (fun h8 => ?_)
     ·try simp only [tst_, formE_iff, grpE_iff] at h8
      refine GL.pureG (s := 38) rfl rfl rfl (p_fieldAddr fo_64_6 rfl) ?_
      refine GL.pureG (s := 38) rfl rfl rfl (p_fieldAddr fo_33_0 rfl) ?_
      refine GL.stepG rfl (s := 38) rfl rfl (t_mem rfl (m_load (i := 0) rfl rfl ag_3 rfl)) ?_
      refine GL.pureG (s := 38) rfl rfl rfl (p_eql rfl rfl) ?_
      refine GL.pure rfl (p_pick_true rfl rfl) ?_
      refine GL.pure rfl (p_move rfl) ?_
      refine GL.split (i := 44) rfl (fun h9 => ?_) (fun h9 => ?_)
      ·try simp only [tst_, formE_iff, grpE_iff] at h9
       refine GL.pureG (s := 44) rfl rfl rfl (p_fieldAddr fo_64_6 rfl) ?_
       refine GL.pureG (s := 44) rfl rfl rfl (p_fieldAddr fo_33_1 rfl) ?_
       refine GL.stepG rfl (s := 44) rfl rfl (t_mem rfl (m_load (i := 0) rfl rfl ag_31 rfl)) ?_
       refine GL.pureG (s := 44) rfl rfl rfl (p_len Tryz.underlying31 rfl) ?_
       refine GL.pureG (s := 44) rfl rfl rfl (p_eql rfl rfl) ?_
       refine GL.pure rfl (p_pick_true rfl rfl) ?_
       refine GL.pure rfl (p_assign rfl) ?_
       refine GL.split (i := 3) rfl (fun h10 => ?_) (fun h10 => ?_)
       ·try simp only [tst_, formE_iff, grpE_iff] at h10
        refine GL.nil ?_
        exact fun a w h => ⟨(()), trivial, by rw [decide_eq_true (show entNums e ∧ entRest e by simp only [entRest, formD]; simp_all; try omega)]; exact h.cut (is := [0]) (js := [0, 1, 2]) ⟨rfl, rfl, trivial⟩ rfl rfl⟩
       ·try simp only [tst_, formE_iff, grpE_iff] at h10
        refine GL.nil ?_
        exact fun a w h => ⟨(()), trivial, by rw [decide_eq_false (show ¬ (entNums e ∧ entRest e) by simp only [entRest, formD]; simp_all; try omega)]; exact h.cut (is := [0]) (js := [0, 1, 2]) ⟨rfl, rfl, trivial⟩ rfl rfl⟩
      ·try simp only [tst_, formE_iff, grpE_iff] at h9
       refine GL.pass (s := 44) rfl rfl rfl ?_
       refine GL.pass (s := 44) rfl rfl rfl ?_
       refine GL.pass (s := 44) rfl rfl rfl ?_
       refine GL.pass (s := 44) rfl rfl rfl ?_
       refine GL.pass (s := 44) rfl rfl rfl ?_
       refine GL.pure rfl (p_pick_false rfl rfl) ?_
       refine GL.pure rfl (p_assign rfl) ?_
       refine GL.nil ?_
       exact fun a w h => ⟨(()), trivial, by rw [decide_eq_false (show ¬ (entNums e ∧ entRest e) by simp only [entRest, formD]; simp_all; try omega)]; exact h.cut (is := [0]) (js := [0, 1, 2]) ⟨rfl, rfl, trivial⟩ rfl rfl⟩
     ·try simp only [tst_, formE_iff, grpE_iff] at h8
      refine GL.pass (s := 38) rfl rfl rfl ?_
      refine GL.pass (s := 38) rfl rfl rfl ?_
      refine GL.pass (s := 38) rfl rfl rfl ?_
      refine GL.pass (s := 38) rfl rfl rfl ?_
      refine GL.pure rfl (p_pick_false rfl rfl) ?_
      refine GL.pure rfl (p_move rfl) ?_
      refine GL.pass (s := 44) rfl rfl rfl ?_
      refine GL.pass (s := 44) rfl rfl rfl ?_
      refine GL.pass (s := 44) rfl rfl rfl ?_
      refine GL.pass (s := 44) rfl rfl rfl ?_
      refine GL.pass (s := 44) rfl rfl rfl ?_
      refine GL.pure rfl (p_pick_false rfl rfl) ?_
      refine GL.pure rfl (p_assign rfl) ?_
      refine GL.nil ?_
      exact fun a w h => ⟨(()), trivial, by rw [decide_eq_false (show ¬ (entNums e ∧ entRest e) by simp only [entRest, formD]; simp_all; try omega)]; exact h.cut (is := [0]) (js := [0, 1, 2]) ⟨rfl, rfl, trivial⟩ rfl rfl⟩
    ·try simp only [tst_, formE_iff, grpE_iff] at h7
     refine GL.pass (s := 32) rfl rfl rfl ?_
     refine GL.pass (s := 32) rfl rfl rfl ?_
     refine GL.pass (s := 32) rfl rfl rfl ?_
     refine GL.pass (s := 32) rfl rfl rfl ?_
     refine GL.pure rfl (p_pick_false rfl rfl) ?_
     refine GL.pure rfl (p_move rfl) ?_
     refine GL.pass (s := 38) rfl rfl rfl ?_
     refine GL.pass (s := 38) rfl rfl rfl ?_
     refine GL.pass (s := 38) rfl rfl rfl ?_
     refine GL.pass (s := 38) rfl rfl rfl ?_
     refine GL.pure rfl (p_pick_false rfl rfl) ?_
     refine GL.pure rfl (p_move rfl) ?_
     refine GL.pass (s := 44) rfl rfl rfl ?_
     refine GL.pass (s := 44) rfl rfl rfl ?_
     refine GL.pass (s := 44) rfl rfl rfl ?_
     refine GL.pass (s := 44) rfl rfl rfl ?_
     refine GL.pass (s := 44) rfl rfl rfl ?_
     refine GL.pure rfl (p_pick_false rfl rfl) ?_
     refine GL.pure rfl (p_assign rfl) ?_
     refine GL.nil ?_
     exact fun a w h => ⟨(()), trivial, by rw [decide_eq_false (show ¬ (entNums e ∧ entRest e) by simp only [entRest, formD]; simp_all; try omega)]; exact h.cut (is := [0]) (js := [0, 1, 2]) ⟨rfl, rfl, trivial⟩ rfl rfl⟩
   ·try simp only [tst_, formE_iff, grpE_iff] at h6
    refine GC.seq' ?_
    refine GC.region ?_
    refine GL.pure rfl (p_eql rfl rfl) ?_
    refine GL.pure rfl (p_assign rfl) ?_
    refine GL.nil (?_ : GC _ _ _ _)
    refine GC.cond rfl (fun h11 => ?_) (fun h11 => ?_)
    ·try simp only [tst_, formE_iff, grpE_iff] at h11
     refine GC.region ?_
     refine GL.pure rfl (p_move rfl) ?_
     refine GL.pure rfl (p_move rfl) ?_
     refine GL.split (i := 54) rfl (fun h12 => ?_) (fun h12 => ?_)
     ·try simp only [tst_, formE_iff, grpE_iff] at h12
      refine GL.pureG (s := 54) rfl rfl rfl (p_fieldAddr fo_64_5 rfl) ?_
      refine GL.stepG rfl (s := 54) rfl rfl (t_mem rfl (m_loadN (i := 0) rfl rfl ag_27 (vs := [_, _, _, _, _]) sz_27 ⟨rfl, rfl, rfl, rfl, rfl, trivial⟩)) ?_
      refine GL.pureG (s := 54) rfl rfl rfl (p_build ze_27 of_27 rfl rfl) ?_
      refine GL.stepG rfl (s := 54) rfl rfl (t_call rfl fn_37 rfl (is := []) (js := [0, 1]) rfl rfl (by exact bzero_ct e.op _ _ _ _)) (GL.ret ?_)
      rintro _ _ _ ⟨rfl, rfl, rfl⟩
      refine GL.pure rfl (p_pick_true rfl rfl) ?_
      refine GL.pure rfl (p_move rfl) ?_
      refine GL.split (i := 60) rfl (fun h13 => ?_) (fun h13 => ?_)
      ·try simp only [tst_, formE_iff, grpE_iff] at h13
       refine GL.pureG (s := 60) rfl rfl rfl (p_fieldAddr fo_64_6 rfl) ?_
       refine GL.stepG rfl (s := 60) rfl rfl (t_mem rfl (m_loadN (i := 0) rfl rfl ag_33 (vs := [_, _]) sz_33 ⟨rfl, rfl, trivial⟩)) ?_
       refine GL.stepG rfl (s := 60) rfl rfl (t_call rfl fn_62 rfl (is := []) (js := [2]) rfl rfl (by exact mgroup_ct e.grp.epoch _ e.grp.members _ (by first | assumption | omega))) (GL.ret ?_)
       rintro _ _ _ ⟨rfl, rfl, rfl⟩
       refine GL.pureG (s := 60) rfl rfl rfl (p_eql rfl rfl) ?_
       refine GL.pure rfl (p_pick_true rfl rfl) ?_
       refine GL.pure rfl (p_move rfl) ?_
       refine GL.split (i := 66) rfl (fun h14 => ?_) (fun h14 => ?_)
       ·try simp only [tst_, formE_iff, grpE_iff] at h14
        refine GL.pureG (s := 66) rfl rfl rfl (p_fieldAddr fo_64_2 rfl) ?_
        refine GL.stepG rfl (s := 66) rfl rfl (t_mem rfl (m_load (i := 0) rfl rfl ag_3 rfl)) ?_
        refine GL.pureG (s := 66) rfl rfl rfl (p_lss rfl rfl) ?_
        refine GL.pure rfl (p_pick_true rfl rfl) ?_
        refine GL.pure rfl (p_assign rfl) ?_
        refine GL.split (i := 3) rfl (fun h15 => ?_) (fun h15 => ?_)
        ·try simp only [tst_, formE_iff, grpE_iff] at h15
         refine GL.nil ?_
         exact fun a w h => ⟨(()), trivial, by rw [decide_eq_true (show entNums e ∧ entRest e by simp only [entRest, formD]; simp_all; try omega)]; exact h.cut (is := [0]) (js := [0, 1, 2]) ⟨rfl, rfl, trivial⟩ rfl rfl⟩
        ·try simp only [tst_, formE_iff, grpE_iff] at h15
         refine GL.nil ?_
         exact fun a w h => ⟨(()), trivial, by rw [decide_eq_false (show ¬ (entNums e ∧ entRest e) by simp only [entRest, formD]; simp_all; try omega)]; exact h.cut (is := [0]) (js := [0, 1, 2]) ⟨rfl, rfl, trivial⟩ rfl rfl⟩
       ·try simp only [tst_, formE_iff, grpE_iff] at h14
        refine GL.pass (s := 66) rfl rfl rfl ?_
        refine GL.pass (s := 66) rfl rfl rfl ?_
        refine GL.pass (s := 66) rfl rfl rfl ?_
        refine GL.pure rfl (p_pick_false rfl rfl) ?_
        refine GL.pure rfl (p_assign rfl) ?_
        refine GL.nil ?_
        exact fun a w h => ⟨(()), trivial, by rw [decide_eq_false (show ¬ (entNums e ∧ entRest e) by simp only [entRest, formD]; simp_all; try omega)]; exact h.cut (is := [0]) (js := [0, 1, 2]) ⟨rfl, rfl, trivial⟩ rfl rfl⟩
      ·try simp only [tst_, formE_iff, grpE_iff] at h13
       refine GL.pass (s := 60) rfl rfl rfl ?_
       refine GL.pass (s := 60) rfl rfl rfl ?_
       refine GL.pass (s := 60) rfl rfl rfl ?_
       refine GL.pass (s := 60) rfl rfl rfl ?_
       refine GL.pure rfl (p_pick_false rfl rfl) ?_
       refine GL.pure rfl (p_move rfl) ?_
       refine GL.pass (s := 66) rfl rfl rfl ?_
       refine GL.pass (s := 66) rfl rfl rfl ?_
       refine GL.pass (s := 66) rfl rfl rfl ?_
       refine GL.pure rfl (p_pick_false rfl rfl) ?_
       refine GL.pure rfl (p_assign rfl) ?_
       refine GL.nil ?_
       exact fun a w h => ⟨(()), trivial, by rw [decide_eq_false (show ¬ (entNums e ∧ entRest e) by simp only [entRest, formD]; simp_all; try omega)]; exact h.cut (is := [0]) (js := [0, 1, 2]) ⟨rfl, rfl, trivial⟩ rfl rfl⟩
     ·try simp only [tst_, formE_iff, grpE_iff] at h12
      refine GL.pass (s := 54) rfl rfl rfl ?_
      refine GL.pass (s := 54) rfl rfl rfl ?_
      refine GL.pass (s := 54) rfl rfl rfl ?_
      refine GL.pass (s := 54) rfl rfl rfl ?_
      refine GL.pure rfl (p_pick_false rfl rfl) ?_
      refine GL.pure rfl (p_move rfl) ?_
      refine GL.pass (s := 60) rfl rfl rfl ?_
      refine GL.pass (s := 60) rfl rfl rfl ?_
      refine GL.pass (s := 60) rfl rfl rfl ?_
      refine GL.pass (s := 60) rfl rfl rfl ?_
      refine GL.pure rfl (p_pick_false rfl rfl) ?_
      refine GL.pure rfl (p_move rfl) ?_
      refine GL.pass (s := 66) rfl rfl rfl ?_
      refine GL.pass (s := 66) rfl rfl rfl ?_
      refine GL.pass (s := 66) rfl rfl rfl ?_
      refine GL.pure rfl (p_pick_false rfl rfl) ?_
      refine GL.pure rfl (p_assign rfl) ?_
      refine GL.nil ?_
      exact fun a w h => ⟨(()), trivial, by rw [decide_eq_false (show ¬ (entNums e ∧ entRest e) by simp only [entRest, formD]; simp_all; try omega)]; exact h.cut (is := [0]) (js := [0, 1, 2]) ⟨rfl, rfl, trivial⟩ rfl rfl⟩
    ·try simp only [tst_, formE_iff, grpE_iff] at h11
     refine GC.region ?_
     refine GL.pure rfl (p_assign rfl) ?_
     refine GL.nil ?_
     exact fun a w h => ⟨(()), trivial, by rw [decide_eq_false (show ¬ (entNums e ∧ entRest e) by simp only [entRest, formD]; simp_all; try omega)]; exact h.cut (is := [0]) (js := [0, 1, 2]) ⟨rfl, rfl, trivial⟩ rfl rfl⟩
  ·intro u_ hj2
   try dsimp only [List.cons_append, List.nil_append] at hj2 ⊢
   refine GC.seq' ?_
   refine GC.seq' ?_
   refine GC.region ?_
   refine GL.pure rfl (p_move rfl) ?_
   refine GL.pure rfl (p_not rfl) ?_
   refine GL.nil (?_ : GC _ _ _ _)
   refine GC.cond rfl (fun h16 => ?_) (fun h16 => ?_)
   ·try simp only [tst_, formE_iff, grpE_iff] at h16
    refine GC.seq' ?_
    refine GC.region ?_
    refine GL.pure rfl (p_assign rfl) ?_
    refine GL.nil (?_ : GC _ _ _ _)
    refine GC.ret ?_
    refine fun a w h => Fin.back (rs := [.tmp 2]) (vs := [_]) (is := []) (js := []) rfl ⟨rfl, trivial⟩ rfl rfl ?_ h
    clear h
    first | exact ⟨by rw [entE_yes (by assumption)]; rfl, rfl, rfl⟩ | exact ⟨by rw [entE_no (by assumption)]; rfl, rfl, rfl⟩
   ·try simp only [tst_, formE_iff, grpE_iff] at h16
    refine GC.skip (?_ : GC _ _ _ _)
    refine GC.seq' ?_
    refine GC.region ?_
    refine GL.pure rfl (p_assign rfl) ?_
    refine GL.nil (?_ : GC _ _ _ _)
    refine GC.ret ?_
    refine fun a w h => Fin.back (rs := [.tmp 2]) (vs := [_]) (is := []) (js := []) rfl ⟨rfl, trivial⟩ rfl rfl ?_ h
    clear h
    first | exact ⟨by rw [entE_yes (by assumption)]; rfl, rfl, rfl⟩ | exact ⟨by rw [entE_no (by assumption)]; rfl, rfl, rfl⟩
end Go.Proofs.YtdhdmbmknpjhbaaGreat
namespace Go.Proofs.YtdhdmbmknpjhbaaGreat
open Go Go.Sx Go.Proofs
theorem isNum_in {n : Int} (h : isNum n = true) : 1 ≤ n ∧ n ≤ 4611686018427387904 := by simp [isNum] at h; exact h
theorem lrow_ct (A : Option Addr) (l : List Entry) (cp : Nat) (hl : l.length ≤ 140737488355328) (hm : ∀ e ∈ l, EntLen e) : Ct Tryz.prog 110 [.slice A l.length cp] [] [Pers.row kEntry A l] (fun u G Q => u = .bool (decide (rowOkE l)) ∧ G = [] ∧ Q = []) := by
 refine Ct.intro Tryz.func110 rfl rfl rfl (fun c hc => ?_)
 refine GC.seq' ?_
 refine GC.region ?_
 refine GL.pure rfl (p_assign rfl) ?_
 refine GL.nil (?_ : GC _ _ _ _)
 refine GC.seq' ?_
 refine GC.seq' ?_
 refine GC.region ?_
 refine GL.pure rfl (p_move rfl) ?_
 refine GL.pure rfl (p_len Tryz.underlying40 rfl) ?_
 refine GL.pure rfl (p_move rfl) ?_
 refine GL.nil (?_ : GC _ _ _ _)
 refine GC.block ?_
 refine GC.loopK1 (ks := [0, 5, 6]) (is := []) (js := [0]) (fun (k : Nat) => k ≤ l.length ∧ ∀ j : Nat, j < k → entOk (gt l (j : Int)) ∧ (0 < j → (gt l (j : Int)).num - 1 = (gt l ((j : Int) - 1)).num)) (fun (k : Nat) => [(7, .int .i64 (k : Int))]) (fun (k : Nat) => []) (fun (k : Nat) => []) (fun (k : Nat) => l.length - k) (0) rfl rfl rfl (fun a w h => ⟨⟨by omega, fun j hj => by omega⟩, h.cutK (is := []) (js := [0]) (ks := [0, 5, 6]) ⟨rfl, trivial⟩ rfl rfl rfl⟩) ?_
 intro k hk
 try dsimp only [List.cons_append, List.nil_append] at hk ⊢
 obtain ⟨hk, hall⟩ := hk
 refine GC.seq' ?_
 refine GC.region ?_
 refine GL.pure rfl (p_lss rfl rfl) ?_
 refine GL.nil (?_ : GC _ _ _ _)
 refine GC.seq' ?_
 refine GC.cond rfl (fun h1 => ?_) (fun h1 => ?_)
 ·try simp only [tst_, entE_iff] at h1
  first
  | (exfalso; omega)
  |(skip
    refine GC.skip (?_ : GC _ _ _ _)
    refine GC.seq' ?_
    refine GC.block ?_
    refine GC.seq' ?_
    refine GC.region ?_
    refine GL.pure rfl (p_move rfl) ?_
    refine GL.step rfl (t_index (i := 0) rfl rfl rfl rfl Tryz.underlying40 sz_64 (by first | omega | (have := isNum_in (show entOk (gt l ((k + 1 : Nat) : Int)) from by assumption).1; dsimp only; omega)) (gt_ok (by first | omega | (have := isNum_in (show entOk (gt l ((k + 1 : Nat) : Int)) from by assumption).1; dsimp only; omega)) (by first | omega | (have := isNum_in (show entOk (gt l ((k + 1 : Nat) : Int)) from by assumption).1; dsimp only; omega)))) (GL.ex fun p_x10 => GL.ex fun r_x10 => GL.and fun ok_x10 => ?_)
    rcases r_x10 with ⟨_, ⟨_, ⟨_, ⟨_, ⟨_, ⟨⟨_, ⟨_, ⟨_, ⟨⟨Ax10_0, cpx10_0⟩, ⟨Ax10_1, cpx10_1⟩⟩⟩⟩⟩, ⟨_, ⟨Ax10_2, cpx10_2⟩⟩⟩⟩⟩⟩⟩⟩
    refine GL.step rfl (t_mem rfl (m_loadPN (i := 0) rfl rfl ag_64 (vs := [_, _, _, _, _, _, _, _, _, _, _, _]) sz_64 ⟨rfl, rfl, rfl, rfl, rfl, rfl, rfl, rfl, rfl, rfl, rfl, rfl, trivial⟩)) ?_
    refine GL.step rfl (t_alloc rfl ze_64) (GL.ex fun b_t4 => ?_)
    refine GL.pure rfl (p_assign rfl) ?_
    refine GL.step rfl (t_storeN (i := 0) rfl rfl rfl sz_64 rfl rfl rfl) ?_
    refine GL.nil (?_ : GC _ _ _ _)
    refine GC.seq' ?_
    have hme := (hm _ (gt_elem (l := l) (k := k) (by omega))).m
    have hml : (gt l (k : Int)).grp.members.length ≤ 140737488355328 := by omega
    rcases k with _ | k
    ·skip
     refine GC.regionQ wide_ (by kernel_rfl) ?_
     refine GQ.step rfl (q_mem (m_loadN (i := 0) rfl rfl ag_64 (vs := [_, _, _, _, _, _, _, _, _, _, _, _]) sz_64 ⟨rfl, rfl, rfl, rfl, rfl, rfl, rfl, rfl, rfl, rfl, rfl, rfl, trivial⟩)) ?_
     refine GQ.step rfl (q_call fn_112 rfl (js := [1, 2, 3]) rfl (by exact ment_ct (gt l (_ : Int)) _ _ _ _ _ _ (by first | assumption | omega))) ?_
     refine GQ.step rfl (q_pure (p_neq rfl rfl)) ?_
     refine GQ.step rfl (q_pure (p_move rfl)) ?_
     refine GQ.split (i := 15) rfl (fun h2 => ?_) (fun h2 => ?_)
     ·try simp only [tst_, entE_iff] at h2
      first
      | (exfalso; omega)
      |(skip
        refine GQ.pass (s := 15) rfl rfl rfl ?_
        refine GQ.pass (s := 15) rfl rfl rfl ?_
        refine GQ.pass (s := 15) rfl rfl rfl ?_
        refine GQ.passU (s := 18) rfl rfl rfl ?_
        refine GQ.passU (s := 18) rfl rfl rfl ?_
        refine GQ.passU (s := 18) rfl rfl rfl ?_
        refine GQ.passU (s := 18) rfl rfl rfl ?_
        refine GQ.passU (s := 18) rfl rfl rfl ?_
        refine GQ.passU (s := 18) rfl rfl rfl ?_
        refine GQ.passU (s := 18) rfl rfl rfl ?_
        refine GQ.passU (s := 18) rfl rfl rfl ?_
        refine GQ.passU (s := 18) rfl rfl rfl ?_
        refine GQ.passU (s := 18) rfl rfl rfl ?_
        refine GQ.pass (s := 15) rfl rfl rfl ?_
        refine GQ.step rfl (q_pure (p_pick_true rfl rfl)) ?_
        refine GQ.nil (?_ : GC _ _ _ _)
        refine GC.cond_true rfl ?_
        refine GC.seq' ?_
        refine GC.region ?_
        refine GL.pure rfl (p_assign rfl) ?_
        refine GL.nil (?_ : GC _ _ _ _)
        refine GC.ret ?_
        refine fun a w h => Fin.back (rs := [.tmp 2]) (vs := [_]) (is := []) (js := []) rfl ⟨rfl, trivial⟩ rfl rfl ?_ h
        clear h
        exact ⟨congrArg Value.bool (decide_eq_false fun H => by first | exact absurd (H 0 (by omega)).1 (by assumption) | exact absurd (H (k + 1) (by omega)).1 (by assumption) | exact absurd ((H (k + 1) (by omega)).2 (by omega)) (by assumption)).symm, rfl, rfl⟩)
     ·try simp only [tst_, entE_iff] at h2
      first
      | (exfalso; omega)
      |(skip
        refine GQ.stepG (s := 15) rfl rfl rfl (q_pure (p_move rfl)) ?_
        refine GQ.stepG (s := 15) rfl rfl rfl (q_pure (p_gtr rfl rfl)) ?_
        refine GQ.stepG (s := 15) rfl rfl rfl (q_pure (p_move rfl)) ?_
        refine GQ.split (i := 18) rfl (fun h3 => ?_) (fun h3 => ?_)
        ·try simp only [tst_, entE_iff] at h3
         first
         | (exfalso; omega)
         |(skip
           refine GQ.stepG (s := 18) rfl rfl rfl (q_pure (p_fieldAddr fo_64_1 rfl)) ?_
           refine GQ.stepG (s := 18) rfl rfl rfl (q_mem (m_load (i := 0) rfl rfl ag_3 rfl)) ?_
           refine GQ.stepG (s := 18) rfl rfl rfl (q_pure (p_sub rfl rfl (w64 (by first | omega | (have := isNum_in (show entOk (gt l ((k + 1 : Nat) : Int)) from by assumption).1; dsimp only; omega)) (by first | omega | (have := isNum_in (show entOk (gt l ((k + 1 : Nat) : Int)) from by assumption).1; dsimp only; omega))))) ?_
           refine GQ.stepG (s := 18) rfl rfl rfl (q_pure (p_move rfl)) ?_
           refine GQ.stepG (s := 18) rfl rfl rfl (q_pure (p_move rfl)) ?_
           refine GQ.stepG (s := 18) rfl rfl rfl (q_pure (p_sub rfl rfl (w64 (by first | omega | (have := isNum_in (show entOk (gt l ((k + 1 : Nat) : Int)) from by assumption).1; dsimp only; omega)) (by first | omega | (have := isNum_in (show entOk (gt l ((k + 1 : Nat) : Int)) from by assumption).1; dsimp only; omega))))) ?_
           exact (by omega : False).elim)
        ·try simp only [tst_, entE_iff] at h3
         first
         | (exfalso; omega)
         |(skip
           refine GQ.pass (s := 18) rfl rfl rfl ?_
           refine GQ.pass (s := 18) rfl rfl rfl ?_
           refine GQ.pass (s := 18) rfl rfl rfl ?_
           refine GQ.pass (s := 18) rfl rfl rfl ?_
           refine GQ.pass (s := 18) rfl rfl rfl ?_
           refine GQ.pass (s := 18) rfl rfl rfl ?_
           refine GQ.pass (s := 18) rfl rfl rfl ?_
           refine GQ.pass (s := 18) rfl rfl rfl ?_
           refine GQ.pass (s := 18) rfl rfl rfl ?_
           refine GQ.pass (s := 18) rfl rfl rfl ?_
           refine GQ.stepG (s := 15) rfl rfl rfl (q_pure (p_pick_false rfl rfl)) ?_
           refine GQ.step rfl (q_pure (p_pick_false rfl rfl)) ?_
           refine GQ.nil (?_ : GC _ _ _ _)
           refine GC.cond_false rfl ?_
           refine GC.skip (?_ : GC _ _ _ _)
           refine GC.region ?_
           refine GL.pure rfl (p_add rfl rfl (w64 (by first | omega | (have := isNum_in (show entOk (gt l ((k + 1 : Nat) : Int)) from by assumption).1; dsimp only; omega)) (by first | omega | (have := isNum_in (show entOk (gt l ((k + 1 : Nat) : Int)) from by assumption).1; dsimp only; omega)))) ?_
           refine GL.pure rfl (p_move rfl) ?_
           refine GL.nil ?_
           exact fun a w h => ⟨(_ + 1), (by omega), ⟨by omega, fun j hj => (Nat.lt_succ_iff_lt_or_eq.1 hj).elim (hall j) (fun e => by subst e; exact ⟨by assumption, fun _ => by first | omega | assumption⟩)⟩, h.cut (is := []) (js := [4]) ⟨rfl, rfl, rfl, rfl, trivial⟩ rfl rfl⟩))
    ·skip
     refine GC.lay (x := .const (.slice A l.length cp)) (y := .const (.int .i64 (((k + 1 : Nat) : Int) - 1))) (j := 4) rfl rfl rfl (by first | omega | (have := isNum_in (show entOk (gt l ((k + 1 : Nat) : Int)) from by assumption).1; dsimp only; omega)) (gt_ok (by first | omega | (have := isNum_in (show entOk (gt l ((k + 1 : Nat) : Int)) from by assumption).1; dsimp only; omega)) (by first | omega | (have := isNum_in (show entOk (gt l ((k + 1 : Nat) : Int)) from by assumption).1; dsimp only; omega))) (fun p_xp r_xp hA_xp ok_xp => ?_)
     rcases r_xp with ⟨_, ⟨_, ⟨_, ⟨_, ⟨_, ⟨⟨_, ⟨_, ⟨_, ⟨⟨Axp_0, cpxp_0⟩, ⟨Axp_1, cpxp_1⟩⟩⟩⟩⟩, ⟨_, ⟨Axp_2, cpxp_2⟩⟩⟩⟩⟩⟩⟩⟩
     refine GC.regionQ wide_ (by kernel_rfl) ?_
     refine GQ.step rfl (q_mem (m_loadN (i := 0) rfl rfl ag_64 (vs := [_, _, _, _, _, _, _, _, _, _, _, _]) sz_64 ⟨rfl, rfl, rfl, rfl, rfl, rfl, rfl, rfl, rfl, rfl, rfl, rfl, trivial⟩)) ?_
     refine GQ.step rfl (q_call fn_112 rfl (js := [5, 6, 7]) rfl (by exact ment_ct (gt l (_ : Int)) _ _ _ _ _ _ (by first | assumption | omega))) ?_
     refine GQ.step rfl (q_pure (p_neq rfl rfl)) ?_
     refine GQ.step rfl (q_pure (p_move rfl)) ?_
     refine GQ.split (i := 15) rfl (fun h4 => ?_) (fun h4 => ?_)
     ·try simp only [tst_, entE_iff] at h4
      first
      | (exfalso; omega)
      |(skip
        refine GQ.pass (s := 15) rfl rfl rfl ?_
        refine GQ.pass (s := 15) rfl rfl rfl ?_
        refine GQ.pass (s := 15) rfl rfl rfl ?_
        refine GQ.passU (s := 18) rfl rfl rfl ?_
        refine GQ.passU (s := 18) rfl rfl rfl ?_
        refine GQ.passU (s := 18) rfl rfl rfl ?_
        refine GQ.passU (s := 18) rfl rfl rfl ?_
        refine GQ.passU (s := 18) rfl rfl rfl ?_
        refine GQ.passU (s := 18) rfl rfl rfl ?_
        refine GQ.passU (s := 18) rfl rfl rfl ?_
        refine GQ.passU (s := 18) rfl rfl rfl ?_
        refine GQ.passU (s := 18) rfl rfl rfl ?_
        refine GQ.passU (s := 18) rfl rfl rfl ?_
        refine GQ.pass (s := 15) rfl rfl rfl ?_
        refine GQ.step rfl (q_pure (p_pick_true rfl rfl)) ?_
        refine GQ.nil (?_ : GC _ _ _ _)
        refine GC.cond_true rfl ?_
        refine GC.seq' ?_
        refine GC.region ?_
        refine GL.pure rfl (p_assign rfl) ?_
        refine GL.nil (?_ : GC _ _ _ _)
        refine GC.ret ?_
        refine fun a w h => Fin.back (rs := [.tmp 2]) (vs := [_]) (is := []) (js := []) rfl ⟨rfl, trivial⟩ rfl rfl ?_ h
        clear h
        exact ⟨congrArg Value.bool (decide_eq_false fun H => by first | exact absurd (H 0 (by omega)).1 (by assumption) | exact absurd (H (k + 1) (by omega)).1 (by assumption) | exact absurd ((H (k + 1) (by omega)).2 (by omega)) (by assumption)).symm, rfl, rfl⟩)
     ·try simp only [tst_, entE_iff] at h4
      first
      | (exfalso; omega)
      |(skip
        refine GQ.stepG (s := 15) rfl rfl rfl (q_pure (p_move rfl)) ?_
        refine GQ.stepG (s := 15) rfl rfl rfl (q_pure (p_gtr rfl rfl)) ?_
        refine GQ.stepG (s := 15) rfl rfl rfl (q_pure (p_move rfl)) ?_
        refine GQ.split (i := 18) rfl (fun h5 => ?_) (fun h5 => ?_)
        ·try simp only [tst_, entE_iff] at h5
         first
         | (exfalso; omega)
         |(skip
           refine GQ.stepG (s := 18) rfl rfl rfl (q_pure (p_fieldAddr fo_64_1 rfl)) ?_
           refine GQ.stepG (s := 18) rfl rfl rfl (q_mem (m_load (i := 0) rfl rfl ag_3 rfl)) ?_
           refine GQ.stepG (s := 18) rfl rfl rfl (q_pure (p_sub rfl rfl (w64 (by first | omega | (have := isNum_in (show entOk (gt l ((k + 1 : Nat) : Int)) from by assumption).1; dsimp only; omega)) (by first | omega | (have := isNum_in (show entOk (gt l ((k + 1 : Nat) : Int)) from by assumption).1; dsimp only; omega))))) ?_
           refine GQ.stepG (s := 18) rfl rfl rfl (q_pure (p_move rfl)) ?_
           refine GQ.stepG (s := 18) rfl rfl rfl (q_pure (p_move rfl)) ?_
           refine GQ.stepG (s := 18) rfl rfl rfl (q_pure (p_sub rfl rfl (w64 (by first | omega | (have := isNum_in (show entOk (gt l ((k + 1 : Nat) : Int)) from by assumption).1; dsimp only; omega)) (by first | omega | (have := isNum_in (show entOk (gt l ((k + 1 : Nat) : Int)) from by assumption).1; dsimp only; omega))))) ?_
           refine GQ.stepG (s := 18) rfl rfl rfl (q_pure (p_indexL hA_xp rfl rfl Tryz.underlying40 sz_64 (by first | omega | (have := isNum_in (show entOk (gt l ((k + 1 : Nat) : Int)) from by assumption).1; dsimp only; omega)) (by first | omega | (have := isNum_in (show entOk (gt l ((k + 1 : Nat) : Int)) from by assumption).1; dsimp only; omega)))) ?_
           refine GQ.stepG (s := 18) rfl rfl rfl (q_pure (p_fieldAddr' fo_64_1 rfl)) ?_
           refine GQ.stepG (s := 18) rfl rfl rfl (q_mem (m_loadP (i := 0) rfl rfl ag_3 rfl)) ?_
           refine GQ.stepG (s := 18) rfl rfl rfl (q_pure (p_neq rfl rfl)) ?_
           refine GQ.stepG (s := 15) rfl rfl rfl (q_pure (p_pick_true rfl rfl)) ?_
           refine GQ.step rfl (q_pure (p_pick_false rfl rfl)) ?_
           refine GQ.nil (?_ : GC _ _ _ _)
           refine GC.cond rfl (fun h6 => ?_) (fun h6 => ?_)
           ·try simp only [tst_, entE_iff] at h6
            first
            | (exfalso; omega)
            |(skip
              refine GC.seq' ?_
              refine GC.region ?_
              refine GL.pure rfl (p_assign rfl) ?_
              refine GL.nil (?_ : GC _ _ _ _)
              refine GC.ret ?_
              refine fun a w h => Fin.back (rs := [.tmp 2]) (vs := [_]) (is := []) (js := []) rfl ⟨rfl, trivial⟩ rfl rfl ?_ h
              clear h
              exact ⟨congrArg Value.bool (decide_eq_false fun H => by first | exact absurd (H 0 (by omega)).1 (by assumption) | exact absurd (H (k + 1) (by omega)).1 (by assumption) | exact absurd ((H (k + 1) (by omega)).2 (by omega)) (by assumption)).symm, rfl, rfl⟩)
           ·try simp only [tst_, entE_iff] at h6
            first
            | (exfalso; omega)
            |(skip
              refine GC.skip (?_ : GC _ _ _ _)
              refine GC.region ?_
              refine GL.pure rfl (p_add rfl rfl (w64 (by first | omega | (have := isNum_in (show entOk (gt l ((k + 1 : Nat) : Int)) from by assumption).1; dsimp only; omega)) (by first | omega | (have := isNum_in (show entOk (gt l ((k + 1 : Nat) : Int)) from by assumption).1; dsimp only; omega)))) ?_
              refine GL.pure rfl (p_move rfl) ?_
              refine GL.nil ?_
              exact fun a w h => ⟨(_ + 1), (by omega), ⟨by omega, fun j hj => (Nat.lt_succ_iff_lt_or_eq.1 hj).elim (hall j) (fun e => by subst e; exact ⟨by assumption, fun _ => by first | omega | assumption⟩)⟩, h.cut (is := []) (js := [8]) ⟨rfl, rfl, rfl, rfl, trivial⟩ rfl rfl⟩))
        ·try simp only [tst_, entE_iff] at h5
         first
         | (exfalso; omega)
         |(skip
           refine GQ.pass (s := 18) rfl rfl rfl ?_
           refine GQ.pass (s := 18) rfl rfl rfl ?_
           refine GQ.pass (s := 18) rfl rfl rfl ?_
           refine GQ.pass (s := 18) rfl rfl rfl ?_
           refine GQ.pass (s := 18) rfl rfl rfl ?_
           refine GQ.pass (s := 18) rfl rfl rfl ?_
           refine GQ.pass (s := 18) rfl rfl rfl ?_
           refine GQ.pass (s := 18) rfl rfl rfl ?_
           refine GQ.pass (s := 18) rfl rfl rfl ?_
           refine GQ.pass (s := 18) rfl rfl rfl ?_
           refine GQ.stepG (s := 15) rfl rfl rfl (q_pure (p_pick_false rfl rfl)) ?_
           refine GQ.step rfl (q_pure (p_pick_false rfl rfl)) ?_
           refine GQ.nil (?_ : GC _ _ _ _)
           refine GC.cond_false rfl ?_
           refine GC.skip (?_ : GC _ _ _ _)
           refine GC.region ?_
           refine GL.pure rfl (p_add rfl rfl (w64 (by first | omega | (have := isNum_in (show entOk (gt l ((k + 1 : Nat) : Int)) from by assumption).1; dsimp only; omega)) (by first | omega | (have := isNum_in (show entOk (gt l ((k + 1 : Nat) : Int)) from by assumption).1; dsimp only; omega)))) ?_
           refine GL.pure rfl (p_move rfl) ?_
           refine GL.nil ?_
           exact fun a w h => ⟨(_ + 1), (by omega), ⟨by omega, fun j hj => (Nat.lt_succ_iff_lt_or_eq.1 hj).elim (hall j) (fun e => by subst e; exact ⟨by assumption, fun _ => by first | omega | assumption⟩)⟩, h.cut (is := []) (js := [8]) ⟨rfl, rfl, rfl, rfl, trivial⟩ rfl rfl⟩)))
 ·try simp only [tst_, entE_iff] at h1
  first
  | (exfalso; omega)
  |(skip
    refine GC.exit (?_ : GC _ _ _ _)
    refine GC.seq' ?_
    refine GC.region ?_
    refine GL.pure rfl (p_assign rfl) ?_
    refine GL.nil (?_ : GC _ _ _ _)
    refine GC.ret ?_
    refine fun a w h => Fin.back (rs := [.tmp 2]) (vs := [_]) (is := []) (js := []) rfl ⟨rfl, trivial⟩ rfl rfl ?_ h
    clear h
    exact ⟨congrArg Value.bool (decide_eq_true fun j hj => hall j (by omega)).symm, rfl, rfl⟩)
theorem wrow_ct (A : Option Addr) (l : List Entry) (cp : Nat) (hl : l.length ≤ 140737488355328) (hm : ∀ e ∈ l, EntLen e) : Ct Tryz.prog 64 [.slice A l.length cp] [] [Pers.row kEntry A l] (fun u G Q => u = .bool (decide (rowOkE l)) ∧ G = [] ∧ Q = []) := by
 refine Ct.intro Tryz.func64 rfl rfl rfl (fun c hc => ?_)
 refine GC.seq' ?_
 refine GC.region ?_
 refine GL.pure rfl (p_assign rfl) ?_
 refine GL.nil (?_ : GC _ _ _ _)
 refine GC.seq' ?_
 refine GC.seq' ?_
 refine GC.region ?_
 refine GL.pure rfl (p_move rfl) ?_
 refine GL.pure rfl (p_len Tryz.underlying40 rfl) ?_
 refine GL.pure rfl (p_move rfl) ?_
 refine GL.nil (?_ : GC _ _ _ _)
 refine GC.block ?_
 refine GC.loopK1 (ks := [0, 5, 6]) (is := []) (js := [0]) (fun (k : Nat) => k ≤ l.length ∧ ∀ j : Nat, j < k → entOk (gt l (j : Int)) ∧ (0 < j → (gt l (j : Int)).num - 1 = (gt l ((j : Int) - 1)).num)) (fun (k : Nat) => [(7, .int .i64 (k : Int))]) (fun (k : Nat) => []) (fun (k : Nat) => []) (fun (k : Nat) => l.length - k) (0) rfl rfl rfl (fun a w h => ⟨⟨by omega, fun j hj => by omega⟩, h.cutK (is := []) (js := [0]) (ks := [0, 5, 6]) ⟨rfl, trivial⟩ rfl rfl rfl⟩) ?_
 intro k hk
 try dsimp only [List.cons_append, List.nil_append] at hk ⊢
 obtain ⟨hk, hall⟩ := hk
 refine GC.seq' ?_
 refine GC.region ?_
 refine GL.pure rfl (p_lss rfl rfl) ?_
 refine GL.nil (?_ : GC _ _ _ _)
 refine GC.seq' ?_
 refine GC.cond rfl (fun h1 => ?_) (fun h1 => ?_)
 ·try simp only [tst_, entE_iff] at h1
  first
  | (exfalso; omega)
  |(skip
    refine GC.skip (?_ : GC _ _ _ _)
    refine GC.seq' ?_
    refine GC.block ?_
    refine GC.seq' ?_
    refine GC.region ?_
    refine GL.pure rfl (p_move rfl) ?_
    refine GL.step rfl (t_index (i := 0) rfl rfl rfl rfl Tryz.underlying40 sz_64 (by first | omega | (have := isNum_in (show entOk (gt l ((k + 1 : Nat) : Int)) from by assumption).1; dsimp only; omega)) (gt_ok (by first | omega | (have := isNum_in (show entOk (gt l ((k + 1 : Nat) : Int)) from by assumption).1; dsimp only; omega)) (by first | omega | (have := isNum_in (show entOk (gt l ((k + 1 : Nat) : Int)) from by assumption).1; dsimp only; omega)))) (GL.ex fun p_x10 => GL.ex fun r_x10 => GL.and fun ok_x10 => ?_)
    rcases r_x10 with ⟨_, ⟨_, ⟨_, ⟨_, ⟨_, ⟨⟨_, ⟨_, ⟨_, ⟨⟨Ax10_0, cpx10_0⟩, ⟨Ax10_1, cpx10_1⟩⟩⟩⟩⟩, ⟨_, ⟨Ax10_2, cpx10_2⟩⟩⟩⟩⟩⟩⟩⟩
    refine GL.step rfl (t_mem rfl (m_loadPN (i := 0) rfl rfl ag_64 (vs := [_, _, _, _, _, _, _, _, _, _, _, _]) sz_64 ⟨rfl, rfl, rfl, rfl, rfl, rfl, rfl, rfl, rfl, rfl, rfl, rfl, trivial⟩)) ?_
    refine GL.step rfl (t_alloc rfl ze_64) (GL.ex fun b_t4 => ?_)
    refine GL.pure rfl (p_assign rfl) ?_
    refine GL.step rfl (t_storeN (i := 0) rfl rfl rfl sz_64 rfl rfl rfl) ?_
    refine GL.nil (?_ : GC _ _ _ _)
    refine GC.seq' ?_
    have hme := (hm _ (gt_elem (l := l) (k := k) (by omega))).m
    have hml : (gt l (k : Int)).grp.members.length ≤ 140737488355328 := by omega
    rcases k with _ | k
    ·skip
     refine GC.regionQ wide_ (by kernel_rfl) ?_
     refine GQ.step rfl (q_mem (m_loadN (i := 0) rfl rfl ag_64 (vs := [_, _, _, _, _, _, _, _, _, _, _, _]) sz_64 ⟨rfl, rfl, rfl, rfl, rfl, rfl, rfl, rfl, rfl, rfl, rfl, rfl, trivial⟩)) ?_
     refine GQ.step rfl (q_call fn_112 rfl (js := [1, 2, 3]) rfl (by exact ment_ct (gt l (_ : Int)) _ _ _ _ _ _ (by first | assumption | omega))) ?_
     refine GQ.step rfl (q_pure (p_neq rfl rfl)) ?_
     refine GQ.step rfl (q_pure (p_move rfl)) ?_
     refine GQ.split (i := 15) rfl (fun h2 => ?_) (fun h2 => ?_)
     ·try simp only [tst_, entE_iff] at h2
      first
      | (exfalso; omega)
      |(skip
        refine GQ.pass (s := 15) rfl rfl rfl ?_
        refine GQ.pass (s := 15) rfl rfl rfl ?_
        refine GQ.pass (s := 15) rfl rfl rfl ?_
        refine GQ.passU (s := 18) rfl rfl rfl ?_
        refine GQ.passU (s := 18) rfl rfl rfl ?_
        refine GQ.passU (s := 18) rfl rfl rfl ?_
        refine GQ.passU (s := 18) rfl rfl rfl ?_
        refine GQ.passU (s := 18) rfl rfl rfl ?_
        refine GQ.passU (s := 18) rfl rfl rfl ?_
        refine GQ.passU (s := 18) rfl rfl rfl ?_
        refine GQ.passU (s := 18) rfl rfl rfl ?_
        refine GQ.passU (s := 18) rfl rfl rfl ?_
        refine GQ.passU (s := 18) rfl rfl rfl ?_
        refine GQ.pass (s := 15) rfl rfl rfl ?_
        refine GQ.step rfl (q_pure (p_pick_true rfl rfl)) ?_
        refine GQ.nil (?_ : GC _ _ _ _)
        refine GC.cond_true rfl ?_
        refine GC.seq' ?_
        refine GC.region ?_
        refine GL.pure rfl (p_assign rfl) ?_
        refine GL.nil (?_ : GC _ _ _ _)
        refine GC.ret ?_
        refine fun a w h => Fin.back (rs := [.tmp 2]) (vs := [_]) (is := []) (js := []) rfl ⟨rfl, trivial⟩ rfl rfl ?_ h
        clear h
        exact ⟨congrArg Value.bool (decide_eq_false fun H => by first | exact absurd (H 0 (by omega)).1 (by assumption) | exact absurd (H (k + 1) (by omega)).1 (by assumption) | exact absurd ((H (k + 1) (by omega)).2 (by omega)) (by assumption)).symm, rfl, rfl⟩)
     ·try simp only [tst_, entE_iff] at h2
      first
      | (exfalso; omega)
      |(skip
        refine GQ.stepG (s := 15) rfl rfl rfl (q_pure (p_move rfl)) ?_
        refine GQ.stepG (s := 15) rfl rfl rfl (q_pure (p_gtr rfl rfl)) ?_
        refine GQ.stepG (s := 15) rfl rfl rfl (q_pure (p_move rfl)) ?_
        refine GQ.split (i := 18) rfl (fun h3 => ?_) (fun h3 => ?_)
        ·try simp only [tst_, entE_iff] at h3
         first
         | (exfalso; omega)
         |(skip
           refine GQ.stepG (s := 18) rfl rfl rfl (q_pure (p_fieldAddr fo_64_1 rfl)) ?_
           refine GQ.stepG (s := 18) rfl rfl rfl (q_mem (m_load (i := 0) rfl rfl ag_3 rfl)) ?_
           refine GQ.stepG (s := 18) rfl rfl rfl (q_pure (p_sub rfl rfl (w64 (by first | omega | (have := isNum_in (show entOk (gt l ((k + 1 : Nat) : Int)) from by assumption).1; dsimp only; omega)) (by first | omega | (have := isNum_in (show entOk (gt l ((k + 1 : Nat) : Int)) from by assumption).1; dsimp only; omega))))) ?_
           refine GQ.stepG (s := 18) rfl rfl rfl (q_pure (p_move rfl)) ?_
           refine GQ.stepG (s := 18) rfl rfl rfl (q_pure (p_move rfl)) ?_
           refine GQ.stepG (s := 18) rfl rfl rfl (q_pure (p_sub rfl rfl (w64 (by first | omega | (have := isNum_in (show entOk (gt l ((k + 1 : Nat) : Int)) from by assumption).1; dsimp only; omega)) (by first | omega | (have := isNum_in (show entOk (gt l ((k + 1 : Nat) : Int)) from by assumption).1; dsimp only; omega))))) ?_
           exact (by omega : False).elim)
        ·try simp only [tst_, entE_iff] at h3
         first
         | (exfalso; omega)
         |(skip
           refine GQ.pass (s := 18) rfl rfl rfl ?_
           refine GQ.pass (s := 18) rfl rfl rfl ?_
           refine GQ.pass (s := 18) rfl rfl rfl ?_
           refine GQ.pass (s := 18) rfl rfl rfl ?_
           refine GQ.pass (s := 18) rfl rfl rfl ?_
           refine GQ.pass (s := 18) rfl rfl rfl ?_
           refine GQ.pass (s := 18) rfl rfl rfl ?_
           refine GQ.pass (s := 18) rfl rfl rfl ?_
           refine GQ.pass (s := 18) rfl rfl rfl ?_
           refine GQ.pass (s := 18) rfl rfl rfl ?_
           refine GQ.stepG (s := 15) rfl rfl rfl (q_pure (p_pick_false rfl rfl)) ?_
           refine GQ.step rfl (q_pure (p_pick_false rfl rfl)) ?_
           refine GQ.nil (?_ : GC _ _ _ _)
           refine GC.cond_false rfl ?_
           refine GC.skip (?_ : GC _ _ _ _)
           refine GC.region ?_
           refine GL.pure rfl (p_add rfl rfl (w64 (by first | omega | (have := isNum_in (show entOk (gt l ((k + 1 : Nat) : Int)) from by assumption).1; dsimp only; omega)) (by first | omega | (have := isNum_in (show entOk (gt l ((k + 1 : Nat) : Int)) from by assumption).1; dsimp only; omega)))) ?_
           refine GL.pure rfl (p_move rfl) ?_
           refine GL.nil ?_
           exact fun a w h => ⟨(_ + 1), (by omega), ⟨by omega, fun j hj => (Nat.lt_succ_iff_lt_or_eq.1 hj).elim (hall j) (fun e => by subst e; exact ⟨by assumption, fun _ => by first | omega | assumption⟩)⟩, h.cut (is := []) (js := [4]) ⟨rfl, rfl, rfl, rfl, trivial⟩ rfl rfl⟩))
    ·skip
     refine GC.lay (x := .const (.slice A l.length cp)) (y := .const (.int .i64 (((k + 1 : Nat) : Int) - 1))) (j := 4) rfl rfl rfl (by first | omega | (have := isNum_in (show entOk (gt l ((k + 1 : Nat) : Int)) from by assumption).1; dsimp only; omega)) (gt_ok (by first | omega | (have := isNum_in (show entOk (gt l ((k + 1 : Nat) : Int)) from by assumption).1; dsimp only; omega)) (by first | omega | (have := isNum_in (show entOk (gt l ((k + 1 : Nat) : Int)) from by assumption).1; dsimp only; omega))) (fun p_xp r_xp hA_xp ok_xp => ?_)
     rcases r_xp with ⟨_, ⟨_, ⟨_, ⟨_, ⟨_, ⟨⟨_, ⟨_, ⟨_, ⟨⟨Axp_0, cpxp_0⟩, ⟨Axp_1, cpxp_1⟩⟩⟩⟩⟩, ⟨_, ⟨Axp_2, cpxp_2⟩⟩⟩⟩⟩⟩⟩⟩
     refine GC.regionQ wide_ (by kernel_rfl) ?_
     refine GQ.step rfl (q_mem (m_loadN (i := 0) rfl rfl ag_64 (vs := [_, _, _, _, _, _, _, _, _, _, _, _]) sz_64 ⟨rfl, rfl, rfl, rfl, rfl, rfl, rfl, rfl, rfl, rfl, rfl, rfl, trivial⟩)) ?_
     refine GQ.step rfl (q_call fn_112 rfl (js := [5, 6, 7]) rfl (by exact ment_ct (gt l (_ : Int)) _ _ _ _ _ _ (by first | assumption | omega))) ?_
     refine GQ.step rfl (q_pure (p_neq rfl rfl)) ?_
     refine GQ.step rfl (q_pure (p_move rfl)) ?_
     refine GQ.split (i := 15) rfl (fun h4 => ?_) (fun h4 => ?_)
     ·try simp only [tst_, entE_iff] at h4
      first
      | (exfalso; omega)
      |(skip
        refine GQ.pass (s := 15) rfl rfl rfl ?_
        refine GQ.pass (s := 15) rfl rfl rfl ?_
        refine GQ.pass (s := 15) rfl rfl rfl ?_
        refine GQ.passU (s := 18) rfl rfl rfl ?_
        refine GQ.passU (s := 18) rfl rfl rfl ?_
        refine GQ.passU (s := 18) rfl rfl rfl ?_
        refine GQ.passU (s := 18) rfl rfl rfl ?_
        refine GQ.passU (s := 18) rfl rfl rfl ?_
        refine GQ.passU (s := 18) rfl rfl rfl ?_
        refine GQ.passU (s := 18) rfl rfl rfl ?_
        refine GQ.passU (s := 18) rfl rfl rfl ?_
        refine GQ.passU (s := 18) rfl rfl rfl ?_
        refine GQ.passU (s := 18) rfl rfl rfl ?_
        refine GQ.pass (s := 15) rfl rfl rfl ?_
        refine GQ.step rfl (q_pure (p_pick_true rfl rfl)) ?_
        refine GQ.nil (?_ : GC _ _ _ _)
        refine GC.cond_true rfl ?_
        refine GC.seq' ?_
        refine GC.region ?_
        refine GL.pure rfl (p_assign rfl) ?_
        refine GL.nil (?_ : GC _ _ _ _)
        refine GC.ret ?_
        refine fun a w h => Fin.back (rs := [.tmp 2]) (vs := [_]) (is := []) (js := []) rfl ⟨rfl, trivial⟩ rfl rfl ?_ h
        clear h
        exact ⟨congrArg Value.bool (decide_eq_false fun H => by first | exact absurd (H 0 (by omega)).1 (by assumption) | exact absurd (H (k + 1) (by omega)).1 (by assumption) | exact absurd ((H (k + 1) (by omega)).2 (by omega)) (by assumption)).symm, rfl, rfl⟩)
     ·try simp only [tst_, entE_iff] at h4
      first
      | (exfalso; omega)
      |(skip
        refine GQ.stepG (s := 15) rfl rfl rfl (q_pure (p_move rfl)) ?_
        refine GQ.stepG (s := 15) rfl rfl rfl (q_pure (p_gtr rfl rfl)) ?_
        refine GQ.stepG (s := 15) rfl rfl rfl (q_pure (p_move rfl)) ?_
        refine GQ.split (i := 18) rfl (fun h5 => ?_) (fun h5 => ?_)
        ·try simp only [tst_, entE_iff] at h5
         first
         | (exfalso; omega)
         |(skip
           refine GQ.stepG (s := 18) rfl rfl rfl (q_pure (p_fieldAddr fo_64_1 rfl)) ?_
           refine GQ.stepG (s := 18) rfl rfl rfl (q_mem (m_load (i := 0) rfl rfl ag_3 rfl)) ?_
           refine GQ.stepG (s := 18) rfl rfl rfl (q_pure (p_sub rfl rfl (w64 (by first | omega | (have := isNum_in (show entOk (gt l ((k + 1 : Nat) : Int)) from by assumption).1; dsimp only; omega)) (by first | omega | (have := isNum_in (show entOk (gt l ((k + 1 : Nat) : Int)) from by assumption).1; dsimp only; omega))))) ?_
           refine GQ.stepG (s := 18) rfl rfl rfl (q_pure (p_move rfl)) ?_
           refine GQ.stepG (s := 18) rfl rfl rfl (q_pure (p_move rfl)) ?_
           refine GQ.stepG (s := 18) rfl rfl rfl (q_pure (p_sub rfl rfl (w64 (by first | omega | (have := isNum_in (show entOk (gt l ((k + 1 : Nat) : Int)) from by assumption).1; dsimp only; omega)) (by first | omega | (have := isNum_in (show entOk (gt l ((k + 1 : Nat) : Int)) from by assumption).1; dsimp only; omega))))) ?_
           refine GQ.stepG (s := 18) rfl rfl rfl (q_pure (p_indexL hA_xp rfl rfl Tryz.underlying40 sz_64 (by first | omega | (have := isNum_in (show entOk (gt l ((k + 1 : Nat) : Int)) from by assumption).1; dsimp only; omega)) (by first | omega | (have := isNum_in (show entOk (gt l ((k + 1 : Nat) : Int)) from by assumption).1; dsimp only; omega)))) ?_
           refine GQ.stepG (s := 18) rfl rfl rfl (q_pure (p_fieldAddr' fo_64_1 rfl)) ?_
           refine GQ.stepG (s := 18) rfl rfl rfl (q_mem (m_loadP (i := 0) rfl rfl ag_3 rfl)) ?_
           refine GQ.stepG (s := 18) rfl rfl rfl (q_pure (p_neq rfl rfl)) ?_
           refine GQ.stepG (s := 15) rfl rfl rfl (q_pure (p_pick_true rfl rfl)) ?_
           refine GQ.step rfl (q_pure (p_pick_false rfl rfl)) ?_
           refine GQ.nil (?_ : GC _ _ _ _)
           refine GC.cond rfl (fun h6 => ?_) (fun h6 => ?_)
           ·try simp only [tst_, entE_iff] at h6
            first
            | (exfalso; omega)
            |(skip
              refine GC.seq' ?_
              refine GC.region ?_
              refine GL.pure rfl (p_assign rfl) ?_
              refine GL.nil (?_ : GC _ _ _ _)
              refine GC.ret ?_
              refine fun a w h => Fin.back (rs := [.tmp 2]) (vs := [_]) (is := []) (js := []) rfl ⟨rfl, trivial⟩ rfl rfl ?_ h
              clear h
              exact ⟨congrArg Value.bool (decide_eq_false fun H => by first | exact absurd (H 0 (by omega)).1 (by assumption) | exact absurd (H (k + 1) (by omega)).1 (by assumption) | exact absurd ((H (k + 1) (by omega)).2 (by omega)) (by assumption)).symm, rfl, rfl⟩)
           ·try simp only [tst_, entE_iff] at h6
            first
            | (exfalso; omega)
            |(skip
              refine GC.skip (?_ : GC _ _ _ _)
              refine GC.region ?_
              refine GL.pure rfl (p_add rfl rfl (w64 (by first | omega | (have := isNum_in (show entOk (gt l ((k + 1 : Nat) : Int)) from by assumption).1; dsimp only; omega)) (by first | omega | (have := isNum_in (show entOk (gt l ((k + 1 : Nat) : Int)) from by assumption).1; dsimp only; omega)))) ?_
              refine GL.pure rfl (p_move rfl) ?_
              refine GL.nil ?_
              exact fun a w h => ⟨(_ + 1), (by omega), ⟨by omega, fun j hj => (Nat.lt_succ_iff_lt_or_eq.1 hj).elim (hall j) (fun e => by subst e; exact ⟨by assumption, fun _ => by first | omega | assumption⟩)⟩, h.cut (is := []) (js := [8]) ⟨rfl, rfl, rfl, rfl, trivial⟩ rfl rfl⟩))
        ·try simp only [tst_, entE_iff] at h5
         first
         | (exfalso; omega)
         |(skip
           refine GQ.pass (s := 18) rfl rfl rfl ?_
           refine GQ.pass (s := 18) rfl rfl rfl ?_
           refine GQ.pass (s := 18) rfl rfl rfl ?_
           refine GQ.pass (s := 18) rfl rfl rfl ?_
           refine GQ.pass (s := 18) rfl rfl rfl ?_
           refine GQ.pass (s := 18) rfl rfl rfl ?_
           refine GQ.pass (s := 18) rfl rfl rfl ?_
           refine GQ.pass (s := 18) rfl rfl rfl ?_
           refine GQ.pass (s := 18) rfl rfl rfl ?_
           refine GQ.pass (s := 18) rfl rfl rfl ?_
           refine GQ.stepG (s := 15) rfl rfl rfl (q_pure (p_pick_false rfl rfl)) ?_
           refine GQ.step rfl (q_pure (p_pick_false rfl rfl)) ?_
           refine GQ.nil (?_ : GC _ _ _ _)
           refine GC.cond_false rfl ?_
           refine GC.skip (?_ : GC _ _ _ _)
           refine GC.region ?_
           refine GL.pure rfl (p_add rfl rfl (w64 (by first | omega | (have := isNum_in (show entOk (gt l ((k + 1 : Nat) : Int)) from by assumption).1; dsimp only; omega)) (by first | omega | (have := isNum_in (show entOk (gt l ((k + 1 : Nat) : Int)) from by assumption).1; dsimp only; omega)))) ?_
           refine GL.pure rfl (p_move rfl) ?_
           refine GL.nil ?_
           exact fun a w h => ⟨(_ + 1), (by omega), ⟨by omega, fun j hj => (Nat.lt_succ_iff_lt_or_eq.1 hj).elim (hall j) (fun e => by subst e; exact ⟨by assumption, fun _ => by first | omega | assumption⟩)⟩, h.cut (is := []) (js := [8]) ⟨rfl, rfl, rfl, rfl, trivial⟩ rfl rfl⟩)))
 ·try simp only [tst_, entE_iff] at h1
  first
  | (exfalso; omega)
  |(skip
    refine GC.exit (?_ : GC _ _ _ _)
    refine GC.seq' ?_
    refine GC.region ?_
    refine GL.pure rfl (p_assign rfl) ?_
    refine GL.nil (?_ : GC _ _ _ _)
    refine GC.ret ?_
    refine fun a w h => Fin.back (rs := [.tmp 2]) (vs := [_]) (is := []) (js := []) rfl ⟨rfl, trivial⟩ rfl rfl ?_ h
    clear h
    exact ⟨congrArg Value.bool (decide_eq_true fun j hj => hall j (by omega)).symm, rfl, rfl⟩)
theorem joins_nil (n : Int) (cp : Nat) (A : Option Addr) : Ct Tryz.prog 111 [.int .i64 n, .slice A 0 cp] [] [] (fun u G Q => u = .bool true ∧ G = [] ∧ Q = []) := by
 refine Ct.intro Tryz.func111 rfl rfl rfl (fun c hc => ?_)
 refine GC.seq' ?_
 refine GC.region ?_
 refine GL.pure rfl (p_assign rfl) ?_
 refine GL.nil (?_ : GC _ _ _ _)
 refine GC.seq' ?_
 refine GC.region ?_
 refine GL.pure rfl (p_move rfl) ?_
 refine GL.pure rfl (p_len Tryz.underlying40 rfl) ?_
 refine GL.pure rfl (p_eql rfl rfl) ?_
 refine GL.pure rfl (p_move rfl) ?_
 refine GL.split (i := 8) rfl (fun h1 => ?_) (fun h1 => ?_)
 ·try simp only [tst_] at h1
  refine GL.pass (s := 8) rfl rfl rfl ?_
  refine GL.pass (s := 8) rfl rfl rfl ?_
  refine GL.pass (s := 8) rfl rfl rfl ?_
  refine GL.pass (s := 8) rfl rfl rfl ?_
  refine GL.pass (s := 8) rfl rfl rfl ?_
  refine GL.pass (s := 8) rfl rfl rfl ?_
  refine GL.pass (s := 8) rfl rfl rfl ?_
  refine GL.pure rfl (p_pick_true rfl rfl) ?_
  refine GL.pure rfl (p_assign rfl) ?_
  refine GL.nil (?_ : GC _ _ _ _)
  refine GC.ret ?_
  refine fun a w h => Fin.back (rs := [.tmp 4]) (vs := [_]) (is := []) (js := []) rfl ⟨rfl, trivial⟩ rfl rfl ?_ h
  clear h
  exact ⟨rfl, rfl, rfl⟩
 ·try simp only [tst_] at h1
  exfalso; omega
theorem vload_ct (bl sz : Int) (A : Option Addr) (l : List Page) (cp : Nat) (hl : l.length ≤ 140737488355328) : Ct Tryz.prog 145 [shpV bl sz, .slice A l.length cp] [] [Pers.row kPage A l] (fun v G Q => (∃ x e, v = .tuple #[.pointer x, .int .i64 e] ∧ (e = 0 ↔ (shapeOk bl sz ∧ laidF bl sz (-1) l = true))) ∧ G = [] ∧ Q = []) := by
  by_cases h : shapeOk bl sz
  · cases hb : laidF bl sz (-1) l
    · exact Ct.drop (load_no bl sz A l cp h hl hb) fun v G Q h => ⟨_, _, h.1, by simp⟩
    · exact Ct.drop (load_ok bl sz A l cp h hl hb) fun v G Q ⟨p, pb, pv, h1, _⟩ => ⟨_, _, h1, by simp [h]⟩
  · exact Ct.drop (load_bad bl sz A l cp h) fun v G Q h1 => ⟨_, _, h1.1, by simp [h]⟩
theorem tload_ct (A : Option Addr) (l : List Row) (cp : Nat) (hl : l.length ≤ 140737488355328) : Ct Tryz.prog 146 [.slice A l.length cp] [] [Pers.row kRow A l] (fun v G Q => (∃ x e, v = .tuple #[.pointer x, .int .i64 e] ∧ (e = 0 ↔ rightF l = true)) ∧ G = [] ∧ Q = []) := by
  cases hb : rightF l
  · exact Ct.drop (tload_bad A l cp hl hb) fun v G Q h => ⟨_, _, h.1, by simp⟩
  · exact Ct.drop (tload_ok A l cp hl hb) fun v G Q h => by
      obtain ⟨_, _, _, _, h1, _⟩ := h
      exact ⟨_, _, h1, by simp⟩
theorem mown_ct (e : Int) (A : Option Addr) (l : List Int) (cp : Nat) (hl : l.length ≤ 17592186044416) : Ct Tryz.prog 149 [grpV e A l.length cp] [] [Pers.row kI A l] (fun u G Q => ∃ A' cp', u = grpV e A' l.length cp' ∧ G = [] ∧ Q = []) := by
 refine Ct.intro Tryz.func149 rfl rfl rfl (fun c hc => ?_)
 refine GC.seq' ?_
 refine GC.region ?_
 refine GL.step rfl (t_box rfl rfl rfl) (GL.ex fun b_t1 => ?_)
 refine GL.step rfl (t_alloc rfl ze_33) (GL.ex fun b_t2 => ?_)
 refine GL.nil (?_ : GC _ _ _ _)
 refine GC.seq' ?_
 refine GC.region ?_
 refine GL.pure rfl (p_fieldAddr fo_33_1 rfl) ?_
 refine GL.step rfl (t_mem rfl (m_load (i := 1) rfl rfl ag_31 rfl)) ?_
 refine GL.step rfl (t_call rfl fn_167 rfl (is := []) (js := [0]) rfl rfl (by exact clone_i _ _ _ (by first | assumption | omega))) (GL.ret ?_)
 rintro _ _ _ ⟨A5, cp5, l5, k5, rfl, rfl, rfl⟩
 refine GL.pure rfl (p_fieldAddr fo_33_1 rfl) ?_
 refine GL.step rfl (t_store (i := 2) rfl rfl rfl rfl sz_31 rfl rfl rfl) ?_
 refine GL.nil (?_ : GC _ _ _ _)
 refine GC.seq' ?_
 refine GC.region ?_
 refine GL.step rfl (t_mem rfl (m_loadN (i := 2) rfl rfl ag_33 (vs := [_, _]) sz_33 ⟨rfl, rfl, trivial⟩)) ?_
 refine GL.step rfl (t_storeN (i := 1) rfl rfl rfl sz_33 rfl rfl rfl) ?_
 refine GL.nil (?_ : GC _ _ _ _)
 refine GC.ret ?_
 refine fun a w h => Fin.back (rs := [.cell 2 33]) (vs := [_]) (is := []) (js := []) rfl ⟨⟨1, _, _, _, _, rfl, rfl, .inr ⟨[_, _], rfl, ag_33, sz_33, ⟨rfl, rfl, trivial⟩⟩⟩, trivial⟩ rfl rfl ?_ h
 clear h
 exact ⟨_, _, rfl, rfl, rfl⟩
abbrev sttL (s : Stt) (A : Option Addr) (cp : Nat) (B : Option Addr) (cq : Nat) (C : Option Addr) (cr : Nat) : List Value := [.int .i64 s.num, .int .i64 s.shp.bl, .int .i64 s.shp.sz, .slice A s.pages.length cp, .slice B s.rows.length cq, .int .i64 s.grp.epoch, .slice C s.grp.members.length cr]
theorem heldc_ct (b : Nat) (s : Stt) (A : Option Addr) (cp : Nat) (B : Option Addr) (cq : Nat) (C : Option Addr) (cr : Nat) (pg : Page) (D : Option Addr) (cd : Nat) : Ct Tryz.prog 148 [pageV pg D cd, .pointer (some ⟨b, 0, none⟩)] [.cells b (sttL s A cp B cq C cr) 39] []
    (fun u G Q => u = .bool (decide (s.num < pg.ver)) ∧ G = [.cells b (sttL s A cp B cq C cr) 39] ∧ Q = []) := by
 refine Ct.intro Tryz.func148 rfl rfl rfl (fun c hc => ?_)
 refine GC.seq' ?_
 refine GC.region ?_
 refine GL.step rfl (t_box rfl rfl rfl) (GL.ex fun b_t2 => ?_)
 refine GL.pure rfl (p_assign rfl) ?_
 refine GL.nil (?_ : GC _ _ _ _)
 refine GC.seq' ?_
 refine GC.region ?_
 refine GL.pure rfl (p_fieldAddr fo_59_1 rfl) ?_
 refine GL.step rfl (t_mem rfl (m_load (i := 0) rfl rfl ag_3 rfl)) ?_
 refine GL.pure rfl (p_fieldAddr fo_39_0 rfl) ?_
 refine GL.step rfl (t_mem rfl (m_load (i := 1) rfl rfl ag_3 rfl)) ?_
 refine GL.pure rfl (p_gtr rfl rfl) ?_
 refine GL.pure rfl (p_assign rfl) ?_
 refine GL.nil (?_ : GC _ _ _ _)
 refine GC.ret ?_
 refine fun a w h => Fin.back (rs := [.tmp 3]) (vs := [_]) (is := [1]) (js := []) rfl ⟨rfl, trivial⟩ rfl rfl ?_ h
 clear h
 exact ⟨rfl, rfl, rfl⟩
theorem hidx_ct (b : Nat) (s : Stt) (A : Option Addr) (cp : Nat) (B : Option Addr) (cq : Nat) (C : Option Addr) (cr : Nat) (D : Option Addr) (l : List Page) (cd : Nat) (hl : l.length ≤ 140737488355328) : Ct Tryz.prog 166 [.slice D l.length cd, .func (.func 148) #[] #[.pointer (some ⟨b, 0, none⟩)]] [.cells b (sttL s A cp B cq C cr) 39] [Pers.row kPage D l]
    (fun u G Q => ∃ i : Int, (0 ≤ i ↔ ¬ ∀ p ∈ l, p.ver ≤ s.num) ∧ u = .int .i64 i ∧ G = [.cells b (sttL s A cp B cq C cr) 39] ∧ Q = []) := by
 refine Ct.intro Tryz.func166 rfl rfl rfl (fun c hc => ?_)
 refine GC.seq' ?_
 refine GC.region ?_
 refine GL.pure rfl (p_assign rfl) ?_
 refine GL.nil (?_ : GC _ _ _ _)
 refine GC.seq' ?_
 refine GC.seq' ?_
 refine GC.region ?_
 refine GL.pure rfl (p_move rfl) ?_
 refine GL.pure rfl (p_len Tryz.underlying36 rfl) ?_
 refine GL.pure rfl (p_move rfl) ?_
 refine GL.nil (?_ : GC _ _ _ _)
 refine GC.block ?_
 refine GC.loopK1 (ks := [0, 1, 7]) (is := [0]) (js := [0]) (fun (k : Nat) => k ≤ l.length ∧ ∀ j : Nat, j < k → (gt l (j : Int)).ver ≤ s.num) (fun (k : Nat) => [(8, .int .i64 (k : Int))]) (fun (k : Nat) => []) (fun (k : Nat) => []) (fun (k : Nat) => l.length - k) (0) rfl rfl rfl (fun a w h => ⟨⟨by omega, fun j hj => by omega⟩, h.cutK (is := [0]) (js := [0]) (ks := [0, 1, 7]) ⟨rfl, trivial⟩ rfl rfl rfl⟩) ?_
 intro k hk
 try dsimp only [List.cons_append, List.nil_append] at hk ⊢
 obtain ⟨hk, hall⟩ := hk
 refine GC.seq' ?_
 refine GC.region ?_
 refine GL.pure rfl (p_lss rfl rfl) ?_
 refine GL.nil (?_ : GC _ _ _ _)
 refine GC.seq' ?_
 refine GC.cond rfl (fun h1 => ?_) (fun h1 => ?_)
 ·try simp only [tst_] at h1
  refine GC.skip (?_ : GC _ _ _ _)
  refine GC.seq' ?_
  refine GC.block ?_
  refine GC.seq' ?_
  refine GC.region ?_
  refine GL.pure rfl (p_move rfl) ?_
  refine GL.pure rfl (p_assign rfl) ?_
  refine GL.nil (?_ : GC _ _ _ _)
  refine GC.seq' ?_
  refine GC.region ?_
  refine GL.pure rfl (p_move rfl) ?_
  refine GL.pure rfl (p_move rfl) ?_
  refine GL.pure rfl (p_move rfl) ?_
  refine GL.step rfl (t_index (i := 0) rfl rfl rfl rfl Tryz.underlying36 sz_59 (by omega) (gt_ok (by omega) (by omega))) (GL.ex fun p_x14 => GL.ex fun r_x14 => GL.and fun ok_x14 => ?_)
  rcases r_x14 with ⟨_, ⟨_, ⟨Ax14_0, cpx14_0⟩⟩⟩
  refine GL.step rfl (t_mem rfl (m_loadPN (i := 0) rfl rfl ag_59 (vs := [_, _, _]) sz_59 ⟨rfl, rfl, rfl, trivial⟩)) ?_
  refine GL.step rfl (t_callv rfl fn_148 rfl rfl (is := [0]) (js := []) rfl rfl (by exact heldc_ct _ s _ _ _ _ _ _ (gt l (k : Int)) _ _)) (GL.ret ?_)
  rintro _ _ _ ⟨rfl, rfl, rfl⟩
  refine GL.nil (?_ : GC _ _ _ _)
  refine GC.cond rfl (fun h2 => ?_) (fun h2 => ?_)
  ·try simp only [tst_] at h2
   refine GC.seq' ?_
   refine GC.region ?_
   refine GL.pure rfl (p_move rfl) ?_
   refine GL.pure rfl (p_assign rfl) ?_
   refine GL.nil (?_ : GC _ _ _ _)
   refine GC.ret ?_
   refine fun a w h => Fin.back (rs := [.tmp 4]) (vs := [_]) (is := [0]) (js := []) rfl ⟨rfl, trivial⟩ rfl rfl ?_ h
   clear h
   exact ⟨_, ⟨fun _ H => by have := H _ (gt_elem (l := l) (k := k) (by omega)); omega, fun _ => by omega⟩, rfl, rfl, rfl⟩
  ·try simp only [tst_] at h2
   refine GC.skip (?_ : GC _ _ _ _)
   refine GC.region ?_
   refine GL.pure rfl (p_add rfl rfl (w64 (by omega) (by omega))) ?_
   refine GL.pure rfl (p_move rfl) ?_
   refine GL.nil ?_
   exact fun a w h => ⟨(k + 1), (by omega), ⟨by omega, fun j hj => (Nat.lt_succ_iff_lt_or_eq.1 hj).elim (hall j) (fun e => by subst e; omega)⟩, h.cut (is := [0]) (js := [2]) ⟨rfl, rfl, rfl, rfl, trivial⟩ rfl rfl⟩
 ·try simp only [tst_] at h1
  refine GC.exit (?_ : GC _ _ _ _)
  refine GC.seq' ?_
  refine GC.region ?_
  refine GL.pure rfl (p_assign rfl) ?_
  refine GL.nil (?_ : GC _ _ _ _)
  refine GC.ret ?_
  refine fun a w h => Fin.back (rs := [.tmp 4]) (vs := [_]) (is := [0]) (js := []) rfl ⟨rfl, trivial⟩ rfl rfl ?_ h
  clear h
  exact ⟨_, ⟨fun g => by omega, fun g => absurd (fun p hp => by obtain ⟨j, hj, rfl⟩ := mem_gt hp; exact hall j (by omega)) g⟩, rfl, rfl, rfl⟩
theorem hcon_ct (b : Nat) (s : Stt) (A : Option Addr) (cp : Nat) (B : Option Addr) (cq : Nat) (C : Option Addr) (cr : Nat) (D : Option Addr) (l : List Page) (cd : Nat) (hl : l.length ≤ 140737488355328) : Ct Tryz.prog 147 [.slice D l.length cd, .func (.func 148) #[] #[.pointer (some ⟨b, 0, none⟩)]] [.cells b (sttL s A cp B cq C cr) 39] [Pers.row kPage D l]
    (fun u G Q => u = .bool (decide (¬ ∀ p ∈ l, p.ver ≤ s.num)) ∧ G = [.cells b (sttL s A cp B cq C cr) 39] ∧ Q = []) := by
 refine Ct.intro Tryz.func147 rfl rfl rfl (fun c hc => ?_)
 refine GC.seq' ?_
 refine GC.region ?_
 refine GL.pure rfl (p_assign rfl) ?_
 refine GL.nil (?_ : GC _ _ _ _)
 refine GC.seq' ?_
 refine GC.region ?_
 refine GL.pure rfl (p_move rfl) ?_
 refine GL.pure rfl (p_move rfl) ?_
 refine GL.step rfl (t_call rfl fn_166 rfl (is := [0]) (js := [0]) rfl rfl (by exact hidx_ct _ s _ _ _ _ _ _ _ _ _ hl)) (GL.ret ?_)
 rintro _ _ _ ⟨i7, hi7, rfl, rfl, rfl⟩
 refine GL.pure rfl (p_geq rfl rfl) ?_
 refine GL.pure rfl (p_assign rfl) ?_
 refine GL.nil (?_ : GC _ _ _ _)
 refine GC.ret ?_
 refine fun a w h => Fin.back (rs := [.tmp 4]) (vs := [_]) (is := [0]) (js := []) rfl ⟨rfl, trivial⟩ rfl rfl ?_ h
 clear h
 exact ⟨congrArg Value.bool (decide_eq_decide.2 hi7), rfl, rfl⟩
theorem held_ct (s : Stt) (A : Option Addr) (cp : Nat) (B : Option Addr) (cq : Nat) (C : Option Addr) (cr : Nat) (hs : SttLen s) : Ct Tryz.prog 121 [sttV s A cp B cq C cr] [] (sttQ s A B C) (fun u G Q => ∃ x, u = .tuple #[.pointer x, .bool (decide (heldOk s))] ∧ G = [] ∧ Q = []) := by
 obtain ⟨hp_, hr_, hm_, _, _⟩ := hs
 refine Ct.intro Tryz.func121 rfl rfl rfl (fun c hc => ?_)
 refine GC.seq' ?_
 refine GC.region ?_
 refine GL.step rfl (t_box rfl rfl rfl) (GL.ex fun b_t1 => ?_)
 refine GL.pure rfl (p_assign rfl) ?_
 refine GL.pure rfl (p_assign rfl) ?_
 refine GL.nil (?_ : GC _ _ _ _)
 refine GC.seq' ?_
 refine GC.seq' ?_
 refine GC.region ?_
 refine GL.pure rfl (p_fieldAddr fo_39_0 rfl) ?_
 refine GL.step rfl (t_mem rfl (m_load (i := 0) rfl rfl ag_3 rfl)) ?_
 refine GL.pure rfl (p_lss rfl rfl) ?_
 refine GL.pure rfl (p_move rfl) ?_
 refine GL.split (i := 11) rfl (fun h1 => ?_) (fun h1 => ?_)
 ·try simp only [tst_, grpE_iff] at h1
  refine GL.pass (s := 11) rfl rfl rfl ?_
  refine GL.pass (s := 11) rfl rfl rfl ?_
  refine GL.pass (s := 11) rfl rfl rfl ?_
  refine GL.pure rfl (p_pick_true rfl rfl) ?_
  refine GL.pure rfl (p_move rfl) ?_
  refine GL.pass (s := 16) rfl rfl rfl ?_
  refine GL.pass (s := 16) rfl rfl rfl ?_
  refine GL.pass (s := 16) rfl rfl rfl ?_
  refine GL.pass (s := 16) rfl rfl rfl ?_
  refine GL.pure rfl (p_pick_true rfl rfl) ?_
  refine GL.nil (?_ : GC _ _ _ _)
  refine GC.cond_true rfl ?_
  refine GC.seq' ?_
  refine GC.region ?_
  refine GL.pure rfl (p_assign rfl) ?_
  refine GL.pure rfl (p_assign rfl) ?_
  refine GL.nil (?_ : GC _ _ _ _)
  refine GC.ret ?_
  refine fun a w h => Fin.back (rs := [.tmp 2, .tmp 3]) (vs := [_, _]) (is := []) (js := []) rfl ⟨rfl, rfl, trivial⟩ rfl rfl ?_ h
  clear h
  first | exact ⟨_, congrArg (fun b => Value.tuple #[.pointer _, .bool b]) (decide_eq_false (fun H => by obtain ⟨⟨g1, g2⟩, g3, g4, g5, g6, g7⟩ := H; first | omega | contradiction | simp_all)).symm, rfl, rfl⟩ | exact ⟨_, congrArg (fun b => Value.tuple #[.pointer _, .bool b]) (decide_eq_true (⟨⟨by omega, by omega⟩, by assumption, (he27.1 (by assumption)).1, (he27.1 (by assumption)).2, he33.1 (by assumption), by simp_all⟩)).symm, rfl, rfl⟩
 ·try simp only [tst_, grpE_iff] at h1
  refine GL.pureG (s := 11) rfl rfl rfl (p_fieldAddr fo_39_0 rfl) ?_
  refine GL.stepG rfl (s := 11) rfl rfl (t_mem rfl (m_load (i := 0) rfl rfl ag_3 rfl)) ?_
  refine GL.pureG (s := 11) rfl rfl rfl (p_gtr rfl rfl) ?_
  refine GL.pure rfl (p_pick_false rfl rfl) ?_
  refine GL.pure rfl (p_move rfl) ?_
  refine GL.split (i := 16) rfl (fun h2 => ?_) (fun h2 => ?_)
  ·try simp only [tst_, grpE_iff] at h2
   refine GL.pass (s := 16) rfl rfl rfl ?_
   refine GL.pass (s := 16) rfl rfl rfl ?_
   refine GL.pass (s := 16) rfl rfl rfl ?_
   refine GL.pass (s := 16) rfl rfl rfl ?_
   refine GL.pure rfl (p_pick_true rfl rfl) ?_
   refine GL.nil (?_ : GC _ _ _ _)
   refine GC.cond_true rfl ?_
   refine GC.seq' ?_
   refine GC.region ?_
   refine GL.pure rfl (p_assign rfl) ?_
   refine GL.pure rfl (p_assign rfl) ?_
   refine GL.nil (?_ : GC _ _ _ _)
   refine GC.ret ?_
   refine fun a w h => Fin.back (rs := [.tmp 2, .tmp 3]) (vs := [_, _]) (is := []) (js := []) rfl ⟨rfl, rfl, trivial⟩ rfl rfl ?_ h
   clear h
   first | exact ⟨_, congrArg (fun b => Value.tuple #[.pointer _, .bool b]) (decide_eq_false (fun H => by obtain ⟨⟨g1, g2⟩, g3, g4, g5, g6, g7⟩ := H; first | omega | contradiction | simp_all)).symm, rfl, rfl⟩ | exact ⟨_, congrArg (fun b => Value.tuple #[.pointer _, .bool b]) (decide_eq_true (⟨⟨by omega, by omega⟩, by assumption, (he27.1 (by assumption)).1, (he27.1 (by assumption)).2, he33.1 (by assumption), by simp_all⟩)).symm, rfl, rfl⟩
  ·try simp only [tst_, grpE_iff] at h2
   refine GL.pureG (s := 16) rfl rfl rfl (p_fieldAddr fo_39_4 rfl) ?_
   refine GL.stepG rfl (s := 16) rfl rfl (t_mem rfl (m_loadN (i := 0) rfl rfl ag_33 (vs := [_, _]) sz_33 ⟨rfl, rfl, trivial⟩)) ?_
   refine GL.stepG rfl (s := 16) rfl rfl (t_call rfl fn_62 rfl (is := []) (js := [2]) rfl rfl (by exact mgroup_ct s.grp.epoch _ s.grp.members _ (by omega))) (GL.ret ?_)
   rintro _ _ _ ⟨rfl, rfl, rfl⟩
   refine GL.pureG (s := 16) rfl rfl rfl (p_neq rfl rfl) ?_
   refine GL.pure rfl (p_pick_false rfl rfl) ?_
   refine GL.nil (?_ : GC _ _ _ _)
   refine GC.cond rfl (fun h3 => ?_) (fun h3 => ?_)
   ·try simp only [tst_, grpE_iff] at h3
    refine GC.seq' ?_
    refine GC.region ?_
    refine GL.pure rfl (p_assign rfl) ?_
    refine GL.pure rfl (p_assign rfl) ?_
    refine GL.nil (?_ : GC _ _ _ _)
    refine GC.ret ?_
    refine fun a w h => Fin.back (rs := [.tmp 2, .tmp 3]) (vs := [_, _]) (is := []) (js := []) rfl ⟨rfl, rfl, trivial⟩ rfl rfl ?_ h
    clear h
    first | exact ⟨_, congrArg (fun b => Value.tuple #[.pointer _, .bool b]) (decide_eq_false (fun H => by obtain ⟨⟨g1, g2⟩, g3, g4, g5, g6, g7⟩ := H; first | omega | contradiction | simp_all)).symm, rfl, rfl⟩ | exact ⟨_, congrArg (fun b => Value.tuple #[.pointer _, .bool b]) (decide_eq_true (⟨⟨by omega, by omega⟩, by assumption, (he27.1 (by assumption)).1, (he27.1 (by assumption)).2, he33.1 (by assumption), by simp_all⟩)).symm, rfl, rfl⟩
   ·try simp only [tst_, grpE_iff] at h3
    refine GC.skip (?_ : GC _ _ _ _)
    refine GC.seq' ?_
    refine GC.region ?_
    refine GL.pure rfl (p_fieldAddr fo_39_1 rfl) ?_
    refine GL.step rfl (t_mem rfl (m_loadN (i := 0) rfl rfl ag_35 (vs := [_, _]) sz_35 ⟨rfl, rfl, trivial⟩)) ?_
    refine GL.pure rfl (p_fieldAddr fo_39_2 rfl) ?_
    refine GL.step rfl (t_mem rfl (m_load (i := 0) rfl rfl ag_36 rfl)) ?_
    refine GL.step rfl (t_call rfl fn_145 rfl (is := []) (js := [0]) rfl rfl (by exact vload_ct s.shp.bl s.shp.sz _ s.pages _ (by omega))) (GL.ret ?_)
    rintro _ _ _ ⟨⟨x27, e27, rfl, he27⟩, rfl, rfl⟩
    refine GL.pure rfl (p_move rfl) ?_
    refine GL.pure rfl (p_extract rfl rfl) ?_
    refine GL.pure rfl (p_extract rfl rfl) ?_
    refine GL.pure rfl (p_assign rfl) ?_
    refine GL.pure rfl (p_assign rfl) ?_
    refine GL.nil (?_ : GC _ _ _ _)
    refine GC.seq' ?_
    refine GC.region ?_
    refine GL.pure rfl (p_fieldAddr fo_39_3 rfl) ?_
    refine GL.step rfl (t_mem rfl (m_load (i := 0) rfl rfl ag_37 rfl)) ?_
    refine GL.step rfl (t_call rfl fn_146 rfl (is := []) (js := [1]) rfl rfl (by exact tload_ct _ s.rows _ (by omega))) (GL.ret ?_)
    rintro _ _ _ ⟨⟨x33, e33, rfl, he33⟩, rfl, rfl⟩
    refine GL.pure rfl (p_move rfl) ?_
    refine GL.pure rfl (p_extract rfl rfl) ?_
    refine GL.pure rfl (p_extract rfl rfl) ?_
    refine GL.pure rfl (p_assign rfl) ?_
    refine GL.pure rfl (p_assign rfl) ?_
    refine GL.nil (?_ : GC _ _ _ _)
    refine GC.seq' ?_
    refine GC.seq' ?_
    refine GC.region ?_
    refine GL.pure rfl (p_move rfl) ?_
    refine GL.pure rfl (p_neq rfl rfl) ?_
    refine GL.pure rfl (p_move rfl) ?_
    refine GL.split (i := 38) rfl (fun h4 => ?_) (fun h4 => ?_)
    ·try simp only [tst_, grpE_iff] at h4
     refine GL.pass (s := 38) rfl rfl rfl ?_
     refine GL.pass (s := 38) rfl rfl rfl ?_
     refine GL.pure rfl (p_pick_true rfl rfl) ?_
     refine GL.pure rfl (p_move rfl) ?_
     refine GL.pass (s := 42) rfl rfl rfl ?_
     refine GL.pass (s := 42) rfl rfl rfl ?_
     refine GL.pass (s := 42) rfl rfl rfl ?_
     refine GL.pass (s := 42) rfl rfl rfl ?_
     refine GL.pure rfl (p_pick_true rfl rfl) ?_
     refine GL.nil (?_ : GC _ _ _ _)
     refine GC.cond_true rfl ?_
     refine GC.seq' ?_
     refine GC.region ?_
     refine GL.pure rfl (p_assign rfl) ?_
     refine GL.pure rfl (p_assign rfl) ?_
     refine GL.nil (?_ : GC _ _ _ _)
     refine GC.ret ?_
     refine fun a w h => Fin.back (rs := [.tmp 2, .tmp 3]) (vs := [_, _]) (is := []) (js := []) rfl ⟨rfl, rfl, trivial⟩ rfl rfl ?_ h
     clear h
     first | exact ⟨_, congrArg (fun b => Value.tuple #[.pointer _, .bool b]) (decide_eq_false (fun H => by obtain ⟨⟨g1, g2⟩, g3, g4, g5, g6, g7⟩ := H; first | omega | contradiction | simp_all)).symm, rfl, rfl⟩ | exact ⟨_, congrArg (fun b => Value.tuple #[.pointer _, .bool b]) (decide_eq_true (⟨⟨by omega, by omega⟩, by assumption, (he27.1 (by assumption)).1, (he27.1 (by assumption)).2, he33.1 (by assumption), by simp_all⟩)).symm, rfl, rfl⟩
    ·try simp only [tst_, grpE_iff] at h4
     refine GL.pureG (s := 38) rfl rfl rfl (p_move rfl) ?_
     refine GL.pureG (s := 38) rfl rfl rfl (p_neq rfl rfl) ?_
     refine GL.pure rfl (p_pick_false rfl rfl) ?_
     refine GL.pure rfl (p_move rfl) ?_
     refine GL.split (i := 42) rfl (fun h5 => ?_) (fun h5 => ?_)
     ·try simp only [tst_, grpE_iff] at h5
      refine GL.pass (s := 42) rfl rfl rfl ?_
      refine GL.pass (s := 42) rfl rfl rfl ?_
      refine GL.pass (s := 42) rfl rfl rfl ?_
      refine GL.pass (s := 42) rfl rfl rfl ?_
      refine GL.pure rfl (p_pick_true rfl rfl) ?_
      refine GL.nil (?_ : GC _ _ _ _)
      refine GC.cond_true rfl ?_
      refine GC.seq' ?_
      refine GC.region ?_
      refine GL.pure rfl (p_assign rfl) ?_
      refine GL.pure rfl (p_assign rfl) ?_
      refine GL.nil (?_ : GC _ _ _ _)
      refine GC.ret ?_
      refine fun a w h => Fin.back (rs := [.tmp 2, .tmp 3]) (vs := [_, _]) (is := []) (js := []) rfl ⟨rfl, rfl, trivial⟩ rfl rfl ?_ h
      clear h
      first | exact ⟨_, congrArg (fun b => Value.tuple #[.pointer _, .bool b]) (decide_eq_false (fun H => by obtain ⟨⟨g1, g2⟩, g3, g4, g5, g6, g7⟩ := H; first | omega | contradiction | simp_all)).symm, rfl, rfl⟩ | exact ⟨_, congrArg (fun b => Value.tuple #[.pointer _, .bool b]) (decide_eq_true (⟨⟨by omega, by omega⟩, by assumption, (he27.1 (by assumption)).1, (he27.1 (by assumption)).2, he33.1 (by assumption), by simp_all⟩)).symm, rfl, rfl⟩
     ·try simp only [tst_, grpE_iff] at h5
      refine GL.pureG (s := 42) rfl rfl rfl (p_fieldAddr fo_39_2 rfl) ?_
      refine GL.stepG rfl (s := 42) rfl rfl (t_mem rfl (m_load (i := 0) rfl rfl ag_36 rfl)) ?_
      refine GL.pureG (s := 42) rfl rfl rfl (p_makeFunc rfl rfl) ?_
      refine GL.stepG rfl (s := 42) rfl rfl (t_call rfl fn_147 rfl (is := [0]) (js := [0]) rfl rfl (by exact hcon_ct _ s _ _ _ _ _ _ _ s.pages _ (by omega))) (GL.ret ?_)
      rintro _ _ _ ⟨rfl, rfl, rfl⟩
      refine GL.pure rfl (p_pick_false rfl rfl) ?_
      refine GL.nil (?_ : GC _ _ _ _)
      refine GC.cond rfl (fun h6 => ?_) (fun h6 => ?_)
      ·try simp only [tst_, grpE_iff] at h6
       refine GC.seq' ?_
       refine GC.region ?_
       refine GL.pure rfl (p_assign rfl) ?_
       refine GL.pure rfl (p_assign rfl) ?_
       refine GL.nil (?_ : GC _ _ _ _)
       refine GC.ret ?_
       refine fun a w h => Fin.back (rs := [.tmp 2, .tmp 3]) (vs := [_, _]) (is := []) (js := []) rfl ⟨rfl, rfl, trivial⟩ rfl rfl ?_ h
       clear h
       first | exact ⟨_, congrArg (fun b => Value.tuple #[.pointer _, .bool b]) (decide_eq_false (fun H => by obtain ⟨⟨g1, g2⟩, g3, g4, g5, g6, g7⟩ := H; first | omega | contradiction | simp_all)).symm, rfl, rfl⟩ | exact ⟨_, congrArg (fun b => Value.tuple #[.pointer _, .bool b]) (decide_eq_true (⟨⟨by omega, by omega⟩, by assumption, (he27.1 (by assumption)).1, (he27.1 (by assumption)).2, he33.1 (by assumption), by simp_all⟩)).symm, rfl, rfl⟩
      ·try simp only [tst_, grpE_iff] at h6
       refine GC.skip (?_ : GC _ _ _ _)
       refine GC.seq' ?_
       refine GC.regionC (m := 11) (is := [0]) (js := [0, 1, 2]) wide_ rfl rfl rfl ?_
       refine GA.take 0 rfl (by kernel_rfl) (by kernel_rfl) (by kernel_rfl) rfl (fun a w h => h.mem (is := [0]) (js := [0, 1, 2]) rfl rfl) (i_pure (p_fieldAddr fo_39_0 rfl)) ?_
       refine GA.take 1 rfl (by kernel_rfl) (by kernel_rfl) (by kernel_rfl) rfl (fun a w h => h.mem (is := [0]) (js := [0, 1, 2]) rfl rfl) (i_mem (m_load (i := 0) rfl rfl ag_3 rfl)) ?_
       refine GA.take 2 rfl (by kernel_rfl) (by kernel_rfl) (by kernel_rfl) rfl (fun a w h => h.mem (is := [0]) (js := [0, 1, 2]) rfl rfl) (i_pure (p_move rfl)) ?_
       refine GA.take 3 rfl (by kernel_rfl) (by kernel_rfl) (by kernel_rfl) rfl (fun a w h => h.mem (is := [0]) (js := [0, 1, 2]) rfl rfl) (i_pure (p_move rfl)) ?_
       refine GA.take 4 rfl (by kernel_rfl) (by kernel_rfl) (by kernel_rfl) rfl (fun a w h => h.mem (is := [0]) (js := [0, 1, 2]) rfl rfl) (i_pure (p_fieldAddr fo_39_4 rfl)) ?_
       refine GA.take 5 rfl (by kernel_rfl) (by kernel_rfl) (by kernel_rfl) rfl (fun a w h => h.mem (is := [0]) (js := [0, 1, 2]) rfl rfl) (i_mem (m_loadN (i := 0) rfl rfl ag_33 (vs := [_, _]) sz_33 ⟨rfl, rfl, trivial⟩)) ?_
       refine GA.all (rs := [6]) (by kernel_rfl) (by simp) ?_
       refine GAs.cons (i := 6) rfl rfl (t_call rfl fn_149 rfl (is := []) (js := [2]) rfl rfl (by exact mown_ct s.grp.epoch _ s.grp.members _ (by omega))) (by rintro a w ⟨_, _, _, ⟨A54, cp54, rfl, rfl, rfl⟩, h⟩; exact h.mem (is := [0]) (js := [0, 1, 2]) rfl rfl) (GA.ret ?_) ?_
       ·rintro _ _ _ ⟨A54, cp54, rfl, rfl, rfl⟩
        refine GA.take 7 rfl (by kernel_rfl) (by kernel_rfl) (by kernel_rfl) rfl (fun a w h => h.mem (is := [0]) (js := [0, 1, 2]) rfl rfl) (i_pure (p_build ze_187 of_187 rfl rfl)) ?_
        refine GA.all (rs := [8]) (by kernel_rfl) (by simp) ?_
        refine GAs.cons (i := 8) rfl rfl (t_box rfl rfl rfl) (by rintro a w ⟨_, h⟩; exact h.mem (is := [1]) (js := [0, 1, 2]) rfl rfl) (GA.ex fun b_t56 => ?_) ?_
        ·refine GA.take 9 rfl (by kernel_rfl) (by kernel_rfl) (by kernel_rfl) rfl (fun a w h => h.mem (is := [1]) (js := [0, 1, 2]) rfl rfl) (i_pure (p_assign rfl)) ?_
         refine GA.take 10 rfl (by kernel_rfl) (by kernel_rfl) (by kernel_rfl) rfl (fun a w h => h.mem (is := [1]) (js := [0, 1, 2]) rfl rfl) (i_pure (p_assign rfl)) ?_
         refine GA.done (by kernel_rfl) (?_ : GC _ _ _ _)
         refine GC.ret ?_
         refine fun a w h => Fin.back (rs := [.tmp 2, .tmp 3]) (vs := [_, _]) (is := []) (js := []) rfl ⟨rfl, rfl, trivial⟩ rfl rfl ?_ h
         clear h
         first | exact ⟨_, congrArg (fun b => Value.tuple #[.pointer _, .bool b]) (decide_eq_false (fun H => by obtain ⟨⟨g1, g2⟩, g3, g4, g5, g6, g7⟩ := H; first | omega | contradiction | simp_all)).symm, rfl, rfl⟩ | exact ⟨_, congrArg (fun b => Value.tuple #[.pointer _, .bool b]) (decide_eq_true (⟨⟨by omega, by omega⟩, by assumption, (he27.1 (by assumption)).1, (he27.1 (by assumption)).2, he33.1 (by assumption), by simp_all⟩)).symm, rfl, rfl⟩
        exact GAs.nil
       exact GAs.nil
end Go.Proofs.YtdhdmbmknpjhbaaGreat
namespace Go.Proofs.YtdhdmbmknpjhbaaGreat
open Go Go.Sx Go.Proofs
theorem mload_ct (s : Stt) (A : Option Addr) (cp : Nat) (B : Option Addr) (cq : Nat) (C : Option Addr) (cr : Nat) (hs : SttLen s) : Ct Tryz.prog 109 [sttV s A cp B cq C cr] [] (sttQ s A B C) (fun u G Q => ∃ x, u = .tuple #[.pointer x, .int .i64 (if heldOk s then 0 else 72)] ∧ G = [] ∧ Q = []) := by
 refine Ct.intro Tryz.func109 rfl rfl rfl (fun c hc => ?_)
 refine GC.seq' ?_
 refine GC.region ?_
 refine GL.step rfl (t_box rfl rfl rfl) (GL.ex fun b_t1 => ?_)
 refine GL.pure rfl (p_assign rfl) ?_
 refine GL.pure rfl (p_assign rfl) ?_
 refine GL.nil (?_ : GC _ _ _ _)
 refine GC.seq' ?_
 refine GC.region ?_
 refine GL.step rfl (t_mem rfl (m_loadN (i := 0) rfl rfl ag_39 (vs := [_, _, _, _, _, _, _]) sz_39 ⟨rfl, rfl, rfl, rfl, rfl, rfl, rfl, trivial⟩)) ?_
 refine GL.step rfl (t_call rfl fn_121 rfl (is := []) (js := [0, 1, 2]) rfl rfl (by exact held_ct s _ _ _ _ _ _ hs)) (GL.ret ?_)
 rintro _ _ _ ⟨x8, rfl, rfl, rfl⟩
 refine GL.pure rfl (p_move rfl) ?_
 refine GL.pure rfl (p_extract rfl rfl) ?_
 refine GL.pure rfl (p_extract rfl rfl) ?_
 refine GL.pure rfl (p_assign rfl) ?_
 refine GL.pure rfl (p_assign rfl) ?_
 refine GL.nil (?_ : GC _ _ _ _)
 refine GC.seq' ?_
 refine GC.seq' ?_
 refine GC.region ?_
 refine GL.pure rfl (p_move rfl) ?_
 refine GL.pure rfl (p_not rfl) ?_
 refine GL.nil (?_ : GC _ _ _ _)
 refine GC.cond rfl (fun h1 => ?_) (fun h1 => ?_)
 ·try simp only [tst_] at h1
  refine GC.seq' ?_
  refine GC.region ?_
  refine GL.pure rfl (p_assign rfl) ?_
  refine GL.pure rfl (p_assign rfl) ?_
  refine GL.nil (?_ : GC _ _ _ _)
  refine GC.ret ?_
  refine fun a w h => Fin.back (rs := [.tmp 2, .tmp 3]) (vs := [_, _]) (is := []) (js := []) rfl ⟨rfl, rfl, trivial⟩ rfl rfl ?_ h
  clear h
  first | (rw [if_pos (show heldOk s by assumption)]; exact ⟨_, rfl, rfl, rfl⟩) | (rw [if_neg (show ¬ heldOk s by assumption)]; exact ⟨_, rfl, rfl, rfl⟩)
 ·try simp only [tst_] at h1
  refine GC.skip (?_ : GC _ _ _ _)
  refine GC.seq' ?_
  refine GC.region ?_
  refine GL.pure rfl (p_move rfl) ?_
  refine GL.pure rfl (p_assign rfl) ?_
  refine GL.pure rfl (p_assign rfl) ?_
  refine GL.nil (?_ : GC _ _ _ _)
  refine GC.ret ?_
  refine fun a w h => Fin.back (rs := [.tmp 2, .tmp 3]) (vs := [_, _]) (is := []) (js := []) rfl ⟨rfl, rfl, trivial⟩ rfl rfl ?_ h
  clear h
  first | (rw [if_pos (show heldOk s by assumption)]; exact ⟨_, rfl, rfl, rfl⟩) | (rw [if_neg (show ¬ heldOk s by assumption)]; exact ⟨_, rfl, rfl, rfl⟩)
theorem lrow_nil : Ct Tryz.prog 110 [.slice none 0 0] [] [] (fun u G Q => u = .bool true ∧ G = [] ∧ Q = []) :=
  Ct.free (q := Pers.row kEntry none []) (Ct.mono (lrow_ct none [] 0 (by simp) (by simp)) fun u G Q h => ⟨h.1.trans (congrArg Value.bool (decide_eq_true (fun k hk => by simp at hk))), h.2⟩) (fun _ _ => .inl rfl)
theorem ldE_iff (s : Stt) : ((if heldOk s then (0 : Int) else 72) = 0) = heldOk s := by split <;> simp_all
theorem lchk_ct (s : Stt) (A : Option Addr) (cp : Nat) (B : Option Addr) (cq : Nat) (C : Option Addr) (cr : Nat) (hs : SttLen s) : Ct Tryz.prog 63 [.agg #[.int .i64 s.num, .int .i64 s.shp.bl, .int .i64 s.shp.sz, .slice A s.pages.length cp, .slice B s.rows.length cq, .int .i64 s.grp.epoch, .slice C s.grp.members.length cr, .slice none 0 0]] [] (sttQ s A B C) (fun u G Q => u = .int .i64 (if heldOk s then 0 else 150) ∧ G = [] ∧ Q = []) := by
 refine Ct.intro Tryz.func63 rfl rfl rfl (fun c hc => ?_)
 refine GC.seq' ?_
 refine GC.region ?_
 refine GL.step rfl (t_box rfl rfl rfl) (GL.ex fun b_t1 => ?_)
 refine GL.pure rfl (p_assign rfl) ?_
 refine GL.nil (?_ : GC _ _ _ _)
 refine GC.seq' ?_
 refine GC.region ?_
 refine GL.pure rfl (p_fieldAddr fo_111_0 rfl) ?_
 refine GL.step rfl (t_mem rfl (m_loadN (i := 0) rfl rfl ag_39 (vs := [_, _, _, _, _, _, _]) sz_39 ⟨rfl, rfl, rfl, rfl, rfl, rfl, rfl, trivial⟩)) ?_
 refine GL.step rfl (t_call rfl fn_109 rfl (is := []) (js := [0, 1, 2]) rfl rfl (by exact mload_ct s _ _ _ _ _ _ hs)) (GL.ret ?_)
 rintro _ _ _ ⟨x8, rfl, rfl, rfl⟩
 refine GL.pure rfl (p_move rfl) ?_
 refine GL.pure rfl (p_extract rfl rfl) ?_
 refine GL.pure rfl (p_extract rfl rfl) ?_
 refine GL.pure rfl (p_assign rfl) ?_
 refine GL.pure rfl (p_assign rfl) ?_
 refine GL.nil (?_ : GC _ _ _ _)
 refine GC.seq' ?_
 refine GC.seq' ?_
 refine GC.region ?_
 refine GL.pure rfl (p_move rfl) ?_
 refine GL.pure rfl (p_neq rfl rfl) ?_
 refine GL.pure rfl (p_move rfl) ?_
 refine GL.split (i := 13) rfl (fun h1 => ?_) (fun h1 => ?_)
 ·try simp only [tst_, ldE_iff] at h1
  refine GL.pass (s := 13) rfl rfl rfl ?_
  refine GL.pass (s := 13) rfl rfl rfl ?_
  refine GL.pass (s := 13) rfl rfl rfl ?_
  refine GL.pass (s := 13) rfl rfl rfl ?_
  refine GL.pure rfl (p_pick_true rfl rfl) ?_
  refine GL.pure rfl (p_move rfl) ?_
  refine GL.pass (s := 19) rfl rfl rfl ?_
  refine GL.pass (s := 19) rfl rfl rfl ?_
  refine GL.pass (s := 19) rfl rfl rfl ?_
  refine GL.pass (s := 19) rfl rfl rfl ?_
  refine GL.pass (s := 19) rfl rfl rfl ?_
  refine GL.pass (s := 19) rfl rfl rfl ?_
  refine GL.pass (s := 19) rfl rfl rfl ?_
  refine GL.pure rfl (p_pick_true rfl rfl) ?_
  refine GL.nil (?_ : GC _ _ _ _)
  refine GC.cond_true rfl ?_
  refine GC.seq' ?_
  refine GC.region ?_
  refine GL.pure rfl (p_assign rfl) ?_
  refine GL.nil (?_ : GC _ _ _ _)
  refine GC.ret ?_
  refine fun a w h => Fin.back (rs := [.tmp 2]) (vs := [_]) (is := []) (js := []) rfl ⟨rfl, trivial⟩ rfl rfl ?_ h
  clear h
  first | exact ⟨by rw [if_pos (show heldOk s by assumption)]; rfl, rfl, rfl⟩ | exact ⟨by rw [if_neg (show ¬ heldOk s by assumption)]; rfl, rfl, rfl⟩
 ·try simp only [tst_, ldE_iff] at h1
  refine GL.pureG (s := 13) rfl rfl rfl (p_fieldAddr fo_111_1 rfl) ?_
  refine GL.stepG rfl (s := 13) rfl rfl (t_mem rfl (m_load (i := 0) rfl rfl ag_40 rfl)) ?_
  refine GL.stepG rfl (s := 13) rfl rfl (t_call rfl fn_110 rfl (is := []) (js := []) rfl rfl (by exact lrow_nil)) (GL.ret ?_)
  rintro _ _ _ ⟨rfl, rfl, rfl⟩
  refine GL.pureG (s := 13) rfl rfl rfl (p_not rfl) ?_
  refine GL.pure rfl (p_pick_false rfl rfl) ?_
  refine GL.pure rfl (p_move rfl) ?_
  refine GL.pureG (s := 19) rfl rfl rfl (p_fieldAddr fo_111_0 rfl) ?_
  refine GL.pureG (s := 19) rfl rfl rfl (p_fieldAddr fo_39_0 rfl) ?_
  refine GL.stepG rfl (s := 19) rfl rfl (t_mem rfl (m_load (i := 0) rfl rfl ag_3 rfl)) ?_
  refine GL.pureG (s := 19) rfl rfl rfl (p_fieldAddr fo_111_1 rfl) ?_
  refine GL.stepG rfl (s := 19) rfl rfl (t_mem rfl (m_load (i := 0) rfl rfl ag_40 rfl)) ?_
  refine GL.stepG rfl (s := 19) rfl rfl (t_call rfl fn_111 rfl (is := []) (js := []) rfl rfl (by exact joins_nil _ _ _)) (GL.ret ?_)
  rintro _ _ _ ⟨rfl, rfl, rfl⟩
  refine GL.pureG (s := 19) rfl rfl rfl (p_not rfl) ?_
  refine GL.pure rfl (p_pick_false rfl rfl) ?_
  refine GL.nil (?_ : GC _ _ _ _)
  refine GC.cond_false rfl ?_
  refine GC.skip (?_ : GC _ _ _ _)
  refine GC.seq' ?_
  refine GC.region ?_
  refine GL.pure rfl (p_assign rfl) ?_
  refine GL.nil (?_ : GC _ _ _ _)
  refine GC.ret ?_
  refine fun a w h => Fin.back (rs := [.tmp 2]) (vs := [_]) (is := []) (js := []) rfl ⟨rfl, trivial⟩ rfl rfl ?_ h
  clear h
  first | exact ⟨by rw [if_pos (show heldOk s by assumption)]; rfl, rfl, rfl⟩ | exact ⟨by rw [if_neg (show ¬ heldOk s by assumption)]; rfl, rfl, rfl⟩
theorem lcE_iff (s : Stt) : ((if heldOk s then (0 : Int) else 150) = 0) = heldOk s := by split <;> simp_all
def pbit (a b c d : Bool) : Int := (if a = true then 1 else 0) + (if b = true then 2 else 0) + (if c = true then 4 else 0) + (if d = true then 8 else 0)
theorem or_b1 : IntKind.u8.wrap ((BitVec.ofInt IntKind.u8.bits 0 ||| BitVec.ofInt IntKind.u8.bits 1).toNat : Int) = pbit true false false false := by decide
theorem or_b2 (a : Bool) : IntKind.u8.wrap ((BitVec.ofInt IntKind.u8.bits (pbit a false false false) ||| BitVec.ofInt IntKind.u8.bits 2).toNat : Int) = pbit a true false false := by cases a <;> decide
theorem or_b4 (a b : Bool) : IntKind.u8.wrap ((BitVec.ofInt IntKind.u8.bits (pbit a b false false) ||| BitVec.ofInt IntKind.u8.bits 4).toNat : Int) = pbit a b true false := by cases a <;> cases b <;> decide
theorem or_b8 (a b c : Bool) : IntKind.u8.wrap ((BitVec.ofInt IntKind.u8.bits (pbit a b c false) ||| BitVec.ofInt IntKind.u8.bits 8).toNat : Int) = pbit a b c true := by cases a <;> cases b <;> cases c <;> decide
def bi (a : Bool) (n : Int) : Int := if a = true then n else 0
theorem bi_iff (a : Bool) (n : Int) (h : n ≠ 0) : (bi a n = 0) = (a = false) := by cases a <;> simp [bi, h]
theorem bi1 (a : Bool) : (bi a 1 = 0) = (a = false) := bi_iff a 1 (by decide)
theorem bi2 (a : Bool) : (bi a 2 = 0) = (a = false) := bi_iff a 2 (by decide)
theorem bi4 (a : Bool) : (bi a 4 = 0) = (a = false) := bi_iff a 4 (by decide)
theorem bi8 (a : Bool) : (bi a 8 = 0) = (a = false) := bi_iff a 8 (by decide)
theorem and_b1 (a b c d : Bool) : IntKind.u8.wrap ((BitVec.ofInt IntKind.u8.bits (pbit a b c d) &&& BitVec.ofInt IntKind.u8.bits 1).toNat : Int) = bi a 1 := by revert a b c d; decide
theorem and_b2 (a b c d : Bool) : IntKind.u8.wrap ((BitVec.ofInt IntKind.u8.bits (pbit a b c d) &&& BitVec.ofInt IntKind.u8.bits 2).toNat : Int) = bi b 2 := by revert a b c d; decide
theorem and_b4 (a b c d : Bool) : IntKind.u8.wrap ((BitVec.ofInt IntKind.u8.bits (pbit a b c d) &&& BitVec.ofInt IntKind.u8.bits 4).toNat : Int) = bi c 4 := by revert a b c d; decide
theorem and_b8 (a b c d : Bool) : IntKind.u8.wrap ((BitVec.ofInt IntKind.u8.bits (pbit a b c d) &&& BitVec.ofInt IntKind.u8.bits 8).toNat : Int) = bi d 8 := by revert a b c d; decide
def partsN (m : Msg) : Int := pbit (decide (¬ m.op = zop)) (decide (¬ m.res = rz)) (decide (¬ m.grp = zgr)) (decide (¬ m.stt = zst))
theorem rz_iff (r : Res) : (r = rz) ↔ (r.code = 0 ∧ (r.data.length : Int) ≤ 0) := by
  rw [rs_ext]; simp only [rz]
  constructor
  · rintro ⟨h1, h2⟩; rw [h2]; exact ⟨h1, by simp⟩
  · rintro ⟨h1, h2⟩; exact ⟨h1, List.length_eq_zero_iff.1 (by omega)⟩
theorem zgr_iff (r : Grp) : (r = zgr) ↔ (r.epoch = 0 ∧ (r.members.length : Int) ≤ 0) := by
  rw [gr_ext]; simp only [zgr]
  constructor
  · rintro ⟨h1, h2⟩; rw [h2]; exact ⟨h1, by simp⟩
  · rintro ⟨h1, h2⟩; exact ⟨h1, List.length_eq_zero_iff.1 (by omega)⟩
theorem parts_ct (m : Msg) (s : Lie) (hm : MsgLen m) : Ct Tryz.prog 59 [msgV m s] [] (msgQ m s) (fun u G Q => u = .int .u8 (partsN m) ∧ G = [] ∧ Q = []) := by
 refine Ct.intro Tryz.func59 rfl rfl rfl (fun c hc => ?_)
 refine GC.seq' ?_
 refine GC.region ?_
 refine GL.step rfl (t_box rfl rfl rfl) (GL.ex fun b_t1 => ?_)
 refine GL.pure rfl (p_assign rfl) ?_
 refine GL.nil (?_ : GC _ _ _ _)
 refine GC.seq' ?_
 refine GC.region ?_
 refine GL.pure rfl (p_assign rfl) ?_
 refine GL.nil (?_ : GC _ _ _ _)
 refine GC.joinK1 (ks := [1, 2]) (is := [0]) (js := [0, 1, 2, 3, 4, 5, 6, 7]) (fun (u_ : Unit) => True) (fun (u_ : Unit) => [(3, .int .u8 (pbit (decide (¬ m.op = zop)) false false false))]) (fun (u_ : Unit) => []) (fun (u_ : Unit) => []) rfl rfl rfl ?_ ?_
 ·refine GC.seq' ?_
  refine GC.region ?_
  refine GL.pure rfl (p_fieldAddr fo_42_11 rfl) ?_
  refine GL.step rfl (t_mem rfl (m_loadN (i := 0) rfl rfl ag_27 (vs := [_, _, _, _, _]) sz_27 ⟨rfl, rfl, rfl, rfl, rfl, trivial⟩)) ?_
  refine GL.pure rfl (p_build ze_27 of_27 rfl rfl) ?_
  refine GL.step rfl (t_call rfl fn_37 rfl (is := []) (js := [0, 1]) rfl rfl (by exact bzero_ct m.op _ _ _ _)) (GL.ret ?_)
  rintro _ _ _ ⟨rfl, rfl, rfl⟩
  refine GL.pure rfl (p_not rfl) ?_
  refine GL.nil (?_ : GC _ _ _ _)
  refine GC.cond rfl (fun h1 => ?_) (fun h1 => ?_)
  ·try simp only [tst_] at h1
   refine GC.region ?_
   refine GL.pure rfl (p_move rfl) ?_
   refine GL.pure rfl (p_orR rfl rfl or_b1) ?_
   refine GL.pure rfl (p_assign rfl) ?_
   refine GL.nil ?_
   exact fun a w h => ⟨(()), trivial, by rw [decide_eq_true (show ¬ m.op = zop by simp_all)]; exact h.cut (is := [0]) (js := [0, 1, 2, 3, 4, 5, 6, 7]) ⟨rfl, rfl, rfl, trivial⟩ rfl rfl⟩
  ·try simp only [tst_] at h1
   refine GC.skip ?_
   exact fun a w h => ⟨(()), trivial, by rw [decide_eq_false (show ¬ ¬ m.op = zop by simp_all)]; exact h.cut (is := [0]) (js := [0, 1, 2, 3, 4, 5, 6, 7]) ⟨rfl, rfl, rfl, trivial⟩ rfl rfl⟩
 ·intro u_ hj2
  try dsimp only [List.cons_append, List.nil_append] at hj2 ⊢
  refine GC.joinK1 (ks := [1, 2]) (is := [0]) (js := [0, 1, 2, 3, 4, 5, 6, 7]) (fun (u_ : Unit) => True) (fun (u_ : Unit) => [(3, .int .u8 (pbit (decide (¬ m.op = zop)) (decide (¬ m.res = rz)) false false))]) (fun (u_ : Unit) => []) (fun (u_ : Unit) => []) rfl rfl rfl ?_ ?_
  ·refine GC.seq' ?_
   refine GC.region ?_
   refine GL.pure rfl (p_fieldAddr fo_42_12 rfl) ?_
   refine GL.pure rfl (p_fieldAddr fo_30_0 rfl) ?_
   refine GL.step rfl (t_mem rfl (m_load (i := 0) rfl rfl ag_28 rfl)) ?_
   refine GL.pure rfl (p_neq rfl rfl) ?_
   refine GL.pure rfl (p_move rfl) ?_
   refine GL.split (i := 15) rfl (fun h2 => ?_) (fun h2 => ?_)
   ·try simp only [tst_] at h2
    refine GL.pass (s := 15) rfl rfl rfl ?_
    refine GL.pass (s := 15) rfl rfl rfl ?_
    refine GL.pass (s := 15) rfl rfl rfl ?_
    refine GL.pass (s := 15) rfl rfl rfl ?_
    refine GL.pass (s := 15) rfl rfl rfl ?_
    refine GL.pure rfl (p_pick_true rfl rfl) ?_
    refine GL.nil (?_ : GC _ _ _ _)
    refine GC.cond_true rfl ?_
    refine GC.region ?_
    refine GL.pure rfl (p_move rfl) ?_
    refine GL.pure rfl (p_orR rfl rfl (or_b2 _)) ?_
    refine GL.pure rfl (p_assign rfl) ?_
    refine GL.nil ?_
    exact fun a w h => ⟨(()), trivial, by rw [decide_eq_true (show ¬ m.res = rz by rw [rz_iff]; omega)]; exact h.cut (is := [0]) (js := [0, 1, 2, 3, 4, 5, 6, 7]) ⟨rfl, rfl, rfl, trivial⟩ rfl rfl⟩
   ·try simp only [tst_] at h2
    refine GL.pureG (s := 15) rfl rfl rfl (p_fieldAddr fo_42_12 rfl) ?_
    refine GL.pureG (s := 15) rfl rfl rfl (p_fieldAddr fo_30_1 rfl) ?_
    refine GL.stepG rfl (s := 15) rfl rfl (t_mem rfl (m_load (i := 0) rfl rfl ag_25 rfl)) ?_
    refine GL.pureG (s := 15) rfl rfl rfl (p_len Tryz.underlying25 rfl) ?_
    refine GL.pureG (s := 15) rfl rfl rfl (p_gtr rfl rfl) ?_
    refine GL.pure rfl (p_pick_false rfl rfl) ?_
    refine GL.nil (?_ : GC _ _ _ _)
    refine GC.cond rfl (fun h3 => ?_) (fun h3 => ?_)
    ·try simp only [tst_] at h3
     refine GC.region ?_
     refine GL.pure rfl (p_move rfl) ?_
     refine GL.pure rfl (p_orR rfl rfl (or_b2 _)) ?_
     refine GL.pure rfl (p_assign rfl) ?_
     refine GL.nil ?_
     exact fun a w h => ⟨(()), trivial, by rw [decide_eq_true (show ¬ m.res = rz by rw [rz_iff]; omega)]; exact h.cut (is := [0]) (js := [0, 1, 2, 3, 4, 5, 6, 7]) ⟨rfl, rfl, rfl, trivial⟩ rfl rfl⟩
    ·try simp only [tst_] at h3
     refine GC.skip ?_
     exact fun a w h => ⟨(()), trivial, by rw [decide_eq_false (show ¬ ¬ m.res = rz by rw [rz_iff]; omega)]; exact h.cut (is := [0]) (js := [0, 1, 2, 3, 4, 5, 6, 7]) ⟨rfl, rfl, rfl, trivial⟩ rfl rfl⟩
  ·intro u_ hj4
   try dsimp only [List.cons_append, List.nil_append] at hj4 ⊢
   refine GC.joinK1 (ks := [1, 2]) (is := [0]) (js := [0, 1, 2, 3, 4, 5, 6, 7]) (fun (u_ : Unit) => True) (fun (u_ : Unit) => [(3, .int .u8 (pbit (decide (¬ m.op = zop)) (decide (¬ m.res = rz)) (decide (¬ m.grp = zgr)) false))]) (fun (u_ : Unit) => []) (fun (u_ : Unit) => []) rfl rfl rfl ?_ ?_
   ·refine GC.seq' ?_
    refine GC.region ?_
    refine GL.pure rfl (p_fieldAddr fo_42_13 rfl) ?_
    refine GL.pure rfl (p_fieldAddr fo_33_0 rfl) ?_
    refine GL.step rfl (t_mem rfl (m_load (i := 0) rfl rfl ag_3 rfl)) ?_
    refine GL.pure rfl (p_neq rfl rfl) ?_
    refine GL.pure rfl (p_move rfl) ?_
    refine GL.split (i := 28) rfl (fun h4 => ?_) (fun h4 => ?_)
    ·try simp only [tst_] at h4
     refine GL.pass (s := 28) rfl rfl rfl ?_
     refine GL.pass (s := 28) rfl rfl rfl ?_
     refine GL.pass (s := 28) rfl rfl rfl ?_
     refine GL.pass (s := 28) rfl rfl rfl ?_
     refine GL.pass (s := 28) rfl rfl rfl ?_
     refine GL.pure rfl (p_pick_true rfl rfl) ?_
     refine GL.nil (?_ : GC _ _ _ _)
     refine GC.cond_true rfl ?_
     refine GC.region ?_
     refine GL.pure rfl (p_move rfl) ?_
     refine GL.pure rfl (p_orR rfl rfl (or_b4 _ _)) ?_
     refine GL.pure rfl (p_assign rfl) ?_
     refine GL.nil ?_
     exact fun a w h => ⟨(()), trivial, by rw [decide_eq_true (show ¬ m.grp = zgr by rw [zgr_iff]; omega)]; exact h.cut (is := [0]) (js := [0, 1, 2, 3, 4, 5, 6, 7]) ⟨rfl, rfl, rfl, trivial⟩ rfl rfl⟩
    ·try simp only [tst_] at h4
     refine GL.pureG (s := 28) rfl rfl rfl (p_fieldAddr fo_42_13 rfl) ?_
     refine GL.pureG (s := 28) rfl rfl rfl (p_fieldAddr fo_33_1 rfl) ?_
     refine GL.stepG rfl (s := 28) rfl rfl (t_mem rfl (m_load (i := 0) rfl rfl ag_31 rfl)) ?_
     refine GL.pureG (s := 28) rfl rfl rfl (p_len Tryz.underlying31 rfl) ?_
     refine GL.pureG (s := 28) rfl rfl rfl (p_gtr rfl rfl) ?_
     refine GL.pure rfl (p_pick_false rfl rfl) ?_
     refine GL.nil (?_ : GC _ _ _ _)
     refine GC.cond rfl (fun h5 => ?_) (fun h5 => ?_)
     ·try simp only [tst_] at h5
      refine GC.region ?_
      refine GL.pure rfl (p_move rfl) ?_
      refine GL.pure rfl (p_orR rfl rfl (or_b4 _ _)) ?_
      refine GL.pure rfl (p_assign rfl) ?_
      refine GL.nil ?_
      exact fun a w h => ⟨(()), trivial, by rw [decide_eq_true (show ¬ m.grp = zgr by rw [zgr_iff]; omega)]; exact h.cut (is := [0]) (js := [0, 1, 2, 3, 4, 5, 6, 7]) ⟨rfl, rfl, rfl, trivial⟩ rfl rfl⟩
     ·try simp only [tst_] at h5
      refine GC.skip ?_
      exact fun a w h => ⟨(()), trivial, by rw [decide_eq_false (show ¬ ¬ m.grp = zgr by rw [zgr_iff]; omega)]; exact h.cut (is := [0]) (js := [0, 1, 2, 3, 4, 5, 6, 7]) ⟨rfl, rfl, rfl, trivial⟩ rfl rfl⟩
   ·intro u_ hj6
    try dsimp only [List.cons_append, List.nil_append] at hj6 ⊢
    refine GC.joinK1 (ks := [2]) (is := [0]) (js := [0, 1, 2, 3, 4, 5, 6, 7]) (fun (u_ : Unit) => True) (fun (u_ : Unit) => [(3, .int .u8 (partsN m))]) (fun (u_ : Unit) => []) (fun (u_ : Unit) => []) rfl rfl rfl ?_ ?_
    ·refine GC.seq' ?_
     refine GC.region ?_
     refine GL.pure rfl (p_fieldAddr fo_42_14 rfl) ?_
     refine GL.step rfl (t_mem rfl (m_loadN (i := 0) rfl rfl ag_39 (vs := [_, _, _, _, _, _, _]) sz_39 ⟨rfl, rfl, rfl, rfl, rfl, rfl, rfl, trivial⟩)) ?_
     refine GL.pure rfl (p_build ze_39 of_39 rfl rfl) ?_
     refine GL.step rfl (t_call rfl fn_38 rfl (is := []) (js := [4, 5, 6]) rfl rfl (by exact mzst_ct m.stt _ _ _ _ _ _ (by have := hm.s.p; omega) (by have := hm.s.r; omega) (by have := hm.s.m; omega))) (GL.ret ?_)
     rintro _ _ _ ⟨rfl, rfl, rfl⟩
     refine GL.pure rfl (p_not rfl) ?_
     refine GL.nil (?_ : GC _ _ _ _)
     refine GC.cond rfl (fun h6 => ?_) (fun h6 => ?_)
     ·try simp only [tst_] at h6
      refine GC.region ?_
      refine GL.pure rfl (p_move rfl) ?_
      refine GL.pure rfl (p_orR rfl rfl (or_b8 _ _ _)) ?_
      refine GL.pure rfl (p_assign rfl) ?_
      refine GL.nil ?_
      exact fun a w h => ⟨(()), trivial, by rw [partsN, decide_eq_true (show ¬ m.stt = zst by simp_all)]; exact h.cut (is := [0]) (js := [0, 1, 2, 3, 4, 5, 6, 7]) ⟨rfl, rfl, trivial⟩ rfl rfl⟩
     ·try simp only [tst_] at h6
      refine GC.skip ?_
      exact fun a w h => ⟨(()), trivial, by rw [partsN, decide_eq_false (show ¬ ¬ m.stt = zst by simp_all)]; exact h.cut (is := [0]) (js := [0, 1, 2, 3, 4, 5, 6, 7]) ⟨rfl, rfl, trivial⟩ rfl rfl⟩
    ·intro u_ hj8
     try dsimp only [List.cons_append, List.nil_append] at hj8 ⊢
     refine GC.seq' ?_
     refine GC.region ?_
     refine GL.pure rfl (p_move rfl) ?_
     refine GL.pure rfl (p_assign rfl) ?_
     refine GL.nil (?_ : GC _ _ _ _)
     refine GC.ret ?_
     refine fun a w h => Fin.back (rs := [.tmp 2]) (vs := [_]) (is := []) (js := []) rfl ⟨rfl, trivial⟩ rfl rfl ?_ h
     clear h
     exact ⟨rfl, rfl, rfl⟩
def pOp (m : Msg) : Prop := m.op = zop ∨ formD m.op
def pRes (m : Msg) : Prop := m.res = rz ∨ resOk m.res.code m.res.data.length = true
def pGrp (m : Msg) : Prop := m.grp = zgr ∨ groupOk m.grp.epoch m.grp.members = true
def pStt (m : Msg) : Prop := m.stt = zst ∨ heldOk m.stt
theorem wright_ct (m : Msg) (s : Lie) (hm : MsgLen m) : Ct Tryz.prog 24 [msgV m s] [] (msgQ m s) (fun u G Q => u = .bool (decide (partsOk m ∧ rowOkE m.log)) ∧ G = [] ∧ Q = []) := by
 refine Ct.intro Tryz.func24 rfl rfl rfl (fun c hc => ?_)
 refine GC.seq' ?_
 refine GC.region ?_
 refine GL.step rfl (t_box rfl rfl rfl) (GL.ex fun b_t1 => ?_)
 refine GL.pure rfl (p_assign rfl) ?_
 refine GL.nil (?_ : GC _ _ _ _)
 refine GC.seq' ?_
 refine GC.region ?_
 refine GL.step rfl (t_mem rfl (m_loadN (i := 0) rfl rfl ag_42 (vs := [_, _, _, _, _, _, _, _, _, _, _, _, _, _, _, _, _, _, _, _, _, _, _, _, _, _, _, _]) sz_42 ⟨rfl, rfl, rfl, rfl, rfl, rfl, rfl, rfl, rfl, rfl, rfl, rfl, rfl, rfl, rfl, rfl, rfl, rfl, rfl, rfl, rfl, rfl, rfl, rfl, rfl, rfl, rfl, rfl, trivial⟩)) ?_
 refine GL.step rfl (t_call rfl fn_59 rfl (is := []) (js := [0, 1, 2, 3, 4, 5, 6, 7]) rfl rfl (by exact parts_ct m s hm)) (GL.ret ?_)
 rintro _ _ _ ⟨rfl, rfl, rfl⟩
 refine GL.pure rfl (p_assign rfl) ?_
 refine GL.nil (?_ : GC _ _ _ _)
 refine GC.joinK1 (ks := [1, 3]) (is := [0]) (js := [0, 1, 2, 3, 4, 5, 6, 7]) (fun (u_ : Unit) => pOp m ∧ pRes m ∧ pGrp m) (fun (u_ : Unit) => []) (fun (u_ : Unit) => []) (fun (u_ : Unit) => []) rfl rfl rfl ?_ ?_
 ·refine GC.seq' ?_
  refine GC.region ?_
  refine GL.pure rfl (p_move rfl) ?_
  refine GL.pure rfl (p_andR rfl rfl (and_b1 _ _ _ _)) ?_
  refine GL.pure rfl (p_neq rfl rfl) ?_
  refine GL.pure rfl (p_move rfl) ?_
  refine GL.split (i := 9) rfl (fun h1 => ?_) (fun h1 => ?_)
  ·try simp only [tst_, bi1, bi2, bi4, bi8, formE_iff, resE_iff, grpE_iff, lcE_iff] at h1
   refine GL.pureG (s := 9) rfl rfl rfl (p_fieldAddr fo_42_11 rfl) ?_
   refine GL.stepG rfl (s := 9) rfl rfl (t_mem rfl (m_loadN (i := 0) rfl rfl ag_27 (vs := [_, _, _, _, _]) sz_27 ⟨rfl, rfl, rfl, rfl, rfl, trivial⟩)) ?_
   refine GL.stepG rfl (s := 9) rfl rfl (t_call rfl fn_60 rfl (is := []) (js := []) rfl rfl (by exact form_ct m.op.kind m.op.at_ m.op.n _ m.op.data.length _ _ m.op.old.length _)) (GL.ret ?_)
   rintro _ _ _ ⟨rfl, rfl, rfl⟩
   refine GL.pureG (s := 9) rfl rfl rfl (p_neq rfl rfl) ?_
   refine GL.pure rfl (p_pick_true rfl rfl) ?_
   refine GL.pure rfl (p_move rfl) ?_
   refine GL.split (i := 15) rfl (fun h2 => ?_) (fun h2 => ?_)
   ·try simp only [tst_, bi1, bi2, bi4, bi8, formE_iff, resE_iff, grpE_iff, lcE_iff] at h2
    refine GL.pass (s := 15) rfl rfl rfl ?_
    refine GL.pass (s := 15) rfl rfl rfl ?_
    refine GL.pass (s := 15) rfl rfl rfl ?_
    refine GL.pass (s := 15) rfl rfl rfl ?_
    refine GL.passU (s := 19) rfl rfl rfl ?_
    refine GL.passU (s := 19) rfl rfl rfl ?_
    refine GL.passU (s := 19) rfl rfl rfl ?_
    refine GL.passU (s := 19) rfl rfl rfl ?_
    refine GL.pass (s := 15) rfl rfl rfl ?_
    refine GL.pure rfl (p_pick_true rfl rfl) ?_
    refine GL.pure rfl (p_move rfl) ?_
    refine GL.pass (s := 26) rfl rfl rfl ?_
    refine GL.pass (s := 26) rfl rfl rfl ?_
    refine GL.pass (s := 26) rfl rfl rfl ?_
    refine GL.pass (s := 26) rfl rfl rfl ?_
    refine GL.passU (s := 30) rfl rfl rfl ?_
    refine GL.passU (s := 30) rfl rfl rfl ?_
    refine GL.passU (s := 30) rfl rfl rfl ?_
    refine GL.passU (s := 30) rfl rfl rfl ?_
    refine GL.pass (s := 26) rfl rfl rfl ?_
    refine GL.pure rfl (p_pick_true rfl rfl) ?_
    refine GL.nil (?_ : GC _ _ _ _)
    refine GC.cond_true rfl ?_
    refine GC.seq' ?_
    refine GC.region ?_
    refine GL.pure rfl (p_assign rfl) ?_
    refine GL.nil (?_ : GC _ _ _ _)
    refine GC.ret ?_
    refine fun a w h => Fin.back (rs := [.tmp 2]) (vs := [_]) (is := []) (js := []) rfl ⟨rfl, trivial⟩ rfl rfl ?_ h
    clear h
    exact ⟨congrArg Value.bool (decide_eq_false fun H => by obtain ⟨⟨g1, g2, g3, g4⟩, _⟩ := H; simp only [formD] at g1; simp_all).symm, rfl, rfl⟩
   ·try simp only [tst_, bi1, bi2, bi4, bi8, formE_iff, resE_iff, grpE_iff, lcE_iff] at h2
    refine GL.pureG (s := 15) rfl rfl rfl (p_move rfl) ?_
    refine GL.pureG (s := 15) rfl rfl rfl (p_andR rfl rfl (and_b2 _ _ _ _)) ?_
    refine GL.pureG (s := 15) rfl rfl rfl (p_neq rfl rfl) ?_
    refine GL.pureG (s := 15) rfl rfl rfl (p_move rfl) ?_
    refine GL.split (i := 19) rfl (fun h3 => ?_) (fun h3 => ?_)
    ·try simp only [tst_, bi1, bi2, bi4, bi8, formE_iff, resE_iff, grpE_iff, lcE_iff] at h3
     refine GL.pureG (s := 19) rfl rfl rfl (p_fieldAddr fo_42_12 rfl) ?_
     refine GL.stepG rfl (s := 19) rfl rfl (t_mem rfl (m_loadN (i := 0) rfl rfl ag_30 (vs := [_, _]) sz_30 ⟨rfl, rfl, trivial⟩)) ?_
     refine GL.stepG rfl (s := 19) rfl rfl (t_call rfl fn_61 rfl (is := []) (js := []) rfl rfl (by exact bres_ct m.res.code _ m.res.data.length _)) (GL.ret ?_)
     rintro _ _ _ ⟨rfl, rfl, rfl⟩
     refine GL.pureG (s := 19) rfl rfl rfl (p_neq rfl rfl) ?_
     refine GL.pureG (s := 15) rfl rfl rfl (p_pick_true rfl rfl) ?_
     refine GL.pure rfl (p_pick_false rfl rfl) ?_
     refine GL.pure rfl (p_move rfl) ?_
     refine GL.split (i := 26) rfl (fun h4 => ?_) (fun h4 => ?_)
     ·try simp only [tst_, bi1, bi2, bi4, bi8, formE_iff, resE_iff, grpE_iff, lcE_iff] at h4
      refine GL.pass (s := 26) rfl rfl rfl ?_
      refine GL.pass (s := 26) rfl rfl rfl ?_
      refine GL.pass (s := 26) rfl rfl rfl ?_
      refine GL.pass (s := 26) rfl rfl rfl ?_
      refine GL.passU (s := 30) rfl rfl rfl ?_
      refine GL.passU (s := 30) rfl rfl rfl ?_
      refine GL.passU (s := 30) rfl rfl rfl ?_
      refine GL.passU (s := 30) rfl rfl rfl ?_
      refine GL.pass (s := 26) rfl rfl rfl ?_
      refine GL.pure rfl (p_pick_true rfl rfl) ?_
      refine GL.nil (?_ : GC _ _ _ _)
      refine GC.cond_true rfl ?_
      refine GC.seq' ?_
      refine GC.region ?_
      refine GL.pure rfl (p_assign rfl) ?_
      refine GL.nil (?_ : GC _ _ _ _)
      refine GC.ret ?_
      refine fun a w h => Fin.back (rs := [.tmp 2]) (vs := [_]) (is := []) (js := []) rfl ⟨rfl, trivial⟩ rfl rfl ?_ h
      clear h
      exact ⟨congrArg Value.bool (decide_eq_false fun H => by obtain ⟨⟨g1, g2, g3, g4⟩, _⟩ := H; simp only [formD] at g1; simp_all).symm, rfl, rfl⟩
     ·try simp only [tst_, bi1, bi2, bi4, bi8, formE_iff, resE_iff, grpE_iff, lcE_iff] at h4
      refine GL.pureG (s := 26) rfl rfl rfl (p_move rfl) ?_
      refine GL.pureG (s := 26) rfl rfl rfl (p_andR rfl rfl (and_b4 _ _ _ _)) ?_
      refine GL.pureG (s := 26) rfl rfl rfl (p_neq rfl rfl) ?_
      refine GL.pureG (s := 26) rfl rfl rfl (p_move rfl) ?_
      refine GL.split (i := 30) rfl (fun h5 => ?_) (fun h5 => ?_)
      ·try simp only [tst_, bi1, bi2, bi4, bi8, formE_iff, resE_iff, grpE_iff, lcE_iff] at h5
       refine GL.pureG (s := 30) rfl rfl rfl (p_fieldAddr fo_42_13 rfl) ?_
       refine GL.stepG rfl (s := 30) rfl rfl (t_mem rfl (m_loadN (i := 0) rfl rfl ag_33 (vs := [_, _]) sz_33 ⟨rfl, rfl, trivial⟩)) ?_
       refine GL.stepG rfl (s := 30) rfl rfl (t_call rfl fn_62 rfl (is := []) (js := [3]) rfl rfl (by exact mgroup_ct m.grp.epoch _ m.grp.members _ (by have := hm.g; omega))) (GL.ret ?_)
       rintro _ _ _ ⟨rfl, rfl, rfl⟩
       refine GL.pureG (s := 30) rfl rfl rfl (p_neq rfl rfl) ?_
       refine GL.pureG (s := 26) rfl rfl rfl (p_pick_true rfl rfl) ?_
       refine GL.pure rfl (p_pick_false rfl rfl) ?_
       refine GL.nil (?_ : GC _ _ _ _)
       refine GC.cond rfl (fun h6 => ?_) (fun h6 => ?_)
       ·try simp only [tst_, bi1, bi2, bi4, bi8, formE_iff, resE_iff, grpE_iff, lcE_iff] at h6
        refine GC.seq' ?_
        refine GC.region ?_
        refine GL.pure rfl (p_assign rfl) ?_
        refine GL.nil (?_ : GC _ _ _ _)
        refine GC.ret ?_
        refine fun a w h => Fin.back (rs := [.tmp 2]) (vs := [_]) (is := []) (js := []) rfl ⟨rfl, trivial⟩ rfl rfl ?_ h
        clear h
        exact ⟨congrArg Value.bool (decide_eq_false fun H => by obtain ⟨⟨g1, g2, g3, g4⟩, _⟩ := H; simp only [formD] at g1; simp_all).symm, rfl, rfl⟩
       ·try simp only [tst_, bi1, bi2, bi4, bi8, formE_iff, resE_iff, grpE_iff, lcE_iff] at h6
        refine GC.skip ?_
        exact fun a w h => ⟨(()), (by simp only [pOp, pRes, pGrp, formD]; simp_all), h.cut (is := [0]) (js := [0, 1, 2, 3, 4, 5, 6, 7]) ⟨rfl, rfl, trivial⟩ rfl rfl⟩
      ·try simp only [tst_, bi1, bi2, bi4, bi8, formE_iff, resE_iff, grpE_iff, lcE_iff] at h5
       refine GL.pass (s := 30) rfl rfl rfl ?_
       refine GL.pass (s := 30) rfl rfl rfl ?_
       refine GL.pass (s := 30) rfl rfl rfl ?_
       refine GL.pass (s := 30) rfl rfl rfl ?_
       refine GL.pureG (s := 26) rfl rfl rfl (p_pick_false rfl rfl) ?_
       refine GL.pure rfl (p_pick_false rfl rfl) ?_
       refine GL.nil (?_ : GC _ _ _ _)
       refine GC.cond_false rfl ?_
       refine GC.skip ?_
       exact fun a w h => ⟨(()), (by simp only [pOp, pRes, pGrp, formD]; simp_all), h.cut (is := [0]) (js := [0, 1, 2, 3, 4, 5, 6, 7]) ⟨rfl, rfl, trivial⟩ rfl rfl⟩
    ·try simp only [tst_, bi1, bi2, bi4, bi8, formE_iff, resE_iff, grpE_iff, lcE_iff] at h3
     refine GL.pass (s := 19) rfl rfl rfl ?_
     refine GL.pass (s := 19) rfl rfl rfl ?_
     refine GL.pass (s := 19) rfl rfl rfl ?_
     refine GL.pass (s := 19) rfl rfl rfl ?_
     refine GL.pureG (s := 15) rfl rfl rfl (p_pick_false rfl rfl) ?_
     refine GL.pure rfl (p_pick_false rfl rfl) ?_
     refine GL.pure rfl (p_move rfl) ?_
     refine GL.pureG (s := 26) rfl rfl rfl (p_move rfl) ?_
     refine GL.pureG (s := 26) rfl rfl rfl (p_andR rfl rfl (and_b4 _ _ _ _)) ?_
     refine GL.pureG (s := 26) rfl rfl rfl (p_neq rfl rfl) ?_
     refine GL.pureG (s := 26) rfl rfl rfl (p_move rfl) ?_
     refine GL.split (i := 30) rfl (fun h7 => ?_) (fun h7 => ?_)
     ·try simp only [tst_, bi1, bi2, bi4, bi8, formE_iff, resE_iff, grpE_iff, lcE_iff] at h7
      refine GL.pureG (s := 30) rfl rfl rfl (p_fieldAddr fo_42_13 rfl) ?_
      refine GL.stepG rfl (s := 30) rfl rfl (t_mem rfl (m_loadN (i := 0) rfl rfl ag_33 (vs := [_, _]) sz_33 ⟨rfl, rfl, trivial⟩)) ?_
      refine GL.stepG rfl (s := 30) rfl rfl (t_call rfl fn_62 rfl (is := []) (js := [3]) rfl rfl (by exact mgroup_ct m.grp.epoch _ m.grp.members _ (by have := hm.g; omega))) (GL.ret ?_)
      rintro _ _ _ ⟨rfl, rfl, rfl⟩
      refine GL.pureG (s := 30) rfl rfl rfl (p_neq rfl rfl) ?_
      refine GL.pureG (s := 26) rfl rfl rfl (p_pick_true rfl rfl) ?_
      refine GL.pure rfl (p_pick_false rfl rfl) ?_
      refine GL.nil (?_ : GC _ _ _ _)
      refine GC.cond rfl (fun h8 => ?_) (fun h8 => ?_)
      ·try simp only [tst_, bi1, bi2, bi4, bi8, formE_iff, resE_iff, grpE_iff, lcE_iff] at h8
       refine GC.seq' ?_
       refine GC.region ?_
       refine GL.pure rfl (p_assign rfl) ?_
       refine GL.nil (?_ : GC _ _ _ _)
       refine GC.ret ?_
       refine fun a w h => Fin.back (rs := [.tmp 2]) (vs := [_]) (is := []) (js := []) rfl ⟨rfl, trivial⟩ rfl rfl ?_ h
       clear h
       exact ⟨congrArg Value.bool (decide_eq_false fun H => by obtain ⟨⟨g1, g2, g3, g4⟩, _⟩ := H; simp only [formD] at g1; simp_all).symm, rfl, rfl⟩
      ·try simp only [tst_, bi1, bi2, bi4, bi8, formE_iff, resE_iff, grpE_iff, lcE_iff] at h8
       refine GC.skip ?_
       exact fun a w h => ⟨(()), (by simp only [pOp, pRes, pGrp, formD]; simp_all), h.cut (is := [0]) (js := [0, 1, 2, 3, 4, 5, 6, 7]) ⟨rfl, rfl, trivial⟩ rfl rfl⟩
     ·try simp only [tst_, bi1, bi2, bi4, bi8, formE_iff, resE_iff, grpE_iff, lcE_iff] at h7
      refine GL.pass (s := 30) rfl rfl rfl ?_
      refine GL.pass (s := 30) rfl rfl rfl ?_
      refine GL.pass (s := 30) rfl rfl rfl ?_
      refine GL.pass (s := 30) rfl rfl rfl ?_
      refine GL.pureG (s := 26) rfl rfl rfl (p_pick_false rfl rfl) ?_
      refine GL.pure rfl (p_pick_false rfl rfl) ?_
      refine GL.nil (?_ : GC _ _ _ _)
      refine GC.cond_false rfl ?_
      refine GC.skip ?_
      exact fun a w h => ⟨(()), (by simp only [pOp, pRes, pGrp, formD]; simp_all), h.cut (is := [0]) (js := [0, 1, 2, 3, 4, 5, 6, 7]) ⟨rfl, rfl, trivial⟩ rfl rfl⟩
  ·try simp only [tst_, bi1, bi2, bi4, bi8, formE_iff, resE_iff, grpE_iff, lcE_iff] at h1
   refine GL.pass (s := 9) rfl rfl rfl ?_
   refine GL.pass (s := 9) rfl rfl rfl ?_
   refine GL.pass (s := 9) rfl rfl rfl ?_
   refine GL.pass (s := 9) rfl rfl rfl ?_
   refine GL.pure rfl (p_pick_false rfl rfl) ?_
   refine GL.pure rfl (p_move rfl) ?_
   refine GL.pureG (s := 15) rfl rfl rfl (p_move rfl) ?_
   refine GL.pureG (s := 15) rfl rfl rfl (p_andR rfl rfl (and_b2 _ _ _ _)) ?_
   refine GL.pureG (s := 15) rfl rfl rfl (p_neq rfl rfl) ?_
   refine GL.pureG (s := 15) rfl rfl rfl (p_move rfl) ?_
   refine GL.split (i := 19) rfl (fun h9 => ?_) (fun h9 => ?_)
   ·try simp only [tst_, bi1, bi2, bi4, bi8, formE_iff, resE_iff, grpE_iff, lcE_iff] at h9
    refine GL.pureG (s := 19) rfl rfl rfl (p_fieldAddr fo_42_12 rfl) ?_
    refine GL.stepG rfl (s := 19) rfl rfl (t_mem rfl (m_loadN (i := 0) rfl rfl ag_30 (vs := [_, _]) sz_30 ⟨rfl, rfl, trivial⟩)) ?_
    refine GL.stepG rfl (s := 19) rfl rfl (t_call rfl fn_61 rfl (is := []) (js := []) rfl rfl (by exact bres_ct m.res.code _ m.res.data.length _)) (GL.ret ?_)
    rintro _ _ _ ⟨rfl, rfl, rfl⟩
    refine GL.pureG (s := 19) rfl rfl rfl (p_neq rfl rfl) ?_
    refine GL.pureG (s := 15) rfl rfl rfl (p_pick_true rfl rfl) ?_
    refine GL.pure rfl (p_pick_false rfl rfl) ?_
    refine GL.pure rfl (p_move rfl) ?_
    refine GL.split (i := 26) rfl (fun h10 => ?_) (fun h10 => ?_)
    ·try simp only [tst_, bi1, bi2, bi4, bi8, formE_iff, resE_iff, grpE_iff, lcE_iff] at h10
     refine GL.pass (s := 26) rfl rfl rfl ?_
     refine GL.pass (s := 26) rfl rfl rfl ?_
     refine GL.pass (s := 26) rfl rfl rfl ?_
     refine GL.pass (s := 26) rfl rfl rfl ?_
     refine GL.passU (s := 30) rfl rfl rfl ?_
     refine GL.passU (s := 30) rfl rfl rfl ?_
     refine GL.passU (s := 30) rfl rfl rfl ?_
     refine GL.passU (s := 30) rfl rfl rfl ?_
     refine GL.pass (s := 26) rfl rfl rfl ?_
     refine GL.pure rfl (p_pick_true rfl rfl) ?_
     refine GL.nil (?_ : GC _ _ _ _)
     refine GC.cond_true rfl ?_
     refine GC.seq' ?_
     refine GC.region ?_
     refine GL.pure rfl (p_assign rfl) ?_
     refine GL.nil (?_ : GC _ _ _ _)
     refine GC.ret ?_
     refine fun a w h => Fin.back (rs := [.tmp 2]) (vs := [_]) (is := []) (js := []) rfl ⟨rfl, trivial⟩ rfl rfl ?_ h
     clear h
     exact ⟨congrArg Value.bool (decide_eq_false fun H => by obtain ⟨⟨g1, g2, g3, g4⟩, _⟩ := H; simp only [formD] at g1; simp_all).symm, rfl, rfl⟩
    ·try simp only [tst_, bi1, bi2, bi4, bi8, formE_iff, resE_iff, grpE_iff, lcE_iff] at h10
     refine GL.pureG (s := 26) rfl rfl rfl (p_move rfl) ?_
     refine GL.pureG (s := 26) rfl rfl rfl (p_andR rfl rfl (and_b4 _ _ _ _)) ?_
     refine GL.pureG (s := 26) rfl rfl rfl (p_neq rfl rfl) ?_
     refine GL.pureG (s := 26) rfl rfl rfl (p_move rfl) ?_
     refine GL.split (i := 30) rfl (fun h11 => ?_) (fun h11 => ?_)
     ·try simp only [tst_, bi1, bi2, bi4, bi8, formE_iff, resE_iff, grpE_iff, lcE_iff] at h11
      refine GL.pureG (s := 30) rfl rfl rfl (p_fieldAddr fo_42_13 rfl) ?_
      refine GL.stepG rfl (s := 30) rfl rfl (t_mem rfl (m_loadN (i := 0) rfl rfl ag_33 (vs := [_, _]) sz_33 ⟨rfl, rfl, trivial⟩)) ?_
      refine GL.stepG rfl (s := 30) rfl rfl (t_call rfl fn_62 rfl (is := []) (js := [3]) rfl rfl (by exact mgroup_ct m.grp.epoch _ m.grp.members _ (by have := hm.g; omega))) (GL.ret ?_)
      rintro _ _ _ ⟨rfl, rfl, rfl⟩
      refine GL.pureG (s := 30) rfl rfl rfl (p_neq rfl rfl) ?_
      refine GL.pureG (s := 26) rfl rfl rfl (p_pick_true rfl rfl) ?_
      refine GL.pure rfl (p_pick_false rfl rfl) ?_
      refine GL.nil (?_ : GC _ _ _ _)
      refine GC.cond rfl (fun h12 => ?_) (fun h12 => ?_)
      ·try simp only [tst_, bi1, bi2, bi4, bi8, formE_iff, resE_iff, grpE_iff, lcE_iff] at h12
       refine GC.seq' ?_
       refine GC.region ?_
       refine GL.pure rfl (p_assign rfl) ?_
       refine GL.nil (?_ : GC _ _ _ _)
       refine GC.ret ?_
       refine fun a w h => Fin.back (rs := [.tmp 2]) (vs := [_]) (is := []) (js := []) rfl ⟨rfl, trivial⟩ rfl rfl ?_ h
       clear h
       exact ⟨congrArg Value.bool (decide_eq_false fun H => by obtain ⟨⟨g1, g2, g3, g4⟩, _⟩ := H; simp only [formD] at g1; simp_all).symm, rfl, rfl⟩
      ·try simp only [tst_, bi1, bi2, bi4, bi8, formE_iff, resE_iff, grpE_iff, lcE_iff] at h12
       refine GC.skip ?_
       exact fun a w h => ⟨(()), (by simp only [pOp, pRes, pGrp, formD]; simp_all), h.cut (is := [0]) (js := [0, 1, 2, 3, 4, 5, 6, 7]) ⟨rfl, rfl, trivial⟩ rfl rfl⟩
     ·try simp only [tst_, bi1, bi2, bi4, bi8, formE_iff, resE_iff, grpE_iff, lcE_iff] at h11
      refine GL.pass (s := 30) rfl rfl rfl ?_
      refine GL.pass (s := 30) rfl rfl rfl ?_
      refine GL.pass (s := 30) rfl rfl rfl ?_
      refine GL.pass (s := 30) rfl rfl rfl ?_
      refine GL.pureG (s := 26) rfl rfl rfl (p_pick_false rfl rfl) ?_
      refine GL.pure rfl (p_pick_false rfl rfl) ?_
      refine GL.nil (?_ : GC _ _ _ _)
      refine GC.cond_false rfl ?_
      refine GC.skip ?_
      exact fun a w h => ⟨(()), (by simp only [pOp, pRes, pGrp, formD]; simp_all), h.cut (is := [0]) (js := [0, 1, 2, 3, 4, 5, 6, 7]) ⟨rfl, rfl, trivial⟩ rfl rfl⟩
   ·try simp only [tst_, bi1, bi2, bi4, bi8, formE_iff, resE_iff, grpE_iff, lcE_iff] at h9
    refine GL.pass (s := 19) rfl rfl rfl ?_
    refine GL.pass (s := 19) rfl rfl rfl ?_
    refine GL.pass (s := 19) rfl rfl rfl ?_
    refine GL.pass (s := 19) rfl rfl rfl ?_
    refine GL.pureG (s := 15) rfl rfl rfl (p_pick_false rfl rfl) ?_
    refine GL.pure rfl (p_pick_false rfl rfl) ?_
    refine GL.pure rfl (p_move rfl) ?_
    refine GL.pureG (s := 26) rfl rfl rfl (p_move rfl) ?_
    refine GL.pureG (s := 26) rfl rfl rfl (p_andR rfl rfl (and_b4 _ _ _ _)) ?_
    refine GL.pureG (s := 26) rfl rfl rfl (p_neq rfl rfl) ?_
    refine GL.pureG (s := 26) rfl rfl rfl (p_move rfl) ?_
    refine GL.split (i := 30) rfl (fun h13 => ?_) (fun h13 => ?_)
    ·try simp only [tst_, bi1, bi2, bi4, bi8, formE_iff, resE_iff, grpE_iff, lcE_iff] at h13
     refine GL.pureG (s := 30) rfl rfl rfl (p_fieldAddr fo_42_13 rfl) ?_
     refine GL.stepG rfl (s := 30) rfl rfl (t_mem rfl (m_loadN (i := 0) rfl rfl ag_33 (vs := [_, _]) sz_33 ⟨rfl, rfl, trivial⟩)) ?_
     refine GL.stepG rfl (s := 30) rfl rfl (t_call rfl fn_62 rfl (is := []) (js := [3]) rfl rfl (by exact mgroup_ct m.grp.epoch _ m.grp.members _ (by have := hm.g; omega))) (GL.ret ?_)
     rintro _ _ _ ⟨rfl, rfl, rfl⟩
     refine GL.pureG (s := 30) rfl rfl rfl (p_neq rfl rfl) ?_
     refine GL.pureG (s := 26) rfl rfl rfl (p_pick_true rfl rfl) ?_
     refine GL.pure rfl (p_pick_false rfl rfl) ?_
     refine GL.nil (?_ : GC _ _ _ _)
     refine GC.cond rfl (fun h14 => ?_) (fun h14 => ?_)
     ·try simp only [tst_, bi1, bi2, bi4, bi8, formE_iff, resE_iff, grpE_iff, lcE_iff] at h14
      refine GC.seq' ?_
      refine GC.region ?_
      refine GL.pure rfl (p_assign rfl) ?_
      refine GL.nil (?_ : GC _ _ _ _)
      refine GC.ret ?_
      refine fun a w h => Fin.back (rs := [.tmp 2]) (vs := [_]) (is := []) (js := []) rfl ⟨rfl, trivial⟩ rfl rfl ?_ h
      clear h
      exact ⟨congrArg Value.bool (decide_eq_false fun H => by obtain ⟨⟨g1, g2, g3, g4⟩, _⟩ := H; simp only [formD] at g1; simp_all).symm, rfl, rfl⟩
     ·try simp only [tst_, bi1, bi2, bi4, bi8, formE_iff, resE_iff, grpE_iff, lcE_iff] at h14
      refine GC.skip ?_
      exact fun a w h => ⟨(()), (by simp only [pOp, pRes, pGrp, formD]; simp_all), h.cut (is := [0]) (js := [0, 1, 2, 3, 4, 5, 6, 7]) ⟨rfl, rfl, trivial⟩ rfl rfl⟩
    ·try simp only [tst_, bi1, bi2, bi4, bi8, formE_iff, resE_iff, grpE_iff, lcE_iff] at h13
     refine GL.pass (s := 30) rfl rfl rfl ?_
     refine GL.pass (s := 30) rfl rfl rfl ?_
     refine GL.pass (s := 30) rfl rfl rfl ?_
     refine GL.pass (s := 30) rfl rfl rfl ?_
     refine GL.pureG (s := 26) rfl rfl rfl (p_pick_false rfl rfl) ?_
     refine GL.pure rfl (p_pick_false rfl rfl) ?_
     refine GL.nil (?_ : GC _ _ _ _)
     refine GC.cond_false rfl ?_
     refine GC.skip ?_
     exact fun a w h => ⟨(()), (by simp only [pOp, pRes, pGrp, formD]; simp_all), h.cut (is := [0]) (js := [0, 1, 2, 3, 4, 5, 6, 7]) ⟨rfl, rfl, trivial⟩ rfl rfl⟩
 ·intro u_ hj2
  try dsimp only [List.cons_append, List.nil_append] at hj2 ⊢
  refine GC.joinK1 (ks := [1]) (is := [0]) (js := [0, 1, 2, 3, 4, 5, 6, 7]) (fun (u_ : Unit) => pStt m) (fun (u_ : Unit) => []) (fun (u_ : Unit) => []) (fun (u_ : Unit) => []) rfl rfl rfl ?_ ?_
  ·refine GC.seq' ?_
   refine GC.region ?_
   refine GL.pure rfl (p_move rfl) ?_
   refine GL.pure rfl (p_andR rfl rfl (and_b8 _ _ _ _)) ?_
   refine GL.pure rfl (p_neq rfl rfl) ?_
   refine GL.pure rfl (p_move rfl) ?_
   refine GL.split (i := 40) rfl (fun h15 => ?_) (fun h15 => ?_)
   ·try simp only [tst_, bi1, bi2, bi4, bi8, formE_iff, resE_iff, grpE_iff, lcE_iff] at h15
    refine GL.pureG (s := 40) rfl rfl rfl (p_fieldAddr fo_42_14 rfl) ?_
    refine GL.stepG rfl (s := 40) rfl rfl (t_mem rfl (m_loadN (i := 0) rfl rfl ag_39 (vs := [_, _, _, _, _, _, _]) sz_39 ⟨rfl, rfl, rfl, rfl, rfl, rfl, rfl, trivial⟩)) ?_
    refine GL.pureG (s := 40) rfl rfl rfl (p_build ze_111 of_111 rfl rfl) ?_
    refine GL.stepG rfl (s := 40) rfl rfl (t_call rfl fn_63 rfl (is := []) (js := [4, 5, 6]) rfl rfl (by exact lchk_ct m.stt _ _ _ _ _ _ hm.s)) (GL.ret ?_)
    rintro _ _ _ ⟨rfl, rfl, rfl⟩
    refine GL.pureG (s := 40) rfl rfl rfl (p_neq rfl rfl) ?_
    refine GL.pure rfl (p_pick_true rfl rfl) ?_
    refine GL.nil (?_ : GC _ _ _ _)
    refine GC.cond rfl (fun h16 => ?_) (fun h16 => ?_)
    ·try simp only [tst_, bi1, bi2, bi4, bi8, formE_iff, resE_iff, grpE_iff, lcE_iff] at h16
     refine GC.seq' ?_
     refine GC.region ?_
     refine GL.pure rfl (p_assign rfl) ?_
     refine GL.nil (?_ : GC _ _ _ _)
     refine GC.ret ?_
     refine fun a w h => Fin.back (rs := [.tmp 2]) (vs := [_]) (is := []) (js := []) rfl ⟨rfl, trivial⟩ rfl rfl ?_ h
     clear h
     exact ⟨congrArg Value.bool (decide_eq_false fun H => by obtain ⟨⟨g1, g2, g3, g4⟩, _⟩ := H; simp_all).symm, rfl, rfl⟩
    ·try simp only [tst_, bi1, bi2, bi4, bi8, formE_iff, resE_iff, grpE_iff, lcE_iff] at h16
     refine GC.skip ?_
     exact fun a w h => ⟨(()), (by simp only [pStt]; simp_all), h.cut (is := [0]) (js := [0, 1, 2, 3, 4, 5, 6, 7]) ⟨rfl, trivial⟩ rfl rfl⟩
   ·try simp only [tst_, bi1, bi2, bi4, bi8, formE_iff, resE_iff, grpE_iff, lcE_iff] at h15
    refine GL.pass (s := 40) rfl rfl rfl ?_
    refine GL.pass (s := 40) rfl rfl rfl ?_
    refine GL.pass (s := 40) rfl rfl rfl ?_
    refine GL.pass (s := 40) rfl rfl rfl ?_
    refine GL.pass (s := 40) rfl rfl rfl ?_
    refine GL.pure rfl (p_pick_false rfl rfl) ?_
    refine GL.nil (?_ : GC _ _ _ _)
    refine GC.cond_false rfl ?_
    refine GC.skip ?_
    exact fun a w h => ⟨(()), (by simp only [pStt]; simp_all), h.cut (is := [0]) (js := [0, 1, 2, 3, 4, 5, 6, 7]) ⟨rfl, trivial⟩ rfl rfl⟩
  ·intro u_ hj4
   try dsimp only [List.cons_append, List.nil_append] at hj4 ⊢
   refine GC.seq' ?_
   refine GC.region ?_
   refine GL.pure rfl (p_fieldAddr fo_42_15 rfl) ?_
   refine GL.step rfl (t_mem rfl (m_load (i := 0) rfl rfl ag_40 rfl)) ?_
   refine GL.step rfl (t_call rfl fn_64 rfl (is := []) (js := [7]) rfl rfl (by exact wrow_ct _ m.log _ (by have := hm.l; omega) hm.e)) (GL.ret ?_)
   rintro _ _ _ ⟨rfl, rfl, rfl⟩
   refine GL.pure rfl (p_assign rfl) ?_
   refine GL.nil (?_ : GC _ _ _ _)
   refine GC.ret ?_
   refine fun a w h => Fin.back (rs := [.tmp 2]) (vs := [_]) (is := []) (js := []) rfl ⟨rfl, trivial⟩ rfl rfl ?_ h
   clear h
   exact ⟨congrArg Value.bool (decide_eq_decide.2 ⟨fun g => ⟨⟨hj2.1, hj2.2.1, hj2.2.2, hj4⟩, g⟩, fun g => g.2⟩), rfl, rfl⟩
theorem iidx_ct (A : Option Addr) (l : List Int) (cp : Nat) (hl : l.length ≤ 140737488355328) : Ct Tryz.prog 58 [.slice A l.length cp, .func (.func 22) #[] #[]] [] [Pers.row kI A l]
    (fun u G Q => ∃ i : Int, (0 ≤ i ↔ ¬ ∀ x ∈ l, in62 x) ∧ u = .int .i64 i ∧ G = [] ∧ Q = []) := by
 refine Ct.intro Tryz.func58 rfl rfl rfl (fun c hc => ?_)
 refine GC.seq' ?_
 refine GC.region ?_
 refine GL.pure rfl (p_assign rfl) ?_
 refine GL.nil (?_ : GC _ _ _ _)
 refine GC.seq' ?_
 refine GC.seq' ?_
 refine GC.region ?_
 refine GL.pure rfl (p_move rfl) ?_
 refine GL.pure rfl (p_len Tryz.underlying31 rfl) ?_
 refine GL.pure rfl (p_move rfl) ?_
 refine GL.nil (?_ : GC _ _ _ _)
 refine GC.block ?_
 refine GC.loopK1 (ks := [0, 1, 7]) (is := []) (js := [0]) (fun (k : Nat) => k ≤ l.length ∧ ∀ j : Nat, j < k → in62 (gt l (j : Int))) (fun (k : Nat) => [(8, .int .i64 (k : Int))]) (fun (k : Nat) => []) (fun (k : Nat) => []) (fun (k : Nat) => l.length - k) (0) rfl rfl rfl (fun a w h => ⟨⟨by omega, fun j hj => by omega⟩, h.cutK (is := []) (js := [0]) (ks := [0, 1, 7]) ⟨rfl, trivial⟩ rfl rfl rfl⟩) ?_
 intro k hk
 try dsimp only [List.cons_append, List.nil_append] at hk ⊢
 obtain ⟨hk, hall⟩ := hk
 refine GC.seq' ?_
 refine GC.region ?_
 refine GL.pure rfl (p_lss rfl rfl) ?_
 refine GL.nil (?_ : GC _ _ _ _)
 refine GC.seq' ?_
 refine GC.cond rfl (fun h1 => ?_) (fun h1 => ?_)
 ·try simp only [tst_] at h1
  refine GC.skip (?_ : GC _ _ _ _)
  refine GC.seq' ?_
  refine GC.block ?_
  refine GC.seq' ?_
  refine GC.region ?_
  refine GL.pure rfl (p_move rfl) ?_
  refine GL.pure rfl (p_assign rfl) ?_
  refine GL.nil (?_ : GC _ _ _ _)
  refine GC.seq' ?_
  refine GC.region ?_
  refine GL.pure rfl (p_move rfl) ?_
  refine GL.pure rfl (p_move rfl) ?_
  refine GL.pure rfl (p_move rfl) ?_
  refine GL.step rfl (t_index (i := 0) rfl rfl rfl rfl Tryz.underlying31 sz_3 (by omega) (gt_ok (by omega) (by omega))) (GL.ex fun p_x14 => GL.ex fun r_x14 => GL.and fun ok_x14 => ?_)
  rcases r_x14 with _
  refine GL.step rfl (t_mem rfl (m_loadP (i := 0) rfl rfl ag_3 rfl)) ?_
  refine GL.step rfl (t_callv rfl fn_22 rfl rfl (is := []) (js := []) rfl rfl (by exact chk1_ct (gt l (k : Int)))) (GL.ret ?_)
  rintro _ _ _ ⟨rfl, rfl, rfl⟩
  refine GL.nil (?_ : GC _ _ _ _)
  refine GC.cond rfl (fun h2 => ?_) (fun h2 => ?_)
  ·try simp only [tst_] at h2
   refine GC.seq' ?_
   refine GC.region ?_
   refine GL.pure rfl (p_move rfl) ?_
   refine GL.pure rfl (p_assign rfl) ?_
   refine GL.nil (?_ : GC _ _ _ _)
   refine GC.ret ?_
   refine fun a w h => Fin.back (rs := [.tmp 4]) (vs := [_]) (is := []) (js := []) rfl ⟨rfl, trivial⟩ rfl rfl ?_ h
   clear h
   exact ⟨_, ⟨fun _ H => absurd (H _ (gt_elem (l := l) (k := k) (by omega))) (by assumption), fun _ => by omega⟩, rfl, rfl, rfl⟩
  ·try simp only [tst_] at h2
   refine GC.skip (?_ : GC _ _ _ _)
   refine GC.region ?_
   refine GL.pure rfl (p_add rfl rfl (w64 (by omega) (by omega))) ?_
   refine GL.pure rfl (p_move rfl) ?_
   refine GL.nil ?_
   exact fun a w h => ⟨(k + 1), (by omega), ⟨by omega, fun j hj => (Nat.lt_succ_iff_lt_or_eq.1 hj).elim (hall j) (fun e => by subst e; assumption)⟩, h.cut (is := []) (js := [1]) ⟨rfl, rfl, rfl, rfl, trivial⟩ rfl rfl⟩
 ·try simp only [tst_] at h1
  refine GC.exit (?_ : GC _ _ _ _)
  refine GC.seq' ?_
  refine GC.region ?_
  refine GL.pure rfl (p_assign rfl) ?_
  refine GL.nil (?_ : GC _ _ _ _)
  refine GC.ret ?_
  refine fun a w h => Fin.back (rs := [.tmp 4]) (vs := [_]) (is := []) (js := []) rfl ⟨rfl, trivial⟩ rfl rfl ?_ h
  clear h
  exact ⟨_, ⟨fun g => by omega, fun g => absurd (fun p hp => by obtain ⟨j, hj, rfl⟩ := mem_gt hp; exact hall j (by omega)) g⟩, rfl, rfl, rfl⟩
theorem icon_ct (A : Option Addr) (l : List Int) (cp : Nat) (hl : l.length ≤ 140737488355328) : Ct Tryz.prog 21 [.slice A l.length cp, .func (.func 22) #[] #[]] [] [Pers.row kI A l]
    (fun u G Q => u = .bool (decide (¬ ∀ x ∈ l, in62 x)) ∧ G = [] ∧ Q = []) := by
 refine Ct.intro Tryz.func21 rfl rfl rfl (fun c hc => ?_)
 refine GC.seq' ?_
 refine GC.region ?_
 refine GL.pure rfl (p_assign rfl) ?_
 refine GL.nil (?_ : GC _ _ _ _)
 refine GC.seq' ?_
 refine GC.region ?_
 refine GL.pure rfl (p_move rfl) ?_
 refine GL.pure rfl (p_move rfl) ?_
 refine GL.step rfl (t_call rfl fn_58 rfl (is := []) (js := [0]) rfl rfl (by exact iidx_ct _ l _ hl)) (GL.ret ?_)
 rintro _ _ _ ⟨i7, hi7, rfl, rfl, rfl⟩
 refine GL.pure rfl (p_geq rfl rfl) ?_
 refine GL.pure rfl (p_assign rfl) ?_
 refine GL.nil (?_ : GC _ _ _ _)
 refine GC.ret ?_
 refine fun a w h => Fin.back (rs := [.tmp 4]) (vs := [_]) (is := []) (js := []) rfl ⟨rfl, trivial⟩ rfl rfl ?_ h
 clear h
 exact ⟨congrArg Value.bool (decide_eq_decide.2 hi7), rfl, rfl⟩
theorem nums_iff (m : Msg) : (∀ x ∈ [m.epoch, m.view, m.num, m.commit, m.normal, m.client, m.serial], in62 x) ↔ numsOk m := by simp [numsOk]
theorem msgE_yes {m : Msg} (h : msgOk m) : msgE m = 0 := if_pos h
theorem msgE_no {m : Msg} (h : ¬ msgOk m) : msgE m = 160 := if_neg h
theorem wchk_ct (m : Msg) (s : Lie) (hm : MsgLen m) : Ct Tryz.prog 12 [msgV m s] [] (msgQ m s) (fun u G Q => u = .int .i64 (msgE m) ∧ G = [] ∧ Q = []) := by
 refine Ct.intro Tryz.func12 rfl rfl rfl (fun c hc => ?_)
 refine GC.seq' ?_
 refine GC.region ?_
 refine GL.step rfl (t_box rfl rfl rfl) (GL.ex fun b_t1 => ?_)
 refine GL.pure rfl (p_assign rfl) ?_
 refine GL.nil (?_ : GC _ _ _ _)
 refine GC.seq' ?_
 refine GC.region ?_
 refine GL.pure rfl (p_fieldAddr fo_42_3 rfl) ?_
 refine GL.step rfl (t_mem rfl (m_load (i := 0) rfl rfl ag_3 rfl)) ?_
 refine GL.pure rfl (p_fieldAddr fo_42_4 rfl) ?_
 refine GL.step rfl (t_mem rfl (m_load (i := 0) rfl rfl ag_3 rfl)) ?_
 refine GL.pure rfl (p_fieldAddr fo_42_5 rfl) ?_
 refine GL.step rfl (t_mem rfl (m_load (i := 0) rfl rfl ag_3 rfl)) ?_
 refine GL.pure rfl (p_fieldAddr fo_42_6 rfl) ?_
 refine GL.step rfl (t_mem rfl (m_load (i := 0) rfl rfl ag_3 rfl)) ?_
 refine GL.pure rfl (p_fieldAddr fo_42_7 rfl) ?_
 refine GL.step rfl (t_mem rfl (m_load (i := 0) rfl rfl ag_3 rfl)) ?_
 refine GL.pure rfl (p_fieldAddr fo_42_9 rfl) ?_
 refine GL.step rfl (t_mem rfl (m_load (i := 0) rfl rfl ag_3 rfl)) ?_
 refine GL.pure rfl (p_fieldAddr fo_42_10 rfl) ?_
 refine GL.step rfl (t_mem rfl (m_load (i := 0) rfl rfl ag_3 rfl)) ?_
 refine GL.step rfl (t_buildSlice rfl Tryz.underlying31 sz_3 ze_3 rfl rfl rfl rfl rfl rfl) (GL.ex fun b_t19 => ?_)
 refine GL.pure rfl (p_assign rfl) ?_
 refine GL.nil (?_ : GC _ _ _ _)
 refine GC.seq' ?_
 refine GC.region ?_
 refine GL.freezeC (enc := Value.int .i64) (xs := [m.epoch, m.view, m.num, m.commit, m.normal, m.client, m.serial]) (h1 := fun _ => rfl) (i := 0) rfl ?_
 refine GL.pure rfl (p_move rfl) ?_
 refine GL.step rfl (t_call rfl fn_21 rfl (is := []) (js := [0]) rfl rfl (by exact icon_ct _ [m.epoch, m.view, m.num, m.commit, m.normal, m.client, m.serial] _ (by simp))) (GL.ret ?_)
 rintro _ _ _ ⟨rfl, rfl, rfl⟩
 refine GL.pure rfl (p_assign rfl) ?_
 refine GL.nil (?_ : GC _ _ _ _)
 refine GC.seq' ?_
 refine GC.seq' ?_
 refine GC.region ?_
 refine GL.pure rfl (p_move rfl) ?_
 refine GL.pure rfl (p_move rfl) ?_
 refine GL.split (i := 23) rfl (fun h1 => ?_) (fun h1 => ?_)
 ·try simp only [tst_, nums_iff] at h1
  refine GL.pass (s := 23) rfl rfl rfl ?_
  refine GL.pass (s := 23) rfl rfl rfl ?_
  refine GL.pass (s := 23) rfl rfl rfl ?_
  refine GL.pure rfl (p_pick_true rfl rfl) ?_
  refine GL.pure rfl (p_move rfl) ?_
  refine GL.pass (s := 28) rfl rfl rfl ?_
  refine GL.pass (s := 28) rfl rfl rfl ?_
  refine GL.pass (s := 28) rfl rfl rfl ?_
  refine GL.pure rfl (p_pick_true rfl rfl) ?_
  refine GL.pure rfl (p_move rfl) ?_
  refine GL.pass (s := 33) rfl rfl rfl ?_
  refine GL.pass (s := 33) rfl rfl rfl ?_
  refine GL.pass (s := 33) rfl rfl rfl ?_
  refine GL.pass (s := 33) rfl rfl rfl ?_
  refine GL.pure rfl (p_pick_true rfl rfl) ?_
  refine GL.pure rfl (p_move rfl) ?_
  refine GL.pass (s := 39) rfl rfl rfl ?_
  refine GL.pass (s := 39) rfl rfl rfl ?_
  refine GL.pass (s := 39) rfl rfl rfl ?_
  refine GL.pass (s := 39) rfl rfl rfl ?_
  refine GL.pure rfl (p_pick_true rfl rfl) ?_
  refine GL.pure rfl (p_move rfl) ?_
  refine GL.pass (s := 45) rfl rfl rfl ?_
  refine GL.pass (s := 45) rfl rfl rfl ?_
  refine GL.pass (s := 45) rfl rfl rfl ?_
  refine GL.pure rfl (p_pick_true rfl rfl) ?_
  refine GL.nil (?_ : GC _ _ _ _)
  refine GC.cond_true rfl ?_
  refine GC.seq' ?_
  refine GC.region ?_
  refine GL.pure rfl (p_assign rfl) ?_
  refine GL.nil (?_ : GC _ _ _ _)
  refine GC.ret ?_
  refine fun a w h => Fin.back (rs := [.tmp 2]) (vs := [_]) (is := []) (js := []) rfl ⟨rfl, trivial⟩ rfl rfl ?_ h
  clear h
  first | exact ⟨by rw [msgE_no (fun H => by obtain ⟨g1, g2, g3, g4, g5, g6, g7⟩ := H; first | omega | contradiction | (simp_all; done))]; rfl, rfl, rfl⟩ | exact ⟨by rw [msgE_yes ⟨by assumption, by omega, by omega, by assumption, by assumption, (by assumption : partsOk m ∧ rowOkE m.log).1, (by assumption : partsOk m ∧ rowOkE m.log).2⟩]; rfl, rfl, rfl⟩
 ·try simp only [tst_, nums_iff] at h1
  refine GL.pureG (s := 23) rfl rfl rfl (p_fieldAddr fo_42_0 rfl) ?_
  refine GL.stepG rfl (s := 23) rfl rfl (t_mem rfl (m_load (i := 0) rfl rfl ag_22 rfl)) ?_
  refine GL.pureG (s := 23) rfl rfl rfl (p_lss rfl rfl) ?_
  refine GL.pure rfl (p_pick_false rfl rfl) ?_
  refine GL.pure rfl (p_move rfl) ?_
  refine GL.split (i := 28) rfl (fun h2 => ?_) (fun h2 => ?_)
  ·try simp only [tst_, nums_iff] at h2
   refine GL.pass (s := 28) rfl rfl rfl ?_
   refine GL.pass (s := 28) rfl rfl rfl ?_
   refine GL.pass (s := 28) rfl rfl rfl ?_
   refine GL.pure rfl (p_pick_true rfl rfl) ?_
   refine GL.pure rfl (p_move rfl) ?_
   refine GL.pass (s := 33) rfl rfl rfl ?_
   refine GL.pass (s := 33) rfl rfl rfl ?_
   refine GL.pass (s := 33) rfl rfl rfl ?_
   refine GL.pass (s := 33) rfl rfl rfl ?_
   refine GL.pure rfl (p_pick_true rfl rfl) ?_
   refine GL.pure rfl (p_move rfl) ?_
   refine GL.pass (s := 39) rfl rfl rfl ?_
   refine GL.pass (s := 39) rfl rfl rfl ?_
   refine GL.pass (s := 39) rfl rfl rfl ?_
   refine GL.pass (s := 39) rfl rfl rfl ?_
   refine GL.pure rfl (p_pick_true rfl rfl) ?_
   refine GL.pure rfl (p_move rfl) ?_
   refine GL.pass (s := 45) rfl rfl rfl ?_
   refine GL.pass (s := 45) rfl rfl rfl ?_
   refine GL.pass (s := 45) rfl rfl rfl ?_
   refine GL.pure rfl (p_pick_true rfl rfl) ?_
   refine GL.nil (?_ : GC _ _ _ _)
   refine GC.cond_true rfl ?_
   refine GC.seq' ?_
   refine GC.region ?_
   refine GL.pure rfl (p_assign rfl) ?_
   refine GL.nil (?_ : GC _ _ _ _)
   refine GC.ret ?_
   refine fun a w h => Fin.back (rs := [.tmp 2]) (vs := [_]) (is := []) (js := []) rfl ⟨rfl, trivial⟩ rfl rfl ?_ h
   clear h
   first | exact ⟨by rw [msgE_no (fun H => by obtain ⟨g1, g2, g3, g4, g5, g6, g7⟩ := H; first | omega | contradiction | (simp_all; done))]; rfl, rfl, rfl⟩ | exact ⟨by rw [msgE_yes ⟨by assumption, by omega, by omega, by assumption, by assumption, (by assumption : partsOk m ∧ rowOkE m.log).1, (by assumption : partsOk m ∧ rowOkE m.log).2⟩]; rfl, rfl, rfl⟩
  ·try simp only [tst_, nums_iff] at h2
   refine GL.pureG (s := 28) rfl rfl rfl (p_fieldAddr fo_42_0 rfl) ?_
   refine GL.stepG rfl (s := 28) rfl rfl (t_mem rfl (m_load (i := 0) rfl rfl ag_22 rfl)) ?_
   refine GL.pureG (s := 28) rfl rfl rfl (p_gtr rfl rfl) ?_
   refine GL.pure rfl (p_pick_false rfl rfl) ?_
   refine GL.pure rfl (p_move rfl) ?_
   refine GL.split (i := 33) rfl (fun h3 => ?_) (fun h3 => ?_)
   ·try simp only [tst_, nums_iff] at h3
    refine GL.pass (s := 33) rfl rfl rfl ?_
    refine GL.pass (s := 33) rfl rfl rfl ?_
    refine GL.pass (s := 33) rfl rfl rfl ?_
    refine GL.pass (s := 33) rfl rfl rfl ?_
    refine GL.pure rfl (p_pick_true rfl rfl) ?_
    refine GL.pure rfl (p_move rfl) ?_
    refine GL.pass (s := 39) rfl rfl rfl ?_
    refine GL.pass (s := 39) rfl rfl rfl ?_
    refine GL.pass (s := 39) rfl rfl rfl ?_
    refine GL.pass (s := 39) rfl rfl rfl ?_
    refine GL.pure rfl (p_pick_true rfl rfl) ?_
    refine GL.pure rfl (p_move rfl) ?_
    refine GL.pass (s := 45) rfl rfl rfl ?_
    refine GL.pass (s := 45) rfl rfl rfl ?_
    refine GL.pass (s := 45) rfl rfl rfl ?_
    refine GL.pure rfl (p_pick_true rfl rfl) ?_
    refine GL.nil (?_ : GC _ _ _ _)
    refine GC.cond_true rfl ?_
    refine GC.seq' ?_
    refine GC.region ?_
    refine GL.pure rfl (p_assign rfl) ?_
    refine GL.nil (?_ : GC _ _ _ _)
    refine GC.ret ?_
    refine fun a w h => Fin.back (rs := [.tmp 2]) (vs := [_]) (is := []) (js := []) rfl ⟨rfl, trivial⟩ rfl rfl ?_ h
    clear h
    first | exact ⟨by rw [msgE_no (fun H => by obtain ⟨g1, g2, g3, g4, g5, g6, g7⟩ := H; first | omega | contradiction | (simp_all; done))]; rfl, rfl, rfl⟩ | exact ⟨by rw [msgE_yes ⟨by assumption, by omega, by omega, by assumption, by assumption, (by assumption : partsOk m ∧ rowOkE m.log).1, (by assumption : partsOk m ∧ rowOkE m.log).2⟩]; rfl, rfl, rfl⟩
   ·try simp only [tst_, nums_iff] at h3
    refine GL.pureG (s := 33) rfl rfl rfl (p_fieldAddr fo_42_1 rfl) ?_
    refine GL.stepG rfl (s := 33) rfl rfl (t_mem rfl (m_load (i := 0) rfl rfl ag_3 rfl)) ?_
    refine GL.stepG rfl (s := 33) rfl rfl (t_call rfl fn_23 rfl (is := []) (js := []) rfl rfl (by exact who_ct _)) (GL.ret ?_)
    rintro _ _ _ ⟨rfl, rfl, rfl⟩
    refine GL.pureG (s := 33) rfl rfl rfl (p_not rfl) ?_
    refine GL.pure rfl (p_pick_false rfl rfl) ?_
    refine GL.pure rfl (p_move rfl) ?_
    refine GL.split (i := 39) rfl (fun h4 => ?_) (fun h4 => ?_)
    ·try simp only [tst_, nums_iff] at h4
     refine GL.pass (s := 39) rfl rfl rfl ?_
     refine GL.pass (s := 39) rfl rfl rfl ?_
     refine GL.pass (s := 39) rfl rfl rfl ?_
     refine GL.pass (s := 39) rfl rfl rfl ?_
     refine GL.pure rfl (p_pick_true rfl rfl) ?_
     refine GL.pure rfl (p_move rfl) ?_
     refine GL.pass (s := 45) rfl rfl rfl ?_
     refine GL.pass (s := 45) rfl rfl rfl ?_
     refine GL.pass (s := 45) rfl rfl rfl ?_
     refine GL.pure rfl (p_pick_true rfl rfl) ?_
     refine GL.nil (?_ : GC _ _ _ _)
     refine GC.cond_true rfl ?_
     refine GC.seq' ?_
     refine GC.region ?_
     refine GL.pure rfl (p_assign rfl) ?_
     refine GL.nil (?_ : GC _ _ _ _)
     refine GC.ret ?_
     refine fun a w h => Fin.back (rs := [.tmp 2]) (vs := [_]) (is := []) (js := []) rfl ⟨rfl, trivial⟩ rfl rfl ?_ h
     clear h
     first | exact ⟨by rw [msgE_no (fun H => by obtain ⟨g1, g2, g3, g4, g5, g6, g7⟩ := H; first | omega | contradiction | (simp_all; done))]; rfl, rfl, rfl⟩ | exact ⟨by rw [msgE_yes ⟨by assumption, by omega, by omega, by assumption, by assumption, (by assumption : partsOk m ∧ rowOkE m.log).1, (by assumption : partsOk m ∧ rowOkE m.log).2⟩]; rfl, rfl, rfl⟩
    ·try simp only [tst_, nums_iff] at h4
     refine GL.pureG (s := 39) rfl rfl rfl (p_fieldAddr fo_42_2 rfl) ?_
     refine GL.stepG rfl (s := 39) rfl rfl (t_mem rfl (m_load (i := 0) rfl rfl ag_3 rfl)) ?_
     refine GL.stepG rfl (s := 39) rfl rfl (t_call rfl fn_23 rfl (is := []) (js := []) rfl rfl (by exact who_ct _)) (GL.ret ?_)
     rintro _ _ _ ⟨rfl, rfl, rfl⟩
     refine GL.pureG (s := 39) rfl rfl rfl (p_not rfl) ?_
     refine GL.pure rfl (p_pick_false rfl rfl) ?_
     refine GL.pure rfl (p_move rfl) ?_
     refine GL.split (i := 45) rfl (fun h5 => ?_) (fun h5 => ?_)
     ·try simp only [tst_, nums_iff] at h5
      refine GL.pass (s := 45) rfl rfl rfl ?_
      refine GL.pass (s := 45) rfl rfl rfl ?_
      refine GL.pass (s := 45) rfl rfl rfl ?_
      refine GL.pure rfl (p_pick_true rfl rfl) ?_
      refine GL.nil (?_ : GC _ _ _ _)
      refine GC.cond_true rfl ?_
      refine GC.seq' ?_
      refine GC.region ?_
      refine GL.pure rfl (p_assign rfl) ?_
      refine GL.nil (?_ : GC _ _ _ _)
      refine GC.ret ?_
      refine fun a w h => Fin.back (rs := [.tmp 2]) (vs := [_]) (is := []) (js := []) rfl ⟨rfl, trivial⟩ rfl rfl ?_ h
      clear h
      first | exact ⟨by rw [msgE_no (fun H => by obtain ⟨g1, g2, g3, g4, g5, g6, g7⟩ := H; first | omega | contradiction | (simp_all; done))]; rfl, rfl, rfl⟩ | exact ⟨by rw [msgE_yes ⟨by assumption, by omega, by omega, by assumption, by assumption, (by assumption : partsOk m ∧ rowOkE m.log).1, (by assumption : partsOk m ∧ rowOkE m.log).2⟩]; rfl, rfl, rfl⟩
     ·try simp only [tst_, nums_iff] at h5
      refine GL.stepG rfl (s := 45) rfl rfl (t_mem rfl (m_loadN (i := 0) rfl rfl ag_42 (vs := [_, _, _, _, _, _, _, _, _, _, _, _, _, _, _, _, _, _, _, _, _, _, _, _, _, _, _, _]) sz_42 ⟨rfl, rfl, rfl, rfl, rfl, rfl, rfl, rfl, rfl, rfl, rfl, rfl, rfl, rfl, rfl, rfl, rfl, rfl, rfl, rfl, rfl, rfl, rfl, rfl, rfl, rfl, rfl, rfl, trivial⟩)) ?_
      refine GL.stepG rfl (s := 45) rfl rfl (t_call rfl fn_24 rfl (is := []) (js := [1, 2, 3, 4, 5, 6, 7, 8]) rfl rfl (by exact wright_ct m s hm)) (GL.ret ?_)
      rintro _ _ _ ⟨rfl, rfl, rfl⟩
      refine GL.pureG (s := 45) rfl rfl rfl (p_not rfl) ?_
      refine GL.pure rfl (p_pick_false rfl rfl) ?_
      refine GL.nil (?_ : GC _ _ _ _)
      refine GC.cond rfl (fun h6 => ?_) (fun h6 => ?_)
      ·try simp only [tst_, nums_iff] at h6
       refine GC.seq' ?_
       refine GC.region ?_
       refine GL.pure rfl (p_assign rfl) ?_
       refine GL.nil (?_ : GC _ _ _ _)
       refine GC.ret ?_
       refine fun a w h => Fin.back (rs := [.tmp 2]) (vs := [_]) (is := []) (js := []) rfl ⟨rfl, trivial⟩ rfl rfl ?_ h
       clear h
       first | exact ⟨by rw [msgE_no (fun H => by obtain ⟨g1, g2, g3, g4, g5, g6, g7⟩ := H; first | omega | contradiction | (simp_all; done))]; rfl, rfl, rfl⟩ | exact ⟨by rw [msgE_yes ⟨by assumption, by omega, by omega, by assumption, by assumption, (by assumption : partsOk m ∧ rowOkE m.log).1, (by assumption : partsOk m ∧ rowOkE m.log).2⟩]; rfl, rfl, rfl⟩
      ·try simp only [tst_, nums_iff] at h6
       refine GC.skip (?_ : GC _ _ _ _)
       refine GC.seq' ?_
       refine GC.region ?_
       refine GL.pure rfl (p_assign rfl) ?_
       refine GL.nil (?_ : GC _ _ _ _)
       refine GC.ret ?_
       refine fun a w h => Fin.back (rs := [.tmp 2]) (vs := [_]) (is := []) (js := []) rfl ⟨rfl, trivial⟩ rfl rfl ?_ h
       clear h
       first | exact ⟨by rw [msgE_no (fun H => by obtain ⟨g1, g2, g3, g4, g5, g6, g7⟩ := H; first | omega | contradiction | (simp_all; done))]; rfl, rfl, rfl⟩ | exact ⟨by rw [msgE_yes ⟨by assumption, by omega, by omega, by assumption, by assumption, (by assumption : partsOk m ∧ rowOkE m.log).1, (by assumption : partsOk m ∧ rowOkE m.log).2⟩]; rfl, rfl, rfl⟩
end Go.Proofs.YtdhdmbmknpjhbaaGreat
namespace Go.Proofs.YtdhdmbmknpjhbaaGreat
open Go Go.Sx Go.Proofs
theorem isNum_no {n : Int} (h : n < 1 ∨ 4611686018427387904 < n) : ¬ isNum n = true := by simp [isNum]; omega
theorem isNum_ok {n : Int} (h : 1 ≤ n) (h' : n ≤ 4611686018427387904) : isNum n = true := by simp [isNum]; omega
theorem gt3_no {a b c : Int} {k : Nat} (hk : k < 3) (h : ¬ isNum (gt [a, b, c] (k : Int)) = true) : ¬ (isNum a = true ∧ isNum b = true ∧ isNum c = true) := by
  rintro ⟨h1, h2, h3⟩
  rcases k with _ | _ | _ | k
  · exact h h1
  · exact h h2
  · exact h h3
  · omega
theorem gt3_ok {a b c : Int} (h : ∀ j : Nat, j < 3 → isNum (gt [a, b, c] (j : Int)) = true) : isNum a = true ∧ isNum b = true ∧ isNum c = true := ⟨h 0 (by omega), h 1 (by omega), h 2 (by omega)⟩
end Go.Proofs.YtdhdmbmknpjhbaaGreat
