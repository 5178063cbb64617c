/- Texts of this claim, in one: what the law leans on (part 3). -/
import Derived.Test.YtliacpkblicnhaaGreatJ2
set_option linter.unusedVariables false
set_option linter.unusedSimpArgs false
set_option maxRecDepth 100000
namespace Go.Proofs.YtliacpkblicnhaaGreat
open Go Go.Sx Go.Proofs
section
variable {n : Nat} {env : List (Nat × Value)} {dst : Nat} {ty : TypeId} {pos : String} {aft : Array Edge} {g : Option (Nat × Bool)} {x y : Operand} {u : TypeId}
theorem p_shapeEql {a b c d : Int} (hx : ev env x = some (shpV a b)) (hy : ev env y = some (shpV c d)) : Pv Tryz.prog n env ⟨some dst,.binOp .eql 57 x y u,ty,pos,aft,g⟩ (.bool (decide (a = c) && decide (b = d))) := fun act w he => by
  simp only [execOp,he.eval hx,he.eval hy,run_eqGuard_agg w _ _ _ _ _ _ (show Tryz.prog.eqGuardType Tryz.prog.depth 57 = false by kernel_rfl),Sem.run_bind,Result.andThen_ok,run_eql_struct,run_eqShape,Sem.run_pure]
end
end Go.Proofs.YtliacpkblicnhaaGreat
namespace Go.Proofs.YtliacpkblicnhaaGreat
open Go Go.Sx Go.Proofs
theorem mstt_ct (s t : Stt) (A : Option Addr) (cp : Nat) (B : Option Addr) (cq : Nat) (C : Option Addr) (cr : Nat) (A' : Option Addr) (cp' : Nat) (B' : Option Addr) (cq' : Nat) (C' : Option Addr) (cr' : Nat) (h1_ : s.pages.length ≤ 140737488355328) (h2_ : s.rows.length ≤ 140737488355328) (h3_ : s.grp.members.length ≤ 140737488355328) : Ct Tryz.prog 93 [sttV s A cp B cq C cr,sttV t A' cp' B' cq' C' cr'] [] (sttQ s A B C ++ sttQ t A' B' C') (fun u G Q => u = .bool (decide (s = t)) ∧ G = [] ∧ Q = []) := by
 refine Ct.intro Tryz.func93 rfl rfl rfl (fun c hc => ?_)
 refine GC.sr_ ?_;refine GL.step rfl (t_box rfl rfl rfl) (GL.ex fun b_t2 => ?_);refine GL.step rfl (t_box rfl rfl rfl) (GL.ex fun b_t3 => ?_);refine GL.rz 1 ?_;refine GC.rr 1 ?_;refine GL.ld_ 1 ?_;refine GL.rn 1 ?_
 refine GL.ld_ 0 ?_;refine GL.cl Tryz.call147 [] [0,3] rfl rfl rfl (by exact eqpg_ct _ s.pages _ _ t.pages _ (by first | assumption | omega)) ?_
 rintro _ _ _ ⟨rfl,rfl,rfl⟩
 refine GL.rz 1 ?_;refine GC.rr 2 ?_;refine GL.sp 12 ?_ ?_
 ·intro h1; try simp only [tst_,Bool.and_eq_true,Bool.and_eq_false_iff] at h1
  refine GL.rn 1 ?_;refine GL.dg_ 1 ?_;refine GL.rn 1 ?_;refine GL.dg_ 0 ?_;refine GL.rn 3 ?_;refine GL.sp 19 ?_ ?_
  ·intro h2; try simp only [tst_,Bool.and_eq_true,Bool.and_eq_false_iff] at h2
   refine GL.rn 1 ?_;refine GL.lg_ 1 2 ?_;refine GL.rn 1 ?_;refine GL.lg_ 0 2 ?_;refine GL.pureG (s := 19) rfl rfl rfl (p_shapeEql rfl rfl) ?_;refine GL.rn 2 ?_;refine GL.sp 26 ?_ ?_
   ·intro h3; try simp only [tst_,Bool.and_eq_true,Bool.and_eq_false_iff] at h3
    refine GL.rn 1 ?_;refine GL.dg_ 1 ?_;refine GL.rn 1 ?_;refine GL.dg_ 0 ?_;refine GL.stepG rfl (s := 26) rfl rfl (t_call rfl Tryz.call149 rfl (is := []) (js := [1,4]) rfl rfl (by exact tsame_ct _ s.rows _ _ t.rows _ (by first | assumption | omega))) (GL.ret ?_)
    rintro _ _ _ ⟨rfl,rfl,rfl⟩
    refine GL.rn 2 ?_;refine GL.sp 33 ?_ ?_
    ·intro h4; try simp only [tst_,Bool.and_eq_true,Bool.and_eq_false_iff] at h4
     refine GL.rn 1 ?_;refine GL.lg_ 1 2 ?_;refine GL.rn 1 ?_;refine GL.lg_ 0 2 ?_;refine GL.stepG rfl (s := 33) rfl rfl (t_call rfl Tryz.call150 rfl (is := []) (js := [2,5]) rfl rfl (by exact msgr_ct s.grp t.grp _ _ _ _ (by first | assumption | omega))) (GL.ret ?_)
     rintro _ _ _ ⟨rfl,rfl,rfl⟩
     refine GL.rz 2 ?_;refine GC.ret (Fin.b1 4 [] [] ?_)
     refine ⟨congrArg Value.bool ?_,rfl,rfl⟩
     simp [st_ext,sh_ext, *]
     (try (intros; simp_all))
    intro h4; try simp only [tst_,Bool.and_eq_true,Bool.and_eq_false_iff] at h4
    refine GL.rz 7 ?_;refine GC.ret (Fin.b1 4 [] [] ?_)
    refine ⟨congrArg Value.bool ?_,rfl,rfl⟩
    simp [st_ext,sh_ext, *]
    (try (intros; simp_all))
   intro h3; try simp only [tst_,Bool.and_eq_true,Bool.and_eq_false_iff] at h3
   refine GL.rz 14 ?_;refine GC.ret (Fin.b1 4 [] [] ?_)
   refine ⟨congrArg Value.bool ?_,rfl,rfl⟩
   simp [st_ext,sh_ext, *]
   (try (intros; simp_all))
  intro h2; try simp only [tst_,Bool.and_eq_true,Bool.and_eq_false_iff] at h2
  refine GL.rz 21 ?_;refine GC.ret (Fin.b1 4 [] [] ?_)
  refine ⟨congrArg Value.bool ?_,rfl,rfl⟩
  simp [st_ext,sh_ext, *]
  (try (intros; simp_all))
 intro h1; try simp only [tst_,Bool.and_eq_true,Bool.and_eq_false_iff] at h1
 refine GL.rz 28 ?_;refine GC.ret (Fin.b1 4 [] [] ?_)
 refine ⟨congrArg Value.bool ?_,rfl,rfl⟩
 simp [st_ext,sh_ext, *]
 (try (intros; simp_all))
theorem rstt_ct (s t : Stt) (A : Option Addr) (cp : Nat) (B : Option Addr) (cq : Nat) (C : Option Addr) (cr : Nat) (A' : Option Addr) (cp' : Nat) (B' : Option Addr) (cq' : Nat) (C' : Option Addr) (cr' : Nat) (h1_ : s.pages.length ≤ 140737488355328) (h2_ : s.rows.length ≤ 140737488355328) (h3_ : s.grp.members.length ≤ 140737488355328) : Ct Tryz.prog 28 [sttV s A cp B cq C cr,sttV t A' cp' B' cq' C' cr'] [] (sttQ s A B C ++ sttQ t A' B' C') (fun u G Q => u = .bool (decide (s = t)) ∧ G = [] ∧ Q = []) := by
 refine Ct.intro Tryz.func28 rfl rfl rfl (fun c hc => ?_)
 refine GC.sr_ ?_;refine GL.step rfl (t_box rfl rfl rfl) (GL.ex fun b_t2 => ?_);refine GL.step rfl (t_box rfl rfl rfl) (GL.ex fun b_t3 => ?_);refine GL.rz 1 ?_;refine GC.rr 1 ?_;refine GL.ld_ 1 ?_;refine GL.rn 1 ?_
 refine GL.ld_ 0 ?_;refine GL.rn 2 ?_;refine GL.sp 10 ?_ ?_
 ·intro h1; try simp only [tst_,Bool.and_eq_true,Bool.and_eq_false_iff] at h1
  refine GL.rn 1 ?_;refine GL.lg_ 1 2 ?_;refine GL.rn 1 ?_;refine GL.lg_ 0 2 ?_;refine GL.pureG (s := 10) rfl rfl rfl (p_shapeEql rfl rfl) ?_;refine GL.rn 2 ?_;refine GL.sp 17 ?_ ?_
  ·intro h2; try simp only [tst_,Bool.and_eq_true,Bool.and_eq_false_iff] at h2
   refine GL.rn 1 ?_;refine GL.dg_ 1 ?_;refine GL.rn 1 ?_;refine GL.dg_ 0 ?_;refine GL.stepG rfl (s := 17) rfl rfl (t_call rfl Tryz.call51 rfl (is := []) (js := [0,3]) rfl rfl (by exact rpgs_ct _ s.pages _ _ t.pages _ (by first | assumption | omega))) (GL.ret ?_)
   rintro _ _ _ ⟨rfl,rfl,rfl⟩
   refine GL.rn 2 ?_;refine GL.sp 24 ?_ ?_
   ·intro h3; try simp only [tst_,Bool.and_eq_true,Bool.and_eq_false_iff] at h3
    refine GL.rn 1 ?_;refine GL.dg_ 1 ?_;refine GL.rn 1 ?_;refine GL.dg_ 0 ?_;refine GL.stepG rfl (s := 24) rfl rfl (t_call rfl Tryz.call52 rfl (is := []) (js := [1,4]) rfl rfl (by exact rsame_ct _ s.rows _ _ t.rows _ (by first | assumption | omega))) (GL.ret ?_)
    rintro _ _ _ ⟨rfl,rfl,rfl⟩
    refine GL.rn 2 ?_;refine GL.sp 31 ?_ ?_
    ·intro h4; try simp only [tst_,Bool.and_eq_true,Bool.and_eq_false_iff] at h4
     refine GL.rn 1 ?_;refine GL.lg_ 1 2 ?_;refine GL.rn 1 ?_;refine GL.lg_ 0 2 ?_;refine GL.stepG rfl (s := 31) rfl rfl (t_call rfl Tryz.call27 rfl (is := []) (js := [2,5]) rfl rfl (by exact rgsg_ct s.grp t.grp _ _ _ _ (by first | assumption | omega))) (GL.ret ?_)
     rintro _ _ _ ⟨rfl,rfl,rfl⟩
     refine GL.rz 2 ?_;refine GC.ret (Fin.b1 4 [] [] ?_)
     refine ⟨congrArg Value.bool ?_,rfl,rfl⟩
     simp [st_ext,sh_ext, *]
     (try (intros; simp_all))
    intro h4; try simp only [tst_,Bool.and_eq_true,Bool.and_eq_false_iff] at h4
    refine GL.rz 7 ?_;refine GC.ret (Fin.b1 4 [] [] ?_)
    refine ⟨congrArg Value.bool ?_,rfl,rfl⟩
    simp [st_ext,sh_ext, *]
    (try (intros; simp_all))
   intro h3; try simp only [tst_,Bool.and_eq_true,Bool.and_eq_false_iff] at h3
   refine GL.rz 14 ?_;refine GC.ret (Fin.b1 4 [] [] ?_)
   refine ⟨congrArg Value.bool ?_,rfl,rfl⟩
   simp [st_ext,sh_ext, *]
   (try (intros; simp_all))
  intro h2; try simp only [tst_,Bool.and_eq_true,Bool.and_eq_false_iff] at h2
  refine GL.rz 21 ?_;refine GC.ret (Fin.b1 4 [] [] ?_)
  refine ⟨congrArg Value.bool ?_,rfl,rfl⟩
  simp [st_ext,sh_ext, *]
  (try (intros; simp_all))
 intro h1; try simp only [tst_,Bool.and_eq_true,Bool.and_eq_false_iff] at h1
 refine GL.rz 28 ?_;refine GC.ret (Fin.b1 4 [] [] ?_)
 refine ⟨congrArg Value.bool ?_,rfl,rfl⟩
 simp [st_ext,sh_ext, *]
 (try (intros; simp_all))
theorem mzst_ct (s : Stt) (A : Option Addr) (cp : Nat) (B : Option Addr) (cq : Nat) (C : Option Addr) (cr : Nat) (h1_ : s.pages.length ≤ 140737488355328) (h2_ : s.rows.length ≤ 140737488355328) (h3_ : s.grp.members.length ≤ 140737488355328) : Ct Tryz.prog 93 [sttV s A cp B cq C cr,.agg #[.int .i64 0,.int .i64 0,.int .i64 0,.slice none 0 0,.slice none 0 0,.int .i64 0,.slice none 0 0]] [] (sttQ s A B C) (fun u G Q => u = .bool (decide (s = zst)) ∧ G = [] ∧ Q = []) :=
  Ct.qperm (mstt_ct s zst A cp B cq C cr none 0 none 0 none 0 h1_ h2_ h3_) (by intro q hq; simp only [List.mem_cons,List.mem_append,List.not_mem_nil,or_false] at hq ⊢; rcases hq with (rfl | rfl | rfl) | rfl | rfl | rfl <;> first | exact .inr (fun _ _ => .inl rfl) | simp)
end Go.Proofs.YtliacpkblicnhaaGreat
namespace Go.Sx
open Go
section
variable {P : Program} {c : Cx} {n : Nat} {env env' envK E : List (Nat × Value)} {G G' Gr GK : List Own} {Q Q' QK : List Pers} {a : Act} {w : World}
variable {α β γ δ : Type} {x z : Code} {R : Exit → Asr} {ks is js : List Nat}
theorem GC.joinK1 (φ : α → Prop) (F : α → List (Nat × Value)) (GF : α → List Own) (QF : α → List Pers) (hK : kept env ks = some envK) (hG : pickQ G is = some GK) (hQ : pickQ Q js = some QK)
    (hx : GC P (Exit.then (fun a w => ∃ y,φ y ∧ St c n (F y ++ envK) (GF y ++ GK) (QF y ++ QK) a w) R) x (St c n env G Q))
    (hz : ∀ y,φ y → GC P R z (St c n (F y ++ envK) (GF y ++ GK) (QF y ++ QK))) : GC P R (.seq x z) (St c n env G Q) :=
  GC.seq hx fun a w ⟨y,hp,h⟩ => hz y hp a w h
theorem GC.joinK2 (φ : α → β → Prop) (F : α → β → List (Nat × Value)) (GF : α → β → List Own) (QF : α → β → List Pers) (hK : kept env ks = some envK) (hG : pickQ G is = some GK) (hQ : pickQ Q js = some QK)
    (hx : GC P (Exit.then (fun a w => ∃ y1 y2,φ y1 y2 ∧ St c n (F y1 y2 ++ envK) (GF y1 y2 ++ GK) (QF y1 y2 ++ QK) a w) R) x (St c n env G Q))
    (hz : ∀ y1 y2,φ y1 y2 → GC P R z (St c n (F y1 y2 ++ envK) (GF y1 y2 ++ GK) (QF y1 y2 ++ QK))) : GC P R (.seq x z) (St c n env G Q) :=
  GC.seq hx fun a w ⟨y1,y2,hp,h⟩ => hz y1 y2 hp a w h
theorem GC.joinK3 (φ : α → β → γ → Prop) (F : α → β → γ → List (Nat × Value)) (GF : α → β → γ → List Own) (QF : α → β → γ → List Pers) (hK : kept env ks = some envK) (hG : pickQ G is = some GK) (hQ : pickQ Q js = some QK)
    (hx : GC P (Exit.then (fun a w => ∃ y1 y2 y3,φ y1 y2 y3 ∧ St c n (F y1 y2 y3 ++ envK) (GF y1 y2 y3 ++ GK) (QF y1 y2 y3 ++ QK) a w) R) x (St c n env G Q))
    (hz : ∀ y1 y2 y3,φ y1 y2 y3 → GC P R z (St c n (F y1 y2 y3 ++ envK) (GF y1 y2 y3 ++ GK) (QF y1 y2 y3 ++ QK))) : GC P R (.seq x z) (St c n env G Q) :=
  GC.seq hx fun a w ⟨y1,y2,y3,hp,h⟩ => hz y1 y2 y3 hp a w h
theorem St.reval {i : Nat} {v v' : Value} (h : St c n env G Q a w) (hi : look env i = some v) (hv : v = v') : St c n ((i,v') :: env) G Q a w := by
  obtain ⟨S,he,hh,hr⟩ := h
  subst hv
  exact ⟨S,he.over hi,hh,hr⟩
theorem GL.reval {ops : Array Oper} {rest : List Oper} (i : Nat) {v v' : Value} (hi : look env i = some v) (hv : v = v') (k : GL P ops R rest (St c n ((i,v') :: env) G Q)) : GL P ops R rest (St c n env G Q) := GL.imp (fun a w h => h.reval hi hv) k
theorem GC.reval (i : Nat) {v v' : Value} (hi : look env i = some v) (hv : v = v') (k : GC P R x (St c n ((i,v') :: env) G Q)) : GC P R x (St c n env G Q) := GC.imp (fun a w h => h.reval hi hv) k
end
end Go.Sx
namespace Go.Proofs.YtliacpkblicnhaaGreat
open Go Go.Sx Go.Proofs
theorem zq12_ {X : Prop} (h : X := by (exact fun a w h => ⟨(()),trivial,by rw [decide_eq_false (show ¬ (m.kind = k.kind ∧ m.src = k.src ∧ m.dst = k.dst ∧ m.epoch = k.epoch ∧ m.view = k.view ∧ m.num = k.num ∧ m.commit = k.commit ∧ m.normal = k.normal ∧ m.nonce = k.nonce ∧ m.client = k.client ∧ m.serial = k.serial) by simp [*])]; exact h.ct [0,0] (up 0 16)⟩)) : X := h
theorem zq13_ {X : Prop} (h : X := by (first | (refine ⟨congrArg Value.bool (decide_eq_true ?_).symm,rfl,rfl⟩; simp_all [ms_ext,gr_ext,rs_ext]; done) | (refine ⟨congrArg Value.bool (decide_eq_false ?_).symm,rfl,rfl⟩; intro e; subst e; simp_all; done) | (refine ⟨congrArg Value.bool ?_,rfl,rfl⟩; rw [Bool.eq_iff_iff]; simp_all [ms_ext,gr_ext,rs_ext]; done))) : X := h
theorem rmsame_ct (m k : Msg) (s t : Lie) (hm : MsgLen m) : Ct Tryz.prog 12 [msgV m s,msgV k t] [] (msgQ m s ++ msgQ k t) (fun u G Q => u = .bool (decide (m = k)) ∧ G = [] ∧ Q = []) := by
 refine Ct.intro Tryz.func12 rfl rfl rfl (fun c hc => ?_)
 refine GC.sr_ ?_;refine GL.step rfl (t_box rfl rfl rfl) (GL.ex fun b_t2 => ?_);refine GL.step rfl (t_box rfl rfl rfl) (GL.ex fun b_t3 => ?_);refine GL.rz 1 ?_;refine GC.joinK1 (ks := [2,3,4]) (is := [0,1]) (js := (up 0 16)) (fun (u_ : Unit) => True) (fun (u_ : Unit) => [(5,.bool (decide (m.kind = k.kind ∧ m.src = k.src ∧ m.dst = k.dst ∧ m.epoch = k.epoch ∧ m.view = k.view ∧ m.num = k.num ∧ m.commit = k.commit ∧ m.normal = k.normal ∧ m.nonce = k.nonce ∧ m.client = k.client ∧ m.serial = k.serial)))]) (fun (u_ : Unit) => []) (fun (u_ : Unit) => []) rfl rfl rfl ?_ ?_
 ·refine GC.region ?_;refine GL.rn 1 ?_;refine GL.ld_ 1 ?_;refine GL.rn 1 ?_;refine GL.ld_ 0 ?_;refine GL.rn 2 ?_;refine GL.sp 11 ?_ ?_
  ·intro h1; try simp only [tst_] at h1
   refine GL.rn 1 ?_;refine GL.dg_ 1 ?_;refine GL.rn 1 ?_;refine GL.dg_ 0 ?_;refine GL.rn 3 ?_;refine GL.sp 18 ?_ ?_
   ·intro h2; try simp only [tst_] at h2
    refine GL.rn 1 ?_;refine GL.dg_ 1 ?_;refine GL.rn 1 ?_;refine GL.dg_ 0 ?_;refine GL.rn 3 ?_;refine GL.sp 25 ?_ ?_
    ·intro h3; try simp only [tst_] at h3
     refine GL.rn 1 ?_;refine GL.dg_ 1 ?_;refine GL.rn 1 ?_;refine GL.dg_ 0 ?_;refine GL.rn 3 ?_;refine GL.sp 32 ?_ ?_
     ·intro h4; try simp only [tst_] at h4
      refine GL.rn 1 ?_;refine GL.dg_ 1 ?_;refine GL.rn 1 ?_;refine GL.dg_ 0 ?_;refine GL.rn 3 ?_;refine GL.sp 39 ?_ ?_
      ·intro h5; try simp only [tst_] at h5
       refine GL.rn 1 ?_;refine GL.dg_ 1 ?_;refine GL.rn 1 ?_;refine GL.dg_ 0 ?_;refine GL.rn 3 ?_;refine GL.sp 46 ?_ ?_
       ·intro h6; try simp only [tst_] at h6
        refine GL.rn 1 ?_;refine GL.dg_ 1 ?_;refine GL.rn 1 ?_;refine GL.dg_ 0 ?_;refine GL.rn 3 ?_;refine GL.sp 53 ?_ ?_
        ·intro h7; try simp only [tst_] at h7
         refine GL.rn 1 ?_;refine GL.dg_ 1 ?_;refine GL.rn 1 ?_;refine GL.dg_ 0 ?_;refine GL.rn 3 ?_;refine GL.sp 60 ?_ ?_
         ·intro h8; try simp only [tst_] at h8
          refine GL.rn 1 ?_;refine GL.dg_ 1 ?_;refine GL.rn 1 ?_;refine GL.dg_ 0 ?_;refine GL.rn 3 ?_;refine GL.sp 67 ?_ ?_
          ·intro h9; try simp only [tst_] at h9
           refine GL.rn 1 ?_;refine GL.dg_ 1 ?_;refine GL.rn 1 ?_;refine GL.dg_ 0 ?_;refine GL.rn 3 ?_;refine GL.sp 74 ?_ ?_
           ·intro h10; try simp only [tst_] at h10
            refine GL.rn 1 ?_;refine GL.dg_ 1 ?_;refine GL.rn 1 ?_;refine GL.dg_ 0 ?_;refine GL.rn 3 ?_;refine GL.sp 5 ?_ ?_
            ·intro h11; try simp only [tst_] at h11
             refine GL.nil ?_
             exact fun a w h => ⟨(()),trivial,by rw [decide_eq_true (show m.kind = k.kind ∧ m.src = k.src ∧ m.dst = k.dst ∧ m.epoch = k.epoch ∧ m.view = k.view ∧ m.num = k.num ∧ m.commit = k.commit ∧ m.normal = k.normal ∧ m.nonce = k.nonce ∧ m.client = k.client ∧ m.serial = k.serial by simp [*])]; exact h.ct [0,0] (up 0 16)⟩
            intro h11; try simp only [tst_] at h11
            refine GL.nil ?_
            exact zq12_
           intro h10; try simp only [tst_] at h10
           refine GL.rn 7 ?_;refine GL.nil ?_
           exact zq12_
          intro h9; try simp only [tst_] at h9
          refine GL.rn 14 ?_;refine GL.nil ?_
          exact zq12_
         intro h8; try simp only [tst_] at h8
         refine GL.rn 21 ?_;refine GL.nil ?_
         exact zq12_
        intro h7; try simp only [tst_] at h7
        refine GL.rn 28 ?_;refine GL.nil ?_
        exact zq12_
       intro h6; try simp only [tst_] at h6
       refine GL.rn 35 ?_;refine GL.nil ?_
       exact zq12_
      intro h5; try simp only [tst_] at h5
      refine GL.rn 42 ?_;refine GL.nil ?_
      exact zq12_
     intro h4; try simp only [tst_] at h4
     refine GL.rn 49 ?_;refine GL.nil ?_
     exact zq12_
    intro h3; try simp only [tst_] at h3
    refine GL.rn 56 ?_;refine GL.nil ?_
    exact zq12_
   intro h2; try simp only [tst_] at h2
   refine GL.rn 63 ?_;refine GL.nil ?_
   exact zq12_
  intro h1; try simp only [tst_] at h1
  refine GL.rn 70 ?_;refine GL.nil ?_
  exact zq12_
 intro u_ hj1
 try dsimp only [List.cons_append,List.nil_append] at hj1 ⊢
 refine GC.rr 2 ?_;refine GL.sp 82 ?_ ?_
 ·intro h12; try simp only [tst_] at h12
  refine GL.rn 1 ?_;refine GL.lg_ 1 5 ?_;refine GL.rn 1 ?_;refine GL.lg_ 0 5 ?_;refine GL.stepG rfl (s := 82) rfl rfl (t_call rfl Tryz.call25 rfl (is := []) (js := [0,1,8,9]) rfl rfl (by exact rbsame_ct m.op k.op _ _ _ _ _ _ _ _)) (GL.ret ?_)
  rintro _ _ _ ⟨rfl,rfl,rfl⟩
  refine GL.rn 2 ?_;refine GL.sp 89 ?_ ?_
  ·intro h13; try simp only [tst_] at h13
   refine GL.rn 1 ?_;refine GL.lg_ 1 2 ?_;refine GL.rn 1 ?_;refine GL.lg_ 0 2 ?_;refine GL.stepG rfl (s := 89) rfl rfl (t_call rfl Tryz.call26 rfl (is := []) (js := [2,10]) rfl rfl (by exact srs_ct m.res k.res _ _ _ _)) (GL.ret ?_)
   rintro _ _ _ ⟨rfl,rfl,rfl⟩
   refine GL.rn 2 ?_;refine GL.sp 96 ?_ ?_
   ·intro h14; try simp only [tst_] at h14
    refine GL.rn 1 ?_;refine GL.lg_ 1 2 ?_;refine GL.rn 1 ?_;refine GL.lg_ 0 2 ?_;refine GL.stepG rfl (s := 96) rfl rfl (t_call rfl Tryz.call27 rfl (is := []) (js := [3,11]) rfl rfl (by exact rgsg_ct m.grp k.grp _ _ _ _ (by have := hm.g; omega))) (GL.ret ?_)
    rintro _ _ _ ⟨rfl,rfl,rfl⟩
    refine GL.rn 2 ?_;refine GL.sp 103 ?_ ?_
    ·intro h15; try simp only [tst_] at h15
     refine GL.rn 1 ?_;refine GL.lg_ 1 7 ?_;refine GL.rn 1 ?_;refine GL.lg_ 0 7 ?_;refine GL.stepG rfl (s := 103) rfl rfl (t_call rfl Tryz.call28 rfl (is := []) (js := [4,5,6,12,13,14]) rfl rfl (by exact rstt_ct m.stt k.stt _ _ _ _ _ _ _ _ _ _ _ _ (by have := hm.s.p; omega) (by have := hm.s.r; omega) (by have := hm.s.m; omega))) (GL.ret ?_)
     rintro _ _ _ ⟨rfl,rfl,rfl⟩
     refine GL.rn 2 ?_;refine GL.sp 110 ?_ ?_
     ·intro h16; try simp only [tst_] at h16
      refine GL.rn 1 ?_;refine GL.dg_ 1 ?_;refine GL.rn 1 ?_;refine GL.dg_ 0 ?_;refine GL.stepG rfl (s := 110) rfl rfl (t_call rfl Tryz.call29 rfl (is := []) (js := [7,15]) rfl rfl (by exact rens_ct _ m.log _ _ k.log _ (by have := hm.l; omega) hm.e)) (GL.ret ?_)
      rintro _ _ _ ⟨rfl,rfl,rfl⟩
      refine GL.rz 2 ?_;refine GC.ret (Fin.b1 4 [] [] ?_)
      exact zq13_
     intro h16; try simp only [tst_] at h16
     refine GL.rz 7 ?_;refine GC.ret (Fin.b1 4 [] [] ?_)
     exact zq13_
    intro h15; try simp only [tst_] at h15
    refine GL.rz 14 ?_;refine GC.ret (Fin.b1 4 [] [] ?_)
    exact zq13_
   intro h14; try simp only [tst_] at h14
   refine GL.rz 21 ?_;refine GC.ret (Fin.b1 4 [] [] ?_)
   exact zq13_
  intro h13; try simp only [tst_] at h13
  refine GL.rz 28 ?_;refine GC.ret (Fin.b1 4 [] [] ?_)
  exact zq13_
 intro h12; try simp only [tst_] at h12
 refine GL.rz 35 ?_;refine GC.ret (Fin.b1 4 [] [] ?_)
 exact zq13_
theorem mnum_ct (n : Int) : Ct Tryz.prog 156 [.int .i64 n] [] [] (fun v G Q => v = .bool (isNum n) ∧ G = [] ∧ Q = []) := by
 refine Ct.intro Tryz.func156 rfl rfl rfl (fun c hc => ?_)
 refine GC.rg 1 ?_;refine GC.rr 3 ?_;refine GL.sp 5 ?_ ?_
 ·intro h1; try simp only [tst_] at h1
  refine GL.rz 4 ?_;refine GC.ret (Fin.b1 2 [] [] ?_)
  refine ⟨congrArg Value.bool ?_,rfl,rfl⟩; simp [isNum]; omega
 intro h1; try simp only [tst_] at h1
 refine GL.rz 4 ?_;refine GC.ret (Fin.b1 2 [] [] ?_)
 refine ⟨congrArg Value.bool ?_,rfl,rfl⟩; simp [isNum]; omega
theorem zq14_ {X : Prop} (h : X := by (refine ⟨congrArg Value.bool ?_,rfl,rfl⟩; first | exact (decide_eq_true (by unfold who; omega)).symm | exact (decide_eq_false (by unfold who; omega)).symm | exact decide_eq_decide.2 (by unfold who; omega))) : X := h
theorem who_ct (n : Int) : Ct Tryz.prog 59 [.int .i64 n] [] [] (fun v G Q => v = .bool (decide (who n)) ∧ G = [] ∧ Q = []) := by
 refine Ct.intro Tryz.func59 rfl rfl rfl (fun c hc => ?_)
 refine GC.rg 1 ?_;refine GC.rr 3 ?_;refine GL.sp 5 ?_ ?_
 ·intro h1; try simp only [tst_] at h1
  refine GL.rz 4 ?_;refine GC.ret (Fin.b1 2 [] [] ?_)
  exact zq14_
 intro h1; try simp only [tst_] at h1
 refine GL.rz 4 ?_;refine GC.ret (Fin.b1 2 [] [] ?_)
 exact zq14_
theorem zq15_ {X : Prop} (h : X := by (refine ⟨congrArg Value.bool ?_,rfl,rfl⟩; first | exact (decide_eq_true (by unfold in62; omega)).symm | exact (decide_eq_false (by unfold in62; omega)).symm | exact decide_eq_decide.2 (by unfold in62; omega))) : X := h
theorem chk1_ct (n : Int) : Ct Tryz.prog 58 [.int .i64 n] [] [] (fun v G Q => v = .bool (decide (¬ in62 n)) ∧ G = [] ∧ Q = []) := by
 refine Ct.intro Tryz.func58 rfl rfl rfl (fun c hc => ?_)
 refine GC.rg 1 ?_;refine GC.rr 3 ?_;refine GL.sp 5 ?_ ?_
 ·intro h1; try simp only [tst_] at h1
  refine GL.rz 4 ?_;refine GC.ret (Fin.b1 2 [] [] ?_)
  exact zq15_
 intro h1; try simp only [tst_] at h1
 refine GL.rz 4 ?_;refine GC.ret (Fin.b1 2 [] [] ?_)
 exact zq15_
def entNums (e : Entry) : Prop := isNum e.num = true ∧ isNum e.client = true ∧ isNum e.serial = true ∧ in62 e.view
instance (e : Entry) : Decidable (entNums e) := by unfold entNums; infer_instance
def entRest (e : Entry) : Prop := (e.kind = 1 ∧ formD e.op ∧ e.grp.epoch = 0 ∧ e.grp.members.length = 0) ∨ (e.kind = 2 ∧ e.op = zop ∧ groupOk e.grp.epoch e.grp.members = true ∧ e.view < 4611686018427387904)
instance (e : Entry) : Decidable (entRest e) := by unfold entRest; infer_instance
theorem entE_eq (e : Entry) : entE e = if entNums e ∧ entRest e then 0 else 71 := by
  unfold entE entOk entNums entRest
  congr 1
  simp only [eq_iff_iff,and_assoc]
theorem entE_yes {e : Entry} (h : entNums e ∧ entRest e) : entE e = 0 := by rw [entE_eq,if_pos h]
theorem entE_no {e : Entry} (h : ¬ (entNums e ∧ entRest e)) : entE e = 71 := by rw [entE_eq,if_neg h]
theorem zq16_ {X : Prop} (h : X := by (exact fun a w h => ⟨(()),trivial,by rw [decide_eq_false (show ¬ (entNums e) by simp only [entNums,in62]; simp_all; try omega)]; exact h.ct [0] [0,1,2]⟩)) : X := h
theorem zq17_ {X : Prop} (h : X := by (exact fun a w h => ⟨(()),trivial,by rw [decide_eq_true (show entNums e ∧ entRest e by simp only [entRest,formD]; simp_all; try omega)]; exact h.ct [0] [0,1,2]⟩)) : X := h
theorem zq18_ {X : Prop} (h : X := by (exact fun a w h => ⟨(()),trivial,by rw [decide_eq_false (show ¬ (entNums e ∧ entRest e) by simp only [entRest,formD]; simp_all; try omega)]; exact h.ct [0] [0,1,2]⟩)) : X := h
theorem zq19_ {X : Prop} (h : X := by (first | exact ⟨by rw [entE_yes (by assumption)]; rfl,rfl,rfl⟩ | exact ⟨by rw [entE_no (by assumption)]; rfl,rfl,rfl⟩)) : X := h
theorem ment_ct (e : Entry) (A : Option Addr) (cp : Nat) (B : Option Addr) (cq : Nat) (C : Option Addr) (cr : Nat) (hl : e.grp.members.length ≤ 140737488355328) : Ct Tryz.prog 101 [entV e A cp B cq C cr] [] (entQ e A B C) (fun u G Q => u = .int .i64 (entE e) ∧ G = [] ∧ Q = []) := by
 refine Ct.intro Tryz.func101 rfl rfl rfl (fun c hc => ?_)
 refine GC.sr_ ?_;refine GL.step rfl (t_box rfl rfl rfl) (GL.ex fun b_t1 => ?_);refine GL.rz 1 ?_;refine GC.joinK1 (ks := [1,2]) (is := [0]) (js := [0,1,2]) (fun (u_ : Unit) => True) (fun (u_ : Unit) => [(3,.bool (decide (entNums e)))]) (fun (u_ : Unit) => []) (fun (u_ : Unit) => []) rfl rfl rfl ?_ ?_
 ·refine GC.region ?_;refine GL.rn 1 ?_;refine GL.ld_ 0 ?_;refine GL.cl Tryz.call156 [] [] rfl rfl rfl (by exact mnum_ct _) ?_
  rintro _ _ _ ⟨rfl,rfl,rfl⟩
  refine GL.rn 1 ?_;refine GL.sp 7 ?_ ?_
  ·intro h1; try simp only [tst_,formE_iff,grpE_iff] at h1
   refine GL.rn 1 ?_;refine GL.dg_ 0 ?_;refine GL.stepG rfl (s := 7) rfl rfl (t_call rfl Tryz.call156 rfl (is := []) (js := []) rfl rfl (by exact mnum_ct _)) (GL.ret ?_)
   rintro _ _ _ ⟨rfl,rfl,rfl⟩
   refine GL.rn 2 ?_;refine GL.sp 12 ?_ ?_
   ·intro h2; try simp only [tst_,formE_iff,grpE_iff] at h2
    refine GL.rn 1 ?_;refine GL.dg_ 0 ?_;refine GL.stepG rfl (s := 12) rfl rfl (t_call rfl Tryz.call156 rfl (is := []) (js := []) rfl rfl (by exact mnum_ct _)) (GL.ret ?_)
    rintro _ _ _ ⟨rfl,rfl,rfl⟩
    refine GL.rn 2 ?_;refine GL.sp 17 ?_ ?_
    ·intro h3; try simp only [tst_,formE_iff,grpE_iff] at h3
     refine GL.rn 1 ?_;refine GL.dg_ 0 ?_;refine GL.rn 3 ?_;refine GL.sp 22 ?_ ?_
     ·intro h4; try simp only [tst_,formE_iff,grpE_iff] at h4
      refine GL.rn 1 ?_;refine GL.dg_ 0 ?_;refine GL.rn 3 ?_;refine GL.sp 3 ?_ ?_
      ·intro h5; try simp only [tst_,formE_iff,grpE_iff] at h5
       refine GL.nil ?_
       exact fun a w h => ⟨(()),trivial,by rw [decide_eq_true (show entNums e by simp only [entNums,in62]; simp_all; try omega)]; exact h.ct [0] [0,1,2]⟩
      intro h5; try simp only [tst_,formE_iff,grpE_iff] at h5
      refine GL.nil ?_
      exact zq16_
     intro h4; try simp only [tst_,formE_iff,grpE_iff] at h4
     refine GL.rn 5 ?_;refine GL.nil ?_
     exact zq16_
    intro h3; try simp only [tst_,formE_iff,grpE_iff] at h3
    refine GL.rn 10 ?_;refine GL.nil ?_
    exact zq16_
   intro h2; try simp only [tst_,formE_iff,grpE_iff] at h2
   refine GL.rn 15 ?_;refine GL.nil ?_
   exact zq16_
  intro h1; try simp only [tst_,formE_iff,grpE_iff] at h1
  refine GL.rn 20 ?_;refine GL.nil ?_
  exact zq16_
 intro u_ hj1
 try dsimp only [List.cons_append,List.nil_append] at hj1 ⊢
 refine GC.joinK1 (ks := [2]) (is := [0]) (js := [0,1,2]) (fun (u_ : Unit) => True) (fun (u_ : Unit) => [(3,.bool (decide (entNums e ∧ entRest e)))]) (fun (u_ : Unit) => []) (fun (u_ : Unit) => []) rfl rfl rfl ?_ ?_
 ·refine GC.rr 1 ?_;refine GL.ld_ 0 ?_;refine GL.nl_ ?_;refine GC.block ?_;refine GC.rg 2 ?_;refine GC.co ?_ ?_
  ·intro h6; try simp only [tst_,formE_iff,grpE_iff] at h6
   refine GC.region ?_;refine GL.rn 2 ?_;refine GL.sp 32 ?_ ?_
   ·intro h7; try simp only [tst_,formE_iff,grpE_iff] at h7
    refine GL.rn 1 ?_;refine GL.lg_ 0 5 ?_;refine GL.stepG rfl (s := 32) rfl rfl (t_call rfl Tryz.call87 rfl (is := []) (js := []) rfl rfl (by exact form_ct e.op.kind e.op.at_ e.op.n _ e.op.data.length _ _ e.op.old.length _)) (GL.ret ?_)
    rintro _ _ _ ⟨rfl,rfl,rfl⟩
    refine GL.rn 3 ?_;refine GL.sp 38 ?_ ?_
    ·intro h8; try simp only [tst_,formE_iff,grpE_iff] at h8
     refine GL.rn 2 ?_;refine GL.dg_ 0 ?_;refine GL.rn 3 ?_;refine GL.sp 44 ?_ ?_
     ·intro h9; try simp only [tst_,formE_iff,grpE_iff] at h9
      refine GL.rn 2 ?_;refine GL.dg_ 0 ?_;refine GL.rn 4 ?_;refine GL.sp 3 ?_ ?_
      ·intro h10; try simp only [tst_,formE_iff,grpE_iff] at h10
       refine GL.nil ?_
       exact zq17_
      intro h10; try simp only [tst_,formE_iff,grpE_iff] at h10
      refine GL.nil ?_
      exact zq18_
     intro h9; try simp only [tst_,formE_iff,grpE_iff] at h9
     refine GL.rn 7 ?_;refine GL.nil ?_
     exact zq18_
    intro h8; try simp only [tst_,formE_iff,grpE_iff] at h8
    refine GL.rn 13 ?_;refine GL.nil ?_
    exact zq18_
   intro h7; try simp only [tst_,formE_iff,grpE_iff] at h7
   refine GL.rn 19 ?_;refine GL.nil ?_
   exact zq18_
  intro h6; try simp only [tst_,formE_iff,grpE_iff] at h6
  refine GC.rg 2 ?_;refine GC.co ?_ ?_
  ·intro h11; try simp only [tst_,formE_iff,grpE_iff] at h11
   refine GC.region ?_;refine GL.rn 2 ?_;refine GL.sp 54 ?_ ?_
   ·intro h12; try simp only [tst_,formE_iff,grpE_iff] at h12
    refine GL.rn 1 ?_;refine GL.lg_ 0 5 ?_;refine GL.pureG (s := 54) rfl rfl rfl (p_build ze_49 of_49 rfl rfl) ?_;refine GL.stepG rfl (s := 54) rfl rfl (t_call rfl Tryz.call92 rfl (is := []) (js := [0,1]) rfl rfl (by exact bzero_ct e.op _ _ _ _)) (GL.ret ?_)
    rintro _ _ _ ⟨rfl,rfl,rfl⟩
    refine GL.rn 2 ?_;refine GL.sp 60 ?_ ?_
    ·intro h13; try simp only [tst_,formE_iff,grpE_iff] at h13
     refine GL.rn 1 ?_;refine GL.lg_ 0 2 ?_;refine GL.stepG rfl (s := 60) rfl rfl (t_call rfl Tryz.call89 rfl (is := []) (js := [2]) rfl rfl (by exact mgroup_ct e.grp.epoch _ e.grp.members _ (by first | assumption | omega))) (GL.ret ?_)
     rintro _ _ _ ⟨rfl,rfl,rfl⟩
     refine GL.rn 3 ?_;refine GL.sp 66 ?_ ?_
     ·intro h14; try simp only [tst_,formE_iff,grpE_iff] at h14
      refine GL.rn 1 ?_;refine GL.dg_ 0 ?_;refine GL.rn 3 ?_;refine GL.sp 3 ?_ ?_
      ·intro h15; try simp only [tst_,formE_iff,grpE_iff] at h15
       refine GL.nil ?_
       exact zq17_
      intro h15; try simp only [tst_,formE_iff,grpE_iff] at h15
      refine GL.nil ?_
      exact zq18_
     intro h14; try simp only [tst_,formE_iff,grpE_iff] at h14
     refine GL.rn 5 ?_;refine GL.nil ?_
     exact zq18_
    intro h13; try simp only [tst_,formE_iff,grpE_iff] at h13
    refine GL.rn 11 ?_;refine GL.nil ?_
    exact zq18_
   intro h12; try simp only [tst_,formE_iff,grpE_iff] at h12
   refine GL.rn 17 ?_;refine GL.nil ?_
   exact zq18_
  intro h11; try simp only [tst_,formE_iff,grpE_iff] at h11
  refine GC.region ?_;refine GL.rn 1 ?_;refine GL.nil ?_
  exact zq18_
 intro u_ hj2
 try dsimp only [List.cons_append,List.nil_append] at hj2 ⊢
 refine GC.seq' ?_;refine GC.rg 2 ?_;refine GC.co ?_ ?_
 ·intro h16; try simp only [tst_,formE_iff,grpE_iff] at h16
  refine GC.rg 1 ?_;refine GC.ret (Fin.b1 2 [] [] ?_)
  exact zq19_
 intro h16; try simp only [tst_,formE_iff,grpE_iff] at h16
 refine GC.skip (?_ : GC _ _ _ _)
 refine GC.rg 1 ?_;refine GC.ret (Fin.b1 2 [] [] ?_)
 exact zq19_
theorem isNum_in {n : Int} (h : isNum n = true) : 1 ≤ n ∧ n ≤ 4611686018427387904 := by simp [isNum] at h; exact h
theorem lrow_ct (A : Option Addr) (l : List Entry) (cp : Nat) (hl : l.length ≤ 140737488355328) (hm : ∀ e ∈ l,EntLen e) : Ct Tryz.prog 145 [.slice A l.length cp] [] [Pers.row kEntry A l] (fun u G Q => u = .bool (decide (rowOkE l)) ∧ G = [] ∧ Q = []) := by
 refine Ct.intro Tryz.func145 rfl rfl rfl (fun c hc => ?_)
 refine GC.rg 1 ?_;refine GC.seq' ?_;refine GC.rg 3 ?_;refine GC.block ?_;refine GC.loopK1 (ks := [0,5,6]) (is := []) (js := [0]) (fun (k : Nat) => k ≤ l.length ∧ ∀ j : Nat,j < k → entOk (gt l (j : Int)) ∧ (0 < j → (gt l (j : Int)).num - 1 = (gt l ((j : Int) - 1)).num)) (fun (k : Nat) => [(7,.int .i64 (k : Int))]) (fun (k : Nat) => []) (fun (k : Nat) => []) (fun (k : Nat) => l.length - k) (0) rfl rfl rfl (fun a w h => ⟨⟨by omega,fun j hj => by omega⟩,h.cutK (is := []) (js := [0]) (ks := [0,5,6]) ⟨rfl,trivial⟩ rfl rfl rfl⟩) ?_
 intro k hk
 try dsimp only [List.cons_append,List.nil_append] at hk ⊢
 obtain ⟨hk,hall⟩ := hk
 refine GC.rg 1 ?_;refine GC.seq' ?_;refine GC.co ?_ ?_
 ·intro h1; try simp only [tst_,entE_iff] at h1
  first
  | (exfalso; omega)
  |(skip
    refine GC.skip (?_ : GC _ _ _ _)
    refine GC.seq' ?_;refine GC.block ?_;refine GC.rr 1 ?_;refine GL.step rfl (t_index (i := 0) rfl rfl rfl rfl Tryz.underlying62 sz_97 (by first | omega | (have := isNum_in (show entOk (gt l ((k + 1 : Nat) : Int)) from by assumption).1; dsimp only; omega)) (gt_ok (by first | omega | (have := isNum_in (show entOk (gt l ((k + 1 : Nat) : Int)) from by assumption).1; dsimp only; omega)) (by first | omega | (have := isNum_in (show entOk (gt l ((k + 1 : Nat) : Int)) from by assumption).1; dsimp only; omega)))) (GL.ex fun p_x10 => GL.ex fun r_x10 => GL.and fun ok_x10 => ?_)
    rcases r_x10 with ⟨_,⟨_,⟨_,⟨_,⟨_,⟨⟨_,⟨_,⟨_,⟨⟨Ax10_0,cpx10_0⟩,⟨Ax10_1,cpx10_1⟩⟩⟩⟩⟩,⟨_,⟨Ax10_2,cpx10_2⟩⟩⟩⟩⟩⟩⟩⟩
    refine GL.step rfl (t_mem rfl (m_loadPN (i := 0) rfl rfl ag_97 (vs := [_,_,_,_,_,_,_,_,_,_,_,_]) sz_97 ⟨rfl,rfl,rfl,rfl,rfl,rfl,rfl,rfl,rfl,rfl,rfl,rfl,trivial⟩)) ?_;refine GL.step rfl (t_alloc rfl ze_97) (GL.ex fun b_t4 => ?_)
    refine GL.rn 1 ?_;refine GL.sn_ 0 ?_;refine GL.nl_ ?_;refine GC.seq' ?_
    have hme := (hm _ (gt_elem (l := l) (k := k) (by omega))).m
    have hml : (gt l (k : Int)).grp.members.length ≤ 140737488355328 := by omega
    rcases k with _ | k
    ·skip
     refine GC.regionQ wide_ (by kernel_rfl) ?_;refine GQ.step rfl (q_mem (m_loadN (i := 0) rfl rfl ag_97 (vs := [_,_,_,_,_,_,_,_,_,_,_,_]) sz_97 ⟨rfl,rfl,rfl,rfl,rfl,rfl,rfl,rfl,rfl,rfl,rfl,rfl,trivial⟩)) ?_
     refine GQ.step rfl (q_call Tryz.call101 rfl (js := [1,2,3]) rfl (by exact ment_ct (gt l (_ : Int)) _ _ _ _ _ _ (by first | assumption | omega))) ?_;refine GQ.rn 2 ?_;refine GQ.split (i := 15) rfl (fun h2 => ?_) (fun h2 => ?_)
     ·try simp only [tst_,entE_iff] at h2
      first
      | (exfalso; omega)
      |(skip
        refine GQ.rn 3 ?_
        iterate 10 refine GQ.passU (s := 18) rfl rfl rfl ?_
        refine GQ.rn 2 ?_
        refine GQ.nil (?_ : GC _ _ _ _)
        refine GC.cond_true rfl ?_;refine GC.rg 1 ?_;refine GC.ret (Fin.b1 2 [] [] ?_)
        exact ⟨congrArg Value.bool (decide_eq_false fun H => by first | exact absurd (H 0 (by omega)).1 (by assumption) | exact absurd (H (k + 1) (by omega)).1 (by assumption) | exact absurd ((H (k + 1) (by omega)).2 (by omega)) (by assumption)).symm,rfl,rfl⟩)
     try simp only [tst_,entE_iff] at h2
     first
     | (exfalso; omega)
     |(skip
       refine GQ.rn 3 ?_;refine GQ.split (i := 18) rfl (fun h3 => ?_) (fun h3 => ?_)
       ·try simp only [tst_,entE_iff] at h3
        first
        | (exfalso; omega)
        |(skip
          refine GQ.rn 1 ?_;refine GQ.stepG (s := 18) rfl rfl rfl (q_mem (m_load (i := 0) rfl rfl ag_3 rfl)) ?_;refine GQ.stepG (s := 18) rfl rfl rfl (q_pure (p_sub rfl rfl (w64 (by first | omega | (have := isNum_in (show entOk (gt l ((k + 1 : Nat) : Int)) from by assumption).1; dsimp only; omega)) (by first | omega | (have := isNum_in (show entOk (gt l ((k + 1 : Nat) : Int)) from by assumption).1; dsimp only; omega))))) ?_
          refine GQ.rn 2 ?_;refine GQ.stepG (s := 18) rfl rfl rfl (q_pure (p_sub rfl rfl (w64 (by first | omega | (have := isNum_in (show entOk (gt l ((k + 1 : Nat) : Int)) from by assumption).1; dsimp only; omega)) (by first | omega | (have := isNum_in (show entOk (gt l ((k + 1 : Nat) : Int)) from by assumption).1; dsimp only; omega))))) ?_
          exact (by omega : False).elim)
       try simp only [tst_,entE_iff] at h3
       first
       | (exfalso; omega)
       |(skip
         refine GQ.rn 12 ?_
         refine GQ.nil (?_ : GC _ _ _ _)
         refine GC.cond_false rfl ?_
         refine GC.skip (?_ : GC _ _ _ _)
         refine GC.region ?_;refine GL.pure rfl (p_add rfl rfl (w64 (by first | omega | (have := isNum_in (show entOk (gt l ((k + 1 : Nat) : Int)) from by assumption).1; dsimp only; omega)) (by first | omega | (have := isNum_in (show entOk (gt l ((k + 1 : Nat) : Int)) from by assumption).1; dsimp only; omega)))) ?_
         refine GL.rn 1 ?_;refine GL.nil ?_
         exact fun a w h => ⟨(_ + 1),(by omega),⟨by omega,fun j hj => (Nat.lt_succ_iff_lt_or_eq.1 hj).elim (hall j) (fun e => by subst e; exact ⟨by assumption,fun _ => by first | omega | assumption⟩)⟩,h.cut (is := []) (js := [4]) ⟨rfl,rfl,rfl,rfl,trivial⟩ rfl rfl⟩))
    skip
    refine GC.lay (x := .const (.slice A l.length cp)) (y := .const (.int .i64 (((k + 1 : Nat) : Int) - 1))) (j := 4) rfl rfl rfl (by first | omega | (have := isNum_in (show entOk (gt l ((k + 1 : Nat) : Int)) from by assumption).1; dsimp only; omega)) (gt_ok (by first | omega | (have := isNum_in (show entOk (gt l ((k + 1 : Nat) : Int)) from by assumption).1; dsimp only; omega)) (by first | omega | (have := isNum_in (show entOk (gt l ((k + 1 : Nat) : Int)) from by assumption).1; dsimp only; omega))) (fun p_xp r_xp hA_xp ok_xp => ?_)
    rcases r_xp with ⟨_,⟨_,⟨_,⟨_,⟨_,⟨⟨_,⟨_,⟨_,⟨⟨Axp_0,cpxp_0⟩,⟨Axp_1,cpxp_1⟩⟩⟩⟩⟩,⟨_,⟨Axp_2,cpxp_2⟩⟩⟩⟩⟩⟩⟩⟩
    refine GC.regionQ wide_ (by kernel_rfl) ?_;refine GQ.step rfl (q_mem (m_loadN (i := 0) rfl rfl ag_97 (vs := [_,_,_,_,_,_,_,_,_,_,_,_]) sz_97 ⟨rfl,rfl,rfl,rfl,rfl,rfl,rfl,rfl,rfl,rfl,rfl,rfl,trivial⟩)) ?_
    refine GQ.step rfl (q_call Tryz.call101 rfl (js := [5,6,7]) rfl (by exact ment_ct (gt l (_ : Int)) _ _ _ _ _ _ (by first | assumption | omega))) ?_;refine GQ.rn 2 ?_;refine GQ.split (i := 15) rfl (fun h4 => ?_) (fun h4 => ?_)
    ·try simp only [tst_,entE_iff] at h4
     first
     | (exfalso; omega)
     |(skip
       refine GQ.rn 3 ?_
       iterate 10 refine GQ.passU (s := 18) rfl rfl rfl ?_
       refine GQ.rn 2 ?_
       refine GQ.nil (?_ : GC _ _ _ _)
       refine GC.cond_true rfl ?_;refine GC.rg 1 ?_;refine GC.ret (Fin.b1 2 [] [] ?_)
       exact ⟨congrArg Value.bool (decide_eq_false fun H => by first | exact absurd (H 0 (by omega)).1 (by assumption) | exact absurd (H (k + 1) (by omega)).1 (by assumption) | exact absurd ((H (k + 1) (by omega)).2 (by omega)) (by assumption)).symm,rfl,rfl⟩)
    try simp only [tst_,entE_iff] at h4
    first
    | (exfalso; omega)
    |(skip
      refine GQ.rn 3 ?_;refine GQ.split (i := 18) rfl (fun h5 => ?_) (fun h5 => ?_)
      ·try simp only [tst_,entE_iff] at h5
       first
       | (exfalso; omega)
       |(skip
         refine GQ.rn 1 ?_;refine GQ.stepG (s := 18) rfl rfl rfl (q_mem (m_load (i := 0) rfl rfl ag_3 rfl)) ?_;refine GQ.stepG (s := 18) rfl rfl rfl (q_pure (p_sub rfl rfl (w64 (by first | omega | (have := isNum_in (show entOk (gt l ((k + 1 : Nat) : Int)) from by assumption).1; dsimp only; omega)) (by first | omega | (have := isNum_in (show entOk (gt l ((k + 1 : Nat) : Int)) from by assumption).1; dsimp only; omega))))) ?_
         refine GQ.rn 2 ?_;refine GQ.stepG (s := 18) rfl rfl rfl (q_pure (p_sub rfl rfl (w64 (by first | omega | (have := isNum_in (show entOk (gt l ((k + 1 : Nat) : Int)) from by assumption).1; dsimp only; omega)) (by first | omega | (have := isNum_in (show entOk (gt l ((k + 1 : Nat) : Int)) from by assumption).1; dsimp only; omega))))) ?_
         refine GQ.stepG (s := 18) rfl rfl rfl (q_pure (p_indexL hA_xp rfl rfl Tryz.underlying62 sz_97 (by first | omega | (have := isNum_in (show entOk (gt l ((k + 1 : Nat) : Int)) from by assumption).1; dsimp only; omega)) (by first | omega | (have := isNum_in (show entOk (gt l ((k + 1 : Nat) : Int)) from by assumption).1; dsimp only; omega)))) ?_
         refine GQ.stepG (s := 18) rfl rfl rfl (q_pure (p_fieldAddr' fo_97_1 rfl)) ?_;refine GQ.stepG (s := 18) rfl rfl rfl (q_mem (m_loadP (i := 0) rfl rfl ag_3 rfl)) ?_;refine GQ.rn 3 ?_
         refine GQ.nil (?_ : GC _ _ _ _)
         refine GC.co ?_ ?_
         ·intro h6; try simp only [tst_,entE_iff] at h6
          first
          | (exfalso; omega)
          |(skip
            refine GC.rg 1 ?_;refine GC.ret (Fin.b1 2 [] [] ?_)
            exact ⟨congrArg Value.bool (decide_eq_false fun H => by first | exact absurd (H 0 (by omega)).1 (by assumption) | exact absurd (H (k + 1) (by omega)).1 (by assumption) | exact absurd ((H (k + 1) (by omega)).2 (by omega)) (by assumption)).symm,rfl,rfl⟩)
         intro h6; try simp only [tst_,entE_iff] at h6
         first
         | (exfalso; omega)
         |(skip
           refine GC.skip (?_ : GC _ _ _ _)
           refine GC.region ?_;refine GL.pure rfl (p_add rfl rfl (w64 (by first | omega | (have := isNum_in (show entOk (gt l ((k + 1 : Nat) : Int)) from by assumption).1; dsimp only; omega)) (by first | omega | (have := isNum_in (show entOk (gt l ((k + 1 : Nat) : Int)) from by assumption).1; dsimp only; omega)))) ?_
           refine GL.rn 1 ?_;refine GL.nil ?_
           exact fun a w h => ⟨(_ + 1),(by omega),⟨by omega,fun j hj => (Nat.lt_succ_iff_lt_or_eq.1 hj).elim (hall j) (fun e => by subst e; exact ⟨by assumption,fun _ => by first | omega | assumption⟩)⟩,h.cut (is := []) (js := [8]) ⟨rfl,rfl,rfl,rfl,trivial⟩ rfl rfl⟩))
      try simp only [tst_,entE_iff] at h5
      first
      | (exfalso; omega)
      |(skip
        refine GQ.rn 12 ?_
        refine GQ.nil (?_ : GC _ _ _ _)
        refine GC.cond_false rfl ?_
        refine GC.skip (?_ : GC _ _ _ _)
        refine GC.region ?_;refine GL.pure rfl (p_add rfl rfl (w64 (by first | omega | (have := isNum_in (show entOk (gt l ((k + 1 : Nat) : Int)) from by assumption).1; dsimp only; omega)) (by first | omega | (have := isNum_in (show entOk (gt l ((k + 1 : Nat) : Int)) from by assumption).1; dsimp only; omega)))) ?_
        refine GL.rn 1 ?_;refine GL.nil ?_
        exact fun a w h => ⟨(_ + 1),(by omega),⟨by omega,fun j hj => (Nat.lt_succ_iff_lt_or_eq.1 hj).elim (hall j) (fun e => by subst e; exact ⟨by assumption,fun _ => by first | omega | assumption⟩)⟩,h.cut (is := []) (js := [8]) ⟨rfl,rfl,rfl,rfl,trivial⟩ rfl rfl⟩)))
 intro h1; try simp only [tst_,entE_iff] at h1
 first
 | (exfalso; omega)
 |(skip
   refine GC.exit (?_ : GC _ _ _ _)
   refine GC.rg 1 ?_;refine GC.ret (Fin.b1 2 [] [] ?_)
   exact ⟨congrArg Value.bool (decide_eq_true fun j hj => hall j (by omega)).symm,rfl,rfl⟩)
theorem wrow_ct (A : Option Addr) (l : List Entry) (cp : Nat) (hl : l.length ≤ 140737488355328) (hm : ∀ e ∈ l,EntLen e) : Ct Tryz.prog 91 [.slice A l.length cp] [] [Pers.row kEntry A l] (fun u G Q => u = .bool (decide (rowOkE l)) ∧ G = [] ∧ Q = []) := by
 refine Ct.intro Tryz.func91 rfl rfl rfl (fun c hc => ?_)
 refine GC.rg 1 ?_;refine GC.seq' ?_;refine GC.rg 3 ?_;refine GC.block ?_;refine GC.loopK1 (ks := [0,5,6]) (is := []) (js := [0]) (fun (k : Nat) => k ≤ l.length ∧ ∀ j : Nat,j < k → entOk (gt l (j : Int)) ∧ (0 < j → (gt l (j : Int)).num - 1 = (gt l ((j : Int) - 1)).num)) (fun (k : Nat) => [(7,.int .i64 (k : Int))]) (fun (k : Nat) => []) (fun (k : Nat) => []) (fun (k : Nat) => l.length - k) (0) rfl rfl rfl (fun a w h => ⟨⟨by omega,fun j hj => by omega⟩,h.cutK (is := []) (js := [0]) (ks := [0,5,6]) ⟨rfl,trivial⟩ rfl rfl rfl⟩) ?_
 intro k hk
 try dsimp only [List.cons_append,List.nil_append] at hk ⊢
 obtain ⟨hk,hall⟩ := hk
 refine GC.rg 1 ?_;refine GC.seq' ?_;refine GC.co ?_ ?_
 ·intro h1; try simp only [tst_,entE_iff] at h1
  first
  | (exfalso; omega)
  |(skip
    refine GC.skip (?_ : GC _ _ _ _)
    refine GC.seq' ?_;refine GC.block ?_;refine GC.rr 1 ?_;refine GL.step rfl (t_index (i := 0) rfl rfl rfl rfl Tryz.underlying62 sz_97 (by first | omega | (have := isNum_in (show entOk (gt l ((k + 1 : Nat) : Int)) from by assumption).1; dsimp only; omega)) (gt_ok (by first | omega | (have := isNum_in (show entOk (gt l ((k + 1 : Nat) : Int)) from by assumption).1; dsimp only; omega)) (by first | omega | (have := isNum_in (show entOk (gt l ((k + 1 : Nat) : Int)) from by assumption).1; dsimp only; omega)))) (GL.ex fun p_x10 => GL.ex fun r_x10 => GL.and fun ok_x10 => ?_)
    rcases r_x10 with ⟨_,⟨_,⟨_,⟨_,⟨_,⟨⟨_,⟨_,⟨_,⟨⟨Ax10_0,cpx10_0⟩,⟨Ax10_1,cpx10_1⟩⟩⟩⟩⟩,⟨_,⟨Ax10_2,cpx10_2⟩⟩⟩⟩⟩⟩⟩⟩
    refine GL.step rfl (t_mem rfl (m_loadPN (i := 0) rfl rfl ag_97 (vs := [_,_,_,_,_,_,_,_,_,_,_,_]) sz_97 ⟨rfl,rfl,rfl,rfl,rfl,rfl,rfl,rfl,rfl,rfl,rfl,rfl,trivial⟩)) ?_;refine GL.step rfl (t_alloc rfl ze_97) (GL.ex fun b_t4 => ?_)
    refine GL.rn 1 ?_;refine GL.sn_ 0 ?_;refine GL.nl_ ?_;refine GC.seq' ?_
    have hme := (hm _ (gt_elem (l := l) (k := k) (by omega))).m
    have hml : (gt l (k : Int)).grp.members.length ≤ 140737488355328 := by omega
    rcases k with _ | k
    ·skip
     refine GC.regionQ wide_ (by kernel_rfl) ?_;refine GQ.step rfl (q_mem (m_loadN (i := 0) rfl rfl ag_97 (vs := [_,_,_,_,_,_,_,_,_,_,_,_]) sz_97 ⟨rfl,rfl,rfl,rfl,rfl,rfl,rfl,rfl,rfl,rfl,rfl,rfl,trivial⟩)) ?_
     refine GQ.step rfl (q_call Tryz.call101 rfl (js := [1,2,3]) rfl (by exact ment_ct (gt l (_ : Int)) _ _ _ _ _ _ (by first | assumption | omega))) ?_;refine GQ.rn 2 ?_;refine GQ.split (i := 15) rfl (fun h2 => ?_) (fun h2 => ?_)
     ·try simp only [tst_,entE_iff] at h2
      first
      | (exfalso; omega)
      |(skip
        refine GQ.rn 3 ?_
        iterate 10 refine GQ.passU (s := 18) rfl rfl rfl ?_
        refine GQ.rn 2 ?_
        refine GQ.nil (?_ : GC _ _ _ _)
        refine GC.cond_true rfl ?_;refine GC.rg 1 ?_;refine GC.ret (Fin.b1 2 [] [] ?_)
        exact ⟨congrArg Value.bool (decide_eq_false fun H => by first | exact absurd (H 0 (by omega)).1 (by assumption) | exact absurd (H (k + 1) (by omega)).1 (by assumption) | exact absurd ((H (k + 1) (by omega)).2 (by omega)) (by assumption)).symm,rfl,rfl⟩)
     try simp only [tst_,entE_iff] at h2
     first
     | (exfalso; omega)
     |(skip
       refine GQ.rn 3 ?_;refine GQ.split (i := 18) rfl (fun h3 => ?_) (fun h3 => ?_)
       ·try simp only [tst_,entE_iff] at h3
        first
        | (exfalso; omega)
        |(skip
          refine GQ.rn 1 ?_;refine GQ.stepG (s := 18) rfl rfl rfl (q_mem (m_load (i := 0) rfl rfl ag_3 rfl)) ?_;refine GQ.stepG (s := 18) rfl rfl rfl (q_pure (p_sub rfl rfl (w64 (by first | omega | (have := isNum_in (show entOk (gt l ((k + 1 : Nat) : Int)) from by assumption).1; dsimp only; omega)) (by first | omega | (have := isNum_in (show entOk (gt l ((k + 1 : Nat) : Int)) from by assumption).1; dsimp only; omega))))) ?_
          refine GQ.rn 2 ?_;refine GQ.stepG (s := 18) rfl rfl rfl (q_pure (p_sub rfl rfl (w64 (by first | omega | (have := isNum_in (show entOk (gt l ((k + 1 : Nat) : Int)) from by assumption).1; dsimp only; omega)) (by first | omega | (have := isNum_in (show entOk (gt l ((k + 1 : Nat) : Int)) from by assumption).1; dsimp only; omega))))) ?_
          exact (by omega : False).elim)
       try simp only [tst_,entE_iff] at h3
       first
       | (exfalso; omega)
       |(skip
         refine GQ.rn 12 ?_
         refine GQ.nil (?_ : GC _ _ _ _)
         refine GC.cond_false rfl ?_
         refine GC.skip (?_ : GC _ _ _ _)
         refine GC.region ?_;refine GL.pure rfl (p_add rfl rfl (w64 (by first | omega | (have := isNum_in (show entOk (gt l ((k + 1 : Nat) : Int)) from by assumption).1; dsimp only; omega)) (by first | omega | (have := isNum_in (show entOk (gt l ((k + 1 : Nat) : Int)) from by assumption).1; dsimp only; omega)))) ?_
         refine GL.rn 1 ?_;refine GL.nil ?_
         exact fun a w h => ⟨(_ + 1),(by omega),⟨by omega,fun j hj => (Nat.lt_succ_iff_lt_or_eq.1 hj).elim (hall j) (fun e => by subst e; exact ⟨by assumption,fun _ => by first | omega | assumption⟩)⟩,h.cut (is := []) (js := [4]) ⟨rfl,rfl,rfl,rfl,trivial⟩ rfl rfl⟩))
    skip
    refine GC.lay (x := .const (.slice A l.length cp)) (y := .const (.int .i64 (((k + 1 : Nat) : Int) - 1))) (j := 4) rfl rfl rfl (by first | omega | (have := isNum_in (show entOk (gt l ((k + 1 : Nat) : Int)) from by assumption).1; dsimp only; omega)) (gt_ok (by first | omega | (have := isNum_in (show entOk (gt l ((k + 1 : Nat) : Int)) from by assumption).1; dsimp only; omega)) (by first | omega | (have := isNum_in (show entOk (gt l ((k + 1 : Nat) : Int)) from by assumption).1; dsimp only; omega))) (fun p_xp r_xp hA_xp ok_xp => ?_)
    rcases r_xp with ⟨_,⟨_,⟨_,⟨_,⟨_,⟨⟨_,⟨_,⟨_,⟨⟨Axp_0,cpxp_0⟩,⟨Axp_1,cpxp_1⟩⟩⟩⟩⟩,⟨_,⟨Axp_2,cpxp_2⟩⟩⟩⟩⟩⟩⟩⟩
    refine GC.regionQ wide_ (by kernel_rfl) ?_;refine GQ.step rfl (q_mem (m_loadN (i := 0) rfl rfl ag_97 (vs := [_,_,_,_,_,_,_,_,_,_,_,_]) sz_97 ⟨rfl,rfl,rfl,rfl,rfl,rfl,rfl,rfl,rfl,rfl,rfl,rfl,trivial⟩)) ?_
    refine GQ.step rfl (q_call Tryz.call101 rfl (js := [5,6,7]) rfl (by exact ment_ct (gt l (_ : Int)) _ _ _ _ _ _ (by first | assumption | omega))) ?_;refine GQ.rn 2 ?_;refine GQ.split (i := 15) rfl (fun h4 => ?_) (fun h4 => ?_)
    ·try simp only [tst_,entE_iff] at h4
     first
     | (exfalso; omega)
     |(skip
       refine GQ.rn 3 ?_
       iterate 10 refine GQ.passU (s := 18) rfl rfl rfl ?_
       refine GQ.rn 2 ?_
       refine GQ.nil (?_ : GC _ _ _ _)
       refine GC.cond_true rfl ?_;refine GC.rg 1 ?_;refine GC.ret (Fin.b1 2 [] [] ?_)
       exact ⟨congrArg Value.bool (decide_eq_false fun H => by first | exact absurd (H 0 (by omega)).1 (by assumption) | exact absurd (H (k + 1) (by omega)).1 (by assumption) | exact absurd ((H (k + 1) (by omega)).2 (by omega)) (by assumption)).symm,rfl,rfl⟩)
    try simp only [tst_,entE_iff] at h4
    first
    | (exfalso; omega)
    |(skip
      refine GQ.rn 3 ?_;refine GQ.split (i := 18) rfl (fun h5 => ?_) (fun h5 => ?_)
      ·try simp only [tst_,entE_iff] at h5
       first
       | (exfalso; omega)
       |(skip
         refine GQ.rn 1 ?_;refine GQ.stepG (s := 18) rfl rfl rfl (q_mem (m_load (i := 0) rfl rfl ag_3 rfl)) ?_;refine GQ.stepG (s := 18) rfl rfl rfl (q_pure (p_sub rfl rfl (w64 (by first | omega | (have := isNum_in (show entOk (gt l ((k + 1 : Nat) : Int)) from by assumption).1; dsimp only; omega)) (by first | omega | (have := isNum_in (show entOk (gt l ((k + 1 : Nat) : Int)) from by assumption).1; dsimp only; omega))))) ?_
         refine GQ.rn 2 ?_;refine GQ.stepG (s := 18) rfl rfl rfl (q_pure (p_sub rfl rfl (w64 (by first | omega | (have := isNum_in (show entOk (gt l ((k + 1 : Nat) : Int)) from by assumption).1; dsimp only; omega)) (by first | omega | (have := isNum_in (show entOk (gt l ((k + 1 : Nat) : Int)) from by assumption).1; dsimp only; omega))))) ?_
         refine GQ.stepG (s := 18) rfl rfl rfl (q_pure (p_indexL hA_xp rfl rfl Tryz.underlying62 sz_97 (by first | omega | (have := isNum_in (show entOk (gt l ((k + 1 : Nat) : Int)) from by assumption).1; dsimp only; omega)) (by first | omega | (have := isNum_in (show entOk (gt l ((k + 1 : Nat) : Int)) from by assumption).1; dsimp only; omega)))) ?_
         refine GQ.stepG (s := 18) rfl rfl rfl (q_pure (p_fieldAddr' fo_97_1 rfl)) ?_;refine GQ.stepG (s := 18) rfl rfl rfl (q_mem (m_loadP (i := 0) rfl rfl ag_3 rfl)) ?_;refine GQ.rn 3 ?_
         refine GQ.nil (?_ : GC _ _ _ _)
         refine GC.co ?_ ?_
         ·intro h6; try simp only [tst_,entE_iff] at h6
          first
          | (exfalso; omega)
          |(skip
            refine GC.rg 1 ?_;refine GC.ret (Fin.b1 2 [] [] ?_)
            exact ⟨congrArg Value.bool (decide_eq_false fun H => by first | exact absurd (H 0 (by omega)).1 (by assumption) | exact absurd (H (k + 1) (by omega)).1 (by assumption) | exact absurd ((H (k + 1) (by omega)).2 (by omega)) (by assumption)).symm,rfl,rfl⟩)
         intro h6; try simp only [tst_,entE_iff] at h6
         first
         | (exfalso; omega)
         |(skip
           refine GC.skip (?_ : GC _ _ _ _)
           refine GC.region ?_;refine GL.pure rfl (p_add rfl rfl (w64 (by first | omega | (have := isNum_in (show entOk (gt l ((k + 1 : Nat) : Int)) from by assumption).1; dsimp only; omega)) (by first | omega | (have := isNum_in (show entOk (gt l ((k + 1 : Nat) : Int)) from by assumption).1; dsimp only; omega)))) ?_
           refine GL.rn 1 ?_;refine GL.nil ?_
           exact fun a w h => ⟨(_ + 1),(by omega),⟨by omega,fun j hj => (Nat.lt_succ_iff_lt_or_eq.1 hj).elim (hall j) (fun e => by subst e; exact ⟨by assumption,fun _ => by first | omega | assumption⟩)⟩,h.cut (is := []) (js := [8]) ⟨rfl,rfl,rfl,rfl,trivial⟩ rfl rfl⟩))
      try simp only [tst_,entE_iff] at h5
      first
      | (exfalso; omega)
      |(skip
        refine GQ.rn 12 ?_
        refine GQ.nil (?_ : GC _ _ _ _)
        refine GC.cond_false rfl ?_
        refine GC.skip (?_ : GC _ _ _ _)
        refine GC.region ?_;refine GL.pure rfl (p_add rfl rfl (w64 (by first | omega | (have := isNum_in (show entOk (gt l ((k + 1 : Nat) : Int)) from by assumption).1; dsimp only; omega)) (by first | omega | (have := isNum_in (show entOk (gt l ((k + 1 : Nat) : Int)) from by assumption).1; dsimp only; omega)))) ?_
        refine GL.rn 1 ?_;refine GL.nil ?_
        exact fun a w h => ⟨(_ + 1),(by omega),⟨by omega,fun j hj => (Nat.lt_succ_iff_lt_or_eq.1 hj).elim (hall j) (fun e => by subst e; exact ⟨by assumption,fun _ => by first | omega | assumption⟩)⟩,h.cut (is := []) (js := [8]) ⟨rfl,rfl,rfl,rfl,trivial⟩ rfl rfl⟩)))
 intro h1; try simp only [tst_,entE_iff] at h1
 first
 | (exfalso; omega)
 |(skip
   refine GC.exit (?_ : GC _ _ _ _)
   refine GC.rg 1 ?_;refine GC.ret (Fin.b1 2 [] [] ?_)
   exact ⟨congrArg Value.bool (decide_eq_true fun j hj => hall j (by omega)).symm,rfl,rfl⟩)
theorem joins_nil (n : Int) (cp : Nat) (A : Option Addr) : Ct Tryz.prog 146 [.int .i64 n,.slice A 0 cp] [] [] (fun u G Q => u = .bool true ∧ G = [] ∧ Q = []) := by
 refine Ct.intro Tryz.func146 rfl rfl rfl (fun c hc => ?_)
 refine GC.rg 1 ?_;refine GC.rr 4 ?_;refine GL.sp 8 ?_ ?_
 ·intro h1; try simp only [tst_] at h1
  refine GL.rz 9 ?_;refine GC.ret (Fin.b1 4 [] [] ?_)
  exact ⟨rfl,rfl,rfl⟩
 intro h1; try simp only [tst_] at h1
 exfalso; omega
theorem vload_ct (bl sz : Int) (A : Option Addr) (l : List Page) (cp : Nat) (hl : l.length ≤ 140737488355328) : Ct Tryz.prog 151 [shpV bl sz,.slice A l.length cp] [] [Pers.row kPage A l] (fun v G Q => (∃ x e,v = .tuple #[.pointer x,.int .i64 e] ∧ (e = 0 ↔ (shapeOk bl sz ∧ laidF bl sz (-1) l = true))) ∧ G = [] ∧ Q = []) := by
  by_cases h : shapeOk bl sz
  · cases hb : laidF bl sz (-1) l
    · exact Ct.drop (load_no bl sz A l cp h hl hb) fun v G Q h => ⟨_,_,h.1,by simp⟩
    · exact Ct.drop (load_ok bl sz A l cp h hl hb) fun v G Q ⟨p,pb,pv,h1,_⟩ => ⟨_,_,h1,by simp [h]⟩
  · exact Ct.drop (load_bad bl sz A l cp h) fun v G Q h1 => ⟨_,_,h1.1,by simp [h]⟩
theorem tload_ct (A : Option Addr) (l : List Row) (cp : Nat) (hl : l.length ≤ 140737488355328) : Ct Tryz.prog 152 [.slice A l.length cp] [] [Pers.row kRow A l] (fun v G Q => (∃ x e,v = .tuple #[.pointer x,.int .i64 e] ∧ (e = 0 ↔ rightF l = true)) ∧ G = [] ∧ Q = []) := by
  cases hb : rightF l
  · exact Ct.drop (tload_bad A l cp hl hb) fun v G Q h => ⟨_,_,h.1,by simp⟩
  · exact Ct.drop (tload_ok A l cp hl hb) fun v G Q h => by
      obtain ⟨_,_,_,_,h1,_⟩ := h
      exact ⟨_,_,h1,by simp⟩
theorem mown_ct (e : Int) (A : Option Addr) (l : List Int) (cp : Nat) (hl : l.length ≤ 17592186044416) : Ct Tryz.prog 155 [grpV e A l.length cp] [] [Pers.row kI A l] (fun u G Q => ∃ A' cp',u = grpV e A' l.length cp' ∧ G = [] ∧ Q = []) := by
 refine Ct.intro Tryz.func155 rfl rfl rfl (fun c hc => ?_)
 refine GC.sr_ ?_;refine GL.step rfl (t_box rfl rfl rfl) (GL.ex fun b_t1 => ?_);refine GL.step rfl (t_alloc rfl ze_55) (GL.ex fun b_t2 => ?_);refine GL.nr 1 ?_;refine GL.ld_ 1 ?_;refine GL.cl Tryz.call195 [] [0] rfl rfl rfl (by exact clone_i _ _ _ (by first | assumption | omega)) ?_
 rintro _ _ _ ⟨A5,cp5,l5,k5,rfl,rfl,rfl⟩
 refine GL.rn 1 ?_;refine GL.so_ 2 ?_;refine GL.nl_ ?_;refine GC.sr_ ?_;refine GL.ln_ 2 2 ?_;refine GL.sn_ 1 ?_;refine GL.nl_ ?_;refine GC.ret (Fin.c0 2 55 1 2 [] [] ?_)
 exact ⟨_,_,rfl,rfl,rfl⟩
abbrev sttL (s : Stt) (A : Option Addr) (cp : Nat) (B : Option Addr) (cq : Nat) (C : Option Addr) (cr : Nat) : List Value := [.int .i64 s.num,.int .i64 s.shp.bl,.int .i64 s.shp.sz,.slice A s.pages.length cp,.slice B s.rows.length cq,.int .i64 s.grp.epoch,.slice C s.grp.members.length cr]
theorem heldc_ct (b : Nat) (s : Stt) (A : Option Addr) (cp : Nat) (B : Option Addr) (cq : Nat) (C : Option Addr) (cr : Nat) (pg : Page) (D : Option Addr) (cd : Nat) : Ct Tryz.prog 154 [pageV pg D cd,.pointer (some ⟨b,0,none⟩)] [.cells b (sttL s A cp B cq C cr) 61] []
    (fun u G Q => u = .bool (decide (s.num < pg.ver)) ∧ G = [.cells b (sttL s A cp B cq C cr) 61] ∧ Q = []) := by
 refine Ct.intro Tryz.func154 rfl rfl rfl (fun c hc => ?_)
 refine GC.sr_ ?_;refine GL.step rfl (t_box rfl rfl rfl) (GL.ex fun b_t2 => ?_);refine GL.rz 1 ?_;refine GC.rr 1 ?_;refine GL.ld_ 0 ?_;refine GL.rn 1 ?_;refine GL.ld_ 1 ?_;refine GL.rz 2 ?_;refine GC.ret (Fin.b1 3 [1] [] ?_)
 exact ⟨rfl,rfl,rfl⟩
theorem zq20_ {X : Prop} (h : X := by (exact ⟨_,⟨fun g => by omega,fun g => absurd (fun p hp => by obtain ⟨j,hj,rfl⟩ := mem_gt hp; exact hall j (by omega)) g⟩,rfl,rfl,rfl⟩)) : X := h
theorem hidx_ct (b : Nat) (s : Stt) (A : Option Addr) (cp : Nat) (B : Option Addr) (cq : Nat) (C : Option Addr) (cr : Nat) (D : Option Addr) (l : List Page) (cd : Nat) (hl : l.length ≤ 140737488355328) : Ct Tryz.prog 194 [.slice D l.length cd,.func (.func 154) #[] #[.pointer (some ⟨b,0,none⟩)]] [.cells b (sttL s A cp B cq C cr) 61] [Pers.row kPage D l]
    (fun u G Q => ∃ i : Int,(0 ≤ i ↔ ¬ ∀ p ∈ l,p.ver ≤ s.num) ∧ u = .int .i64 i ∧ G = [.cells b (sttL s A cp B cq C cr) 61] ∧ Q = []) := by
 refine Ct.intro Tryz.func194 rfl rfl rfl (fun c hc => ?_)
 refine GC.rg 1 ?_;refine GC.seq' ?_;refine GC.rg 3 ?_;refine GC.block ?_;refine GC.loopK1 (ks := [0,1,7]) (is := [0]) (js := [0]) (fun (k : Nat) => k ≤ l.length ∧ ∀ j : Nat,j < k → (gt l (j : Int)).ver ≤ s.num) (fun (k : Nat) => [(8,.int .i64 (k : Int))]) (fun (k : Nat) => []) (fun (k : Nat) => []) (fun (k : Nat) => l.length - k) (0) rfl rfl rfl (fun a w h => ⟨⟨by omega,fun j hj => by omega⟩,h.cutK (is := [0]) (js := [0]) (ks := [0,1,7]) ⟨rfl,trivial⟩ rfl rfl rfl⟩) ?_
 intro k hk
 try dsimp only [List.cons_append,List.nil_append] at hk ⊢
 obtain ⟨hk,hall⟩ := hk
 refine GC.rg 1 ?_;refine GC.seq' ?_;refine GC.co ?_ ?_
 ·intro h1; try simp only [tst_] at h1
  refine GC.skip (?_ : GC _ _ _ _)
  refine GC.seq' ?_;refine GC.block ?_;refine GC.rg 2 ?_;refine GC.rr 3 ?_;refine GL.step rfl (t_index (i := 0) rfl rfl rfl rfl Tryz.underlying58 sz_164 (by omega) (gt_ok (by omega) (by omega))) (GL.ex fun p_x14 => GL.ex fun r_x14 => GL.and fun ok_x14 => ?_)
  rcases r_x14 with ⟨_,⟨_,⟨Ax14_0,cpx14_0⟩⟩⟩
  refine GL.step rfl (t_mem rfl (m_loadPN (i := 0) rfl rfl ag_164 (vs := [_,_,_]) sz_164 ⟨rfl,rfl,rfl,trivial⟩)) ?_;refine GL.step rfl (t_callv rfl Tryz.call154 rfl rfl (is := [0]) (js := []) rfl rfl (by exact heldc_ct _ s _ _ _ _ _ _ (gt l (k : Int)) _ _)) (GL.ret ?_)
  rintro _ _ _ ⟨rfl,rfl,rfl⟩
  refine GL.nl_ ?_;refine GC.co ?_ ?_
  ·intro h2; try simp only [tst_] at h2
   refine GC.rg 2 ?_;refine GC.ret (Fin.b1 4 [0] [] ?_)
   exact ⟨_,⟨fun _ H => by have := H _ (gt_elem (l := l) (k := k) (by omega)); omega,fun _ => by omega⟩,rfl,rfl,rfl⟩
  intro h2; try simp only [tst_] at h2
  refine GC.skip (?_ : GC _ _ _ _)
  refine GC.region ?_;refine GL.pure rfl (p_add rfl rfl (w64 (by omega) (by omega))) ?_;refine GL.rn 1 ?_;refine GL.nil ?_
  exact fun a w h => ⟨(k + 1),(by omega),⟨by omega,fun j hj => (Nat.lt_succ_iff_lt_or_eq.1 hj).elim (hall j) (fun e => by subst e; omega)⟩,h.ct [0] [2]⟩
 intro h1; try simp only [tst_] at h1
 refine GC.exit (?_ : GC _ _ _ _)
 refine GC.rg 1 ?_;refine GC.ret (Fin.b1 4 [0] [] ?_)
 exact zq20_
theorem hcon_ct (b : Nat) (s : Stt) (A : Option Addr) (cp : Nat) (B : Option Addr) (cq : Nat) (C : Option Addr) (cr : Nat) (D : Option Addr) (l : List Page) (cd : Nat) (hl : l.length ≤ 140737488355328) : Ct Tryz.prog 153 [.slice D l.length cd,.func (.func 154) #[] #[.pointer (some ⟨b,0,none⟩)]] [.cells b (sttL s A cp B cq C cr) 61] [Pers.row kPage D l]
    (fun u G Q => u = .bool (decide (¬ ∀ p ∈ l,p.ver ≤ s.num)) ∧ G = [.cells b (sttL s A cp B cq C cr) 61] ∧ Q = []) := by
 refine Ct.intro Tryz.func153 rfl rfl rfl (fun c hc => ?_)
 refine GC.rg 1 ?_;refine GC.rr 2 ?_;refine GL.cl Tryz.call194 [0] [0] rfl rfl rfl (by exact hidx_ct _ s _ _ _ _ _ _ _ _ _ hl) ?_
 rintro _ _ _ ⟨i7,hi7,rfl,rfl,rfl⟩
 refine GL.rz 2 ?_;refine GC.ret (Fin.b1 4 [0] [] ?_)
 exact ⟨congrArg Value.bool (decide_eq_decide.2 hi7),rfl,rfl⟩
theorem zq21_ {X : Prop} (h : X := by (first | exact ⟨_,congrArg (fun b => Value.tuple #[.pointer _,.bool b]) (decide_eq_false (fun H => by obtain ⟨⟨g1,g2⟩,g3,g4,g5,g6,g7⟩ := H; first | omega | contradiction | simp_all)).symm,rfl,rfl⟩ | exact ⟨_,congrArg (fun b => Value.tuple #[.pointer _,.bool b]) (decide_eq_true (⟨⟨by omega,by omega⟩,by assumption,(he27.1 (by assumption)).1,(he27.1 (by assumption)).2,he33.1 (by assumption),by simp_all⟩)).symm,rfl,rfl⟩)) : X := h
theorem held_ct (s : Stt) (A : Option Addr) (cp : Nat) (B : Option Addr) (cq : Nat) (C : Option Addr) (cr : Nat) (hs : SttLen s) : Ct Tryz.prog 98 [sttV s A cp B cq C cr] [] (sttQ s A B C) (fun u G Q => ∃ x,u = .tuple #[.pointer x,.bool (decide (heldOk s))] ∧ G = [] ∧ Q = []) := by
 obtain ⟨hp_,hr_,hm_,_,_⟩ := hs
 refine Ct.intro Tryz.func98 rfl rfl rfl (fun c hc => ?_)
 refine GC.sr_ ?_;refine GL.step rfl (t_box rfl rfl rfl) (GL.ex fun b_t1 => ?_);refine GL.rz 2 ?_;refine GC.seq' ?_;refine GC.rr 1 ?_;refine GL.ld_ 0 ?_;refine GL.rn 2 ?_;refine GL.sp 11 ?_ ?_
 ·intro h1; try simp only [tst_,grpE_iff] at h1
  refine GL.rz 10 ?_;refine GC.cond_true rfl ?_;refine GC.rg 2 ?_;refine GC.ret (Fin.b2 2 3 [] [] ?_)
  exact zq21_
 intro h1; try simp only [tst_,grpE_iff] at h1
 refine GL.rn 1 ?_;refine GL.dg_ 0 ?_;refine GL.rn 3 ?_;refine GL.sp 16 ?_ ?_
 ·intro h2; try simp only [tst_,grpE_iff] at h2
  refine GL.rz 5 ?_;refine GC.cond_true rfl ?_;refine GC.rg 2 ?_;refine GC.ret (Fin.b2 2 3 [] [] ?_)
  exact zq21_
 intro h2; try simp only [tst_,grpE_iff] at h2
 refine GL.rn 1 ?_;refine GL.lg_ 0 2 ?_;refine GL.stepG rfl (s := 16) rfl rfl (t_call rfl Tryz.call89 rfl (is := []) (js := [2]) rfl rfl (by exact mgroup_ct s.grp.epoch _ s.grp.members _ (by omega))) (GL.ret ?_)
 rintro _ _ _ ⟨rfl,rfl,rfl⟩
 refine GL.rz 2 ?_;refine GC.co ?_ ?_
 ·intro h3; try simp only [tst_,grpE_iff] at h3
  refine GC.rg 2 ?_;refine GC.ret (Fin.b2 2 3 [] [] ?_)
  exact zq21_
 intro h3; try simp only [tst_,grpE_iff] at h3
 refine GC.skip (?_ : GC _ _ _ _)
 refine GC.rr 1 ?_;refine GL.ln_ 0 2 ?_;refine GL.rn 1 ?_;refine GL.ld_ 0 ?_;refine GL.cl Tryz.call151 [] [0] rfl rfl rfl (by exact vload_ct s.shp.bl s.shp.sz _ s.pages _ (by omega)) ?_
 rintro _ _ _ ⟨⟨x27,e27,rfl,he27⟩,rfl,rfl⟩
 refine GL.rz 5 ?_;refine GC.rr 1 ?_;refine GL.ld_ 0 ?_;refine GL.cl Tryz.call152 [] [1] rfl rfl rfl (by exact tload_ct _ s.rows _ (by omega)) ?_
 rintro _ _ _ ⟨⟨x33,e33,rfl,he33⟩,rfl,rfl⟩
 refine GL.rz 5 ?_;refine GC.seq' ?_;refine GC.rr 3 ?_;refine GL.sp 38 ?_ ?_
 ·intro h4; try simp only [tst_,grpE_iff] at h4
  refine GL.rz 9 ?_;refine GC.cond_true rfl ?_;refine GC.rg 2 ?_;refine GC.ret (Fin.b2 2 3 [] [] ?_)
  exact zq21_
 intro h4; try simp only [tst_,grpE_iff] at h4
 refine GL.rn 4 ?_;refine GL.sp 42 ?_ ?_
 ·intro h5; try simp only [tst_,grpE_iff] at h5
  refine GL.rz 5 ?_;refine GC.cond_true rfl ?_;refine GC.rg 2 ?_;refine GC.ret (Fin.b2 2 3 [] [] ?_)
  exact zq21_
 intro h5; try simp only [tst_,grpE_iff] at h5
 refine GL.rn 1 ?_;refine GL.dg_ 0 ?_;refine GL.pureG (s := 42) rfl rfl rfl (p_makeFunc rfl rfl) ?_;refine GL.stepG rfl (s := 42) rfl rfl (t_call rfl Tryz.call153 rfl (is := [0]) (js := [0]) rfl rfl (by exact hcon_ct _ s _ _ _ _ _ _ _ s.pages _ (by omega))) (GL.ret ?_)
 rintro _ _ _ ⟨rfl,rfl,rfl⟩
 refine GL.rz 1 ?_;refine GC.co ?_ ?_
 ·intro h6; try simp only [tst_,grpE_iff] at h6
  refine GC.rg 2 ?_;refine GC.ret (Fin.b2 2 3 [] [] ?_)
  exact zq21_
 intro h6; try simp only [tst_,grpE_iff] at h6
 refine GC.skip (?_ : GC _ _ _ _)
 refine GC.seq' ?_;refine GC.regionC (m := 11) (is := [0]) (js := [0,1,2]) wide_ rfl rfl rfl ?_;refine GA.tk 0 [0] [0,1,2] ?_;refine GA.tp 1 rfl [0] [0,1,2] (i_mem (m_load (i := 0) rfl rfl ag_3 rfl)) ?_;refine GA.tk 2 [0] [0,1,2] ?_
 refine GA.tk 3 [0] [0,1,2] ?_;refine GA.tk 4 [0] [0,1,2] ?_;refine GA.tp 5 rfl [0] [0,1,2] (i_mem (m_loadN (i := 0) rfl rfl ag_55 (vs := [_,_]) sz_55 ⟨rfl,rfl,trivial⟩)) ?_;refine GA.al [6] ?_
 refine GAs.cons (i := 6) rfl rfl (t_call rfl Tryz.call155 rfl (is := []) (js := [2]) rfl rfl (by exact mown_ct s.grp.epoch _ s.grp.members _ (by omega))) (by rintro a w ⟨_,_,_,⟨A54,cp54,rfl,rfl,rfl⟩,h⟩; exact h.me [0] [0,1,2]) (GA.ret ?_) GAs.nil
 rintro _ _ _ ⟨A54,cp54,rfl,rfl,rfl⟩
 refine GA.tp 7 rfl [0] [0,1,2] (i_pure (p_build ze_229 of_229 rfl rfl)) ?_;refine GA.al [8] ?_
 refine GAs.cons (i := 8) rfl rfl (t_box rfl rfl rfl) (by rintro a w ⟨_,h⟩; exact h.me [1] [0,1,2]) (GA.ex fun b_t56 => ?_) GAs.nil
 refine GA.tk 9 [1] [0,1,2] ?_;refine GA.tk 10 [1] [0,1,2] ?_
 refine GA.done (by kernel_rfl) (?_ : GC _ _ _ _)
 refine GC.ret (Fin.b2 2 3 [] [] ?_)
 exact zq21_
theorem zq22_ {X : Prop} (h : X := by (first | (rw [if_pos (show heldOk s by assumption)]; exact ⟨_,rfl,rfl,rfl⟩) | (rw [if_neg (show ¬ heldOk s by assumption)]; exact ⟨_,rfl,rfl,rfl⟩))) : X := h
theorem mload_ct (s : Stt) (A : Option Addr) (cp : Nat) (B : Option Addr) (cq : Nat) (C : Option Addr) (cr : Nat) (hs : SttLen s) : Ct Tryz.prog 144 [sttV s A cp B cq C cr] [] (sttQ s A B C) (fun u G Q => ∃ x,u = .tuple #[.pointer x,.int .i64 (if heldOk s then 0 else 72)] ∧ G = [] ∧ Q = []) := by
 refine Ct.intro Tryz.func144 rfl rfl rfl (fun c hc => ?_)
 refine GC.sr_ ?_;refine GL.step rfl (t_box rfl rfl rfl) (GL.ex fun b_t1 => ?_);refine GL.rz 2 ?_;refine GC.sr_ ?_;refine GL.ln_ 0 7 ?_;refine GL.cl Tryz.call98 [] [0,1,2] rfl rfl rfl (by exact held_ct s _ _ _ _ _ _ hs) ?_
 rintro _ _ _ ⟨x8,rfl,rfl,rfl⟩
 refine GL.rz 5 ?_;refine GC.seq' ?_;refine GC.rg 2 ?_;refine GC.co ?_ ?_
 ·intro h1; try simp only [tst_] at h1
  refine GC.rg 2 ?_;refine GC.ret (Fin.b2 2 3 [] [] ?_)
  exact zq22_
 intro h1; try simp only [tst_] at h1
 refine GC.skip (?_ : GC _ _ _ _)
 refine GC.rg 3 ?_;refine GC.ret (Fin.b2 2 3 [] [] ?_)
 exact zq22_
theorem lrow_nil : Ct Tryz.prog 145 [.slice none 0 0] [] [] (fun u G Q => u = .bool true ∧ G = [] ∧ Q = []) :=
  Ct.free (q := Pers.row kEntry none []) (Ct.mono (lrow_ct none [] 0 (by simp) (by simp)) fun u G Q h => ⟨h.1.trans (congrArg Value.bool (decide_eq_true (fun k hk => by simp at hk))),h.2⟩) (fun _ _ => .inl rfl)
theorem ldE_iff (s : Stt) : ((if heldOk s then (0 : Int) else 72) = 0) = heldOk s := by split <;> simp_all
theorem zq23_ {X : Prop} (h : X := by (first | exact ⟨by rw [if_pos (show heldOk s by assumption)]; rfl,rfl,rfl⟩ | exact ⟨by rw [if_neg (show ¬ heldOk s by assumption)]; rfl,rfl,rfl⟩)) : X := h
theorem lchk_ct (s : Stt) (A : Option Addr) (cp : Nat) (B : Option Addr) (cq : Nat) (C : Option Addr) (cr : Nat) (hs : SttLen s) : Ct Tryz.prog 90 [.agg #[.int .i64 s.num,.int .i64 s.shp.bl,.int .i64 s.shp.sz,.slice A s.pages.length cp,.slice B s.rows.length cq,.int .i64 s.grp.epoch,.slice C s.grp.members.length cr,.slice none 0 0]] [] (sttQ s A B C) (fun u G Q => u = .int .i64 (if heldOk s then 0 else 150) ∧ G = [] ∧ Q = []) := by
 refine Ct.intro Tryz.func90 rfl rfl rfl (fun c hc => ?_)
 refine GC.sr_ ?_;refine GL.step rfl (t_box rfl rfl rfl) (GL.ex fun b_t1 => ?_);refine GL.rz 1 ?_;refine GC.rr 1 ?_;refine GL.ln_ 0 7 ?_;refine GL.cl Tryz.call144 [] [0,1,2] rfl rfl rfl (by exact mload_ct s _ _ _ _ _ _ hs) ?_
 rintro _ _ _ ⟨x8,rfl,rfl,rfl⟩
 refine GL.rz 5 ?_;refine GC.seq' ?_;refine GC.rr 3 ?_;refine GL.sp 13 ?_ ?_
 ·intro h1; try simp only [tst_,ldE_iff] at h1
  refine GL.rz 14 ?_;refine GC.cond_true rfl ?_;refine GC.rg 1 ?_;refine GC.ret (Fin.b1 2 [] [] ?_)
  exact zq23_
 intro h1; try simp only [tst_,ldE_iff] at h1
 refine GL.rn 1 ?_;refine GL.dg_ 0 ?_;refine GL.stepG rfl (s := 13) rfl rfl (t_call rfl Tryz.call145 rfl (is := []) (js := []) rfl rfl (by exact lrow_nil)) (GL.ret ?_)
 rintro _ _ _ ⟨rfl,rfl,rfl⟩
 refine GL.rn 5 ?_;refine GL.dg_ 0 ?_;refine GL.rn 1 ?_;refine GL.dg_ 0 ?_;refine GL.stepG rfl (s := 19) rfl rfl (t_call rfl Tryz.call146 rfl (is := []) (js := []) rfl rfl (by exact joins_nil _ _ _)) (GL.ret ?_)
 rintro _ _ _ ⟨rfl,rfl,rfl⟩
 refine GL.rz 2 ?_;refine GC.cond_false rfl ?_
 refine GC.skip (?_ : GC _ _ _ _)
 refine GC.rg 1 ?_;refine GC.ret (Fin.b1 2 [] [] ?_)
 exact zq23_
theorem lcE_iff (s : Stt) : ((if heldOk s then (0 : Int) else 150) = 0) = heldOk s := by split <;> simp_all
def pbit (a b c d : Bool) : Int := (if a = true then 1 else 0) + (if b = true then 2 else 0) + (if c = true then 4 else 0) + (if d = true then 8 else 0)
theorem or_b1 : IntKind.u8.wrap ((BitVec.ofInt IntKind.u8.bits 0 ||| BitVec.ofInt IntKind.u8.bits 1).toNat : Int) = pbit true false false false := by decide
theorem or_b2 (a : Bool) : IntKind.u8.wrap ((BitVec.ofInt IntKind.u8.bits (pbit a false false false) ||| BitVec.ofInt IntKind.u8.bits 2).toNat : Int) = pbit a true false false := by cases a <;> decide
theorem or_b4 (a b : Bool) : IntKind.u8.wrap ((BitVec.ofInt IntKind.u8.bits (pbit a b false false) ||| BitVec.ofInt IntKind.u8.bits 4).toNat : Int) = pbit a b true false := by cases a <;> cases b <;> decide
theorem or_b8 (a b c : Bool) : IntKind.u8.wrap ((BitVec.ofInt IntKind.u8.bits (pbit a b c false) ||| BitVec.ofInt IntKind.u8.bits 8).toNat : Int) = pbit a b c true := by cases a <;> cases b <;> cases c <;> decide
def bi (a : Bool) (n : Int) : Int := if a = true then n else 0
theorem bi_iff (a : Bool) (n : Int) (h : n ≠ 0) : (bi a n = 0) = (a = false) := by cases a <;> simp [bi,h]
theorem bi1 (a : Bool) : (bi a 1 = 0) = (a = false) := bi_iff a 1 (by decide)
theorem bi2 (a : Bool) : (bi a 2 = 0) = (a = false) := bi_iff a 2 (by decide)
theorem bi4 (a : Bool) : (bi a 4 = 0) = (a = false) := bi_iff a 4 (by decide)
theorem bi8 (a : Bool) : (bi a 8 = 0) = (a = false) := bi_iff a 8 (by decide)
theorem and_b1 (a b c d : Bool) : IntKind.u8.wrap ((BitVec.ofInt IntKind.u8.bits (pbit a b c d) &&& BitVec.ofInt IntKind.u8.bits 1).toNat : Int) = bi a 1 := by revert a b c d; decide
theorem and_b2 (a b c d : Bool) : IntKind.u8.wrap ((BitVec.ofInt IntKind.u8.bits (pbit a b c d) &&& BitVec.ofInt IntKind.u8.bits 2).toNat : Int) = bi b 2 := by revert a b c d; decide
theorem and_b4 (a b c d : Bool) : IntKind.u8.wrap ((BitVec.ofInt IntKind.u8.bits (pbit a b c d) &&& BitVec.ofInt IntKind.u8.bits 4).toNat : Int) = bi c 4 := by revert a b c d; decide
theorem and_b8 (a b c d : Bool) : IntKind.u8.wrap ((BitVec.ofInt IntKind.u8.bits (pbit a b c d) &&& BitVec.ofInt IntKind.u8.bits 8).toNat : Int) = bi d 8 := by revert a b c d; decide
def partsN (m : Msg) : Int := pbit (decide (¬ m.op = zop)) (decide (¬ m.res = rz)) (decide (¬ m.grp = zgr)) (decide (¬ m.stt = zst))
theorem rz_iff (r : Res) : (r = rz) ↔ (r.code = 0 ∧ (r.data.length : Int) ≤ 0) := by
  rw [rs_ext]; simp only [rz]
  constructor
  · rintro ⟨h1,h2⟩; rw [h2]; exact ⟨h1,by simp⟩
  · rintro ⟨h1,h2⟩; exact ⟨h1,List.length_eq_zero_iff.1 (by omega)⟩
theorem zgr_iff (r : Grp) : (r = zgr) ↔ (r.epoch = 0 ∧ (r.members.length : Int) ≤ 0) := by
  rw [gr_ext]; simp only [zgr]
  constructor
  · rintro ⟨h1,h2⟩; rw [h2]; exact ⟨h1,by simp⟩
  · rintro ⟨h1,h2⟩; exact ⟨h1,List.length_eq_zero_iff.1 (by omega)⟩
theorem zq24_ {X : Prop} (h : X := by (exact fun a w h => ⟨(()),trivial,by rw [decide_eq_true (show ¬ m.res = rz by rw [rz_iff]; omega)]; exact h.ct [0] (up 0 8)⟩)) : X := h
theorem zq25_ {X : Prop} (h : X := by (exact fun a w h => ⟨(()),trivial,by rw [decide_eq_true (show ¬ m.grp = zgr by rw [zgr_iff]; omega)]; exact h.ct [0] (up 0 8)⟩)) : X := h
theorem parts_ct (m : Msg) (s : Lie) (hm : MsgLen m) : Ct Tryz.prog 61 [msgV m s] [] (msgQ m s) (fun u G Q => u = .int .u8 (partsN m) ∧ G = [] ∧ Q = []) := by
 refine Ct.intro Tryz.func61 rfl rfl rfl (fun c hc => ?_)
 refine GC.sr_ ?_;refine GL.step rfl (t_box rfl rfl rfl) (GL.ex fun b_t1 => ?_);refine GL.rz 1 ?_;refine GC.rg 1 ?_;refine GC.joinK1 (ks := [1,2]) (is := [0]) (js := (up 0 8)) (fun (u_ : Unit) => True) (fun (u_ : Unit) => [(3,.int .u8 (pbit (decide (¬ m.op = zop)) false false false))]) (fun (u_ : Unit) => []) (fun (u_ : Unit) => []) rfl rfl rfl ?_ ?_
 ·refine GC.rr 1 ?_;refine GL.ln_ 0 5 ?_;refine GL.pure rfl (p_build ze_49 of_49 rfl rfl) ?_;refine GL.cl Tryz.call92 [] [0,1] rfl rfl rfl (by exact bzero_ct m.op _ _ _ _) ?_
  rintro _ _ _ ⟨rfl,rfl,rfl⟩
  refine GL.rz 1 ?_;refine GC.co ?_ ?_
  ·intro h1; try simp only [tst_] at h1
   refine GC.region ?_;refine GL.rn 1 ?_;refine GL.pure rfl (p_orR rfl rfl or_b1) ?_;refine GL.rn 1 ?_;refine GL.nil ?_
   exact fun a w h => ⟨(()),trivial,by rw [decide_eq_true (show ¬ m.op = zop by simp_all)]; exact h.ct [0] (up 0 8)⟩
  intro h1; try simp only [tst_] at h1
  refine GC.skip ?_
  exact fun a w h => ⟨(()),trivial,by rw [decide_eq_false (show ¬ ¬ m.op = zop by simp_all)]; exact h.ct [0] (up 0 8)⟩
 intro u_ hj2
 try dsimp only [List.cons_append,List.nil_append] at hj2 ⊢
 refine GC.joinK1 (ks := [1,2]) (is := [0]) (js := (up 0 8)) (fun (u_ : Unit) => True) (fun (u_ : Unit) => [(3,.int .u8 (pbit (decide (¬ m.op = zop)) (decide (¬ m.res = rz)) false false))]) (fun (u_ : Unit) => []) (fun (u_ : Unit) => []) rfl rfl rfl ?_ ?_
 ·refine GC.rr 2 ?_;refine GL.ld_ 0 ?_;refine GL.rn 2 ?_;refine GL.sp 15 ?_ ?_
  ·intro h2; try simp only [tst_] at h2
   refine GL.rz 6 ?_;refine GC.cond_true rfl ?_;refine GC.region ?_;refine GL.rn 1 ?_;refine GL.pure rfl (p_orR rfl rfl (or_b2 _)) ?_;refine GL.rn 1 ?_;refine GL.nil ?_
   exact zq24_
  intro h2; try simp only [tst_] at h2
  refine GL.rn 2 ?_;refine GL.dg_ 0 ?_;refine GL.rz 3 ?_;refine GC.co ?_ ?_
  ·intro h3; try simp only [tst_] at h3
   refine GC.region ?_;refine GL.rn 1 ?_;refine GL.pure rfl (p_orR rfl rfl (or_b2 _)) ?_;refine GL.rn 1 ?_;refine GL.nil ?_
   exact zq24_
  intro h3; try simp only [tst_] at h3
  refine GC.skip ?_
  exact fun a w h => ⟨(()),trivial,by rw [decide_eq_false (show ¬ ¬ m.res = rz by rw [rz_iff]; omega)]; exact h.ct [0] (up 0 8)⟩
 intro u_ hj4
 try dsimp only [List.cons_append,List.nil_append] at hj4 ⊢
 refine GC.joinK1 (ks := [1,2]) (is := [0]) (js := (up 0 8)) (fun (u_ : Unit) => True) (fun (u_ : Unit) => [(3,.int .u8 (pbit (decide (¬ m.op = zop)) (decide (¬ m.res = rz)) (decide (¬ m.grp = zgr)) false))]) (fun (u_ : Unit) => []) (fun (u_ : Unit) => []) rfl rfl rfl ?_ ?_
 ·refine GC.rr 2 ?_;refine GL.ld_ 0 ?_;refine GL.rn 2 ?_;refine GL.sp 28 ?_ ?_
  ·intro h4; try simp only [tst_] at h4
   refine GL.rz 6 ?_;refine GC.cond_true rfl ?_;refine GC.region ?_;refine GL.rn 1 ?_;refine GL.pure rfl (p_orR rfl rfl (or_b4 _ _)) ?_;refine GL.rn 1 ?_;refine GL.nil ?_
   exact zq25_
  intro h4; try simp only [tst_] at h4
  refine GL.rn 2 ?_;refine GL.dg_ 0 ?_;refine GL.rz 3 ?_;refine GC.co ?_ ?_
  ·intro h5; try simp only [tst_] at h5
   refine GC.region ?_;refine GL.rn 1 ?_;refine GL.pure rfl (p_orR rfl rfl (or_b4 _ _)) ?_;refine GL.rn 1 ?_;refine GL.nil ?_
   exact zq25_
  intro h5; try simp only [tst_] at h5
  refine GC.skip ?_
  exact fun a w h => ⟨(()),trivial,by rw [decide_eq_false (show ¬ ¬ m.grp = zgr by rw [zgr_iff]; omega)]; exact h.ct [0] (up 0 8)⟩
 intro u_ hj6
 try dsimp only [List.cons_append,List.nil_append] at hj6 ⊢
 refine GC.joinK1 (ks := [2]) (is := [0]) (js := (up 0 8)) (fun (u_ : Unit) => True) (fun (u_ : Unit) => [(3,.int .u8 (partsN m))]) (fun (u_ : Unit) => []) (fun (u_ : Unit) => []) rfl rfl rfl ?_ ?_
 ·refine GC.rr 1 ?_;refine GL.ln_ 0 7 ?_;refine GL.pure rfl (p_build ze_61 of_61 rfl rfl) ?_;refine GL.cl Tryz.call93 [] [4,5,6] rfl rfl rfl (by exact mzst_ct m.stt _ _ _ _ _ _ (by have := hm.s.p; omega) (by have := hm.s.r; omega) (by have := hm.s.m; omega)) ?_
  rintro _ _ _ ⟨rfl,rfl,rfl⟩
  refine GL.rz 1 ?_;refine GC.co ?_ ?_
  ·intro h6; try simp only [tst_] at h6
   refine GC.region ?_;refine GL.rn 1 ?_;refine GL.pure rfl (p_orR rfl rfl (or_b8 _ _ _)) ?_;refine GL.rn 1 ?_;refine GL.nil ?_
   exact fun a w h => ⟨(()),trivial,by rw [partsN,decide_eq_true (show ¬ m.stt = zst by simp_all)]; exact h.ct [0] (up 0 8)⟩
  intro h6; try simp only [tst_] at h6
  refine GC.skip ?_
  exact fun a w h => ⟨(()),trivial,by rw [partsN,decide_eq_false (show ¬ ¬ m.stt = zst by simp_all)]; exact h.ct [0] (up 0 8)⟩
 intro u_ hj8
 try dsimp only [List.cons_append,List.nil_append] at hj8 ⊢
 refine GC.rg 2 ?_;refine GC.ret (Fin.b1 2 [] [] ?_)
 exact ⟨rfl,rfl,rfl⟩
def pOp (m : Msg) : Prop := m.op = zop ∨ formD m.op
def pRes (m : Msg) : Prop := m.res = rz ∨ resOk m.res.code m.res.data.length = true
def pGrp (m : Msg) : Prop := m.grp = zgr ∨ groupOk m.grp.epoch m.grp.members = true
def pStt (m : Msg) : Prop := m.stt = zst ∨ heldOk m.stt
theorem zq26_ {X : Prop} (h : X := by (exact ⟨congrArg Value.bool (decide_eq_false fun H => by obtain ⟨⟨g1,g2,g3,g4⟩,_⟩ := H; simp only [formD] at g1; simp_all).symm,rfl,rfl⟩)) : X := h
theorem zq27_ {X : Prop} (h : X := by (exact fun a w h => ⟨(()),(by simp only [pOp,pRes,pGrp,formD]; simp_all),h.ct [0] (up 0 8)⟩)) : X := h
theorem wright_ct (m : Msg) (s : Lie) (hm : MsgLen m) : Ct Tryz.prog 60 [msgV m s] [] (msgQ m s) (fun u G Q => u = .bool (decide (partsOk m ∧ rowOkE m.log)) ∧ G = [] ∧ Q = []) := by
 refine Ct.intro Tryz.func60 rfl rfl rfl (fun c hc => ?_)
 refine GC.sr_ ?_;refine GL.step rfl (t_box rfl rfl rfl) (GL.ex fun b_t1 => ?_);refine GL.rz 1 ?_;refine GC.sr_ ?_;refine GL.ln_ 0 28 ?_;refine GL.cl Tryz.call61 [] (up 0 8) rfl rfl rfl (by exact parts_ct m s hm) ?_
 rintro _ _ _ ⟨rfl,rfl,rfl⟩
 refine GL.rz 1 ?_;refine GC.joinK1 (ks := [1,3]) (is := [0]) (js := (up 0 8)) (fun (u_ : Unit) => pOp m ∧ pRes m ∧ pGrp m) (fun (u_ : Unit) => []) (fun (u_ : Unit) => []) (fun (u_ : Unit) => []) rfl rfl rfl ?_ ?_
 ·refine GC.rr 1 ?_;refine GL.pure rfl (p_andR rfl rfl (and_b1 _ _ _ _)) ?_;refine GL.rn 2 ?_;refine GL.sp 9 ?_ ?_
  ·intro h1; try simp only [tst_,bi1,bi2,bi4,bi8,formE_iff,resE_iff,grpE_iff,lcE_iff] at h1
   refine GL.rn 1 ?_;refine GL.lg_ 0 5 ?_;refine GL.stepG rfl (s := 9) rfl rfl (t_call rfl Tryz.call87 rfl (is := []) (js := []) rfl rfl (by exact form_ct m.op.kind m.op.at_ m.op.n _ m.op.data.length _ _ m.op.old.length _)) (GL.ret ?_)
   rintro _ _ _ ⟨rfl,rfl,rfl⟩
   refine GL.rn 3 ?_;refine GL.sp 15 ?_ ?_
   ·intro h2; try simp only [tst_,bi1,bi2,bi4,bi8,formE_iff,resE_iff,grpE_iff,lcE_iff] at h2
    refine GL.rn 4 ?_
    iterate 4 refine GL.passU (s := 19) rfl rfl rfl ?_
    refine GL.rn 7 ?_
    iterate 4 refine GL.passU (s := 30) rfl rfl rfl ?_
    refine GL.rz 2 ?_;refine GC.cond_true rfl ?_;refine GC.rg 1 ?_;refine GC.ret (Fin.b1 2 [] [] ?_)
    exact zq26_
   intro h2; try simp only [tst_,bi1,bi2,bi4,bi8,formE_iff,resE_iff,grpE_iff,lcE_iff] at h2
   refine GL.rn 1 ?_;refine GL.pureG (s := 15) rfl rfl rfl (p_andR rfl rfl (and_b2 _ _ _ _)) ?_;refine GL.rn 2 ?_;refine GL.sp 19 ?_ ?_
   ·intro h3; try simp only [tst_,bi1,bi2,bi4,bi8,formE_iff,resE_iff,grpE_iff,lcE_iff] at h3
    refine GL.rn 1 ?_;refine GL.lg_ 0 2 ?_;refine GL.stepG rfl (s := 19) rfl rfl (t_call rfl Tryz.call88 rfl (is := []) (js := []) rfl rfl (by exact bres_ct m.res.code _ m.res.data.length _)) (GL.ret ?_)
    rintro _ _ _ ⟨rfl,rfl,rfl⟩
    refine GL.rn 4 ?_;refine GL.sp 26 ?_ ?_
    ·intro h4; try simp only [tst_,bi1,bi2,bi4,bi8,formE_iff,resE_iff,grpE_iff,lcE_iff] at h4
     refine GL.rn 4 ?_
     iterate 4 refine GL.passU (s := 30) rfl rfl rfl ?_
     refine GL.rz 2 ?_;refine GC.cond_true rfl ?_;refine GC.rg 1 ?_;refine GC.ret (Fin.b1 2 [] [] ?_)
     exact zq26_
    intro h4; try simp only [tst_,bi1,bi2,bi4,bi8,formE_iff,resE_iff,grpE_iff,lcE_iff] at h4
    refine GL.rn 1 ?_;refine GL.pureG (s := 26) rfl rfl rfl (p_andR rfl rfl (and_b4 _ _ _ _)) ?_;refine GL.rn 2 ?_;refine GL.sp 30 ?_ ?_
    ·intro h5; try simp only [tst_,bi1,bi2,bi4,bi8,formE_iff,resE_iff,grpE_iff,lcE_iff] at h5
     refine GL.rn 1 ?_;refine GL.lg_ 0 2 ?_;refine GL.stepG rfl (s := 30) rfl rfl (t_call rfl Tryz.call89 rfl (is := []) (js := [3]) rfl rfl (by exact mgroup_ct m.grp.epoch _ m.grp.members _ (by have := hm.g; omega))) (GL.ret ?_)
     rintro _ _ _ ⟨rfl,rfl,rfl⟩
     refine GL.rz 3 ?_;refine GC.co ?_ ?_
     ·intro h6; try simp only [tst_,bi1,bi2,bi4,bi8,formE_iff,resE_iff,grpE_iff,lcE_iff] at h6
      refine GC.rg 1 ?_;refine GC.ret (Fin.b1 2 [] [] ?_)
      exact zq26_
     intro h6; try simp only [tst_,bi1,bi2,bi4,bi8,formE_iff,resE_iff,grpE_iff,lcE_iff] at h6
     refine GC.skip ?_
     exact zq27_
    intro h5; try simp only [tst_,bi1,bi2,bi4,bi8,formE_iff,resE_iff,grpE_iff,lcE_iff] at h5
    refine GL.rz 6 ?_;refine GC.cond_false rfl ?_;refine GC.skip ?_
    exact zq27_
   intro h3; try simp only [tst_,bi1,bi2,bi4,bi8,formE_iff,resE_iff,grpE_iff,lcE_iff] at h3
   refine GL.rn 8 ?_;refine GL.pureG (s := 26) rfl rfl rfl (p_andR rfl rfl (and_b4 _ _ _ _)) ?_;refine GL.rn 2 ?_;refine GL.sp 30 ?_ ?_
   ·intro h7; try simp only [tst_,bi1,bi2,bi4,bi8,formE_iff,resE_iff,grpE_iff,lcE_iff] at h7
    refine GL.rn 1 ?_;refine GL.lg_ 0 2 ?_;refine GL.stepG rfl (s := 30) rfl rfl (t_call rfl Tryz.call89 rfl (is := []) (js := [3]) rfl rfl (by exact mgroup_ct m.grp.epoch _ m.grp.members _ (by have := hm.g; omega))) (GL.ret ?_)
    rintro _ _ _ ⟨rfl,rfl,rfl⟩
    refine GL.rz 3 ?_;refine GC.co ?_ ?_
    ·intro h8; try simp only [tst_,bi1,bi2,bi4,bi8,formE_iff,resE_iff,grpE_iff,lcE_iff] at h8
     refine GC.rg 1 ?_;refine GC.ret (Fin.b1 2 [] [] ?_)
     exact zq26_
    intro h8; try simp only [tst_,bi1,bi2,bi4,bi8,formE_iff,resE_iff,grpE_iff,lcE_iff] at h8
    refine GC.skip ?_
    exact zq27_
   intro h7; try simp only [tst_,bi1,bi2,bi4,bi8,formE_iff,resE_iff,grpE_iff,lcE_iff] at h7
   refine GL.rz 6 ?_;refine GC.cond_false rfl ?_;refine GC.skip ?_
   exact zq27_
  intro h1; try simp only [tst_,bi1,bi2,bi4,bi8,formE_iff,resE_iff,grpE_iff,lcE_iff] at h1
  refine GL.rn 7 ?_;refine GL.pureG (s := 15) rfl rfl rfl (p_andR rfl rfl (and_b2 _ _ _ _)) ?_;refine GL.rn 2 ?_;refine GL.sp 19 ?_ ?_
  ·intro h9; try simp only [tst_,bi1,bi2,bi4,bi8,formE_iff,resE_iff,grpE_iff,lcE_iff] at h9
   refine GL.rn 1 ?_;refine GL.lg_ 0 2 ?_;refine GL.stepG rfl (s := 19) rfl rfl (t_call rfl Tryz.call88 rfl (is := []) (js := []) rfl rfl (by exact bres_ct m.res.code _ m.res.data.length _)) (GL.ret ?_)
   rintro _ _ _ ⟨rfl,rfl,rfl⟩
   refine GL.rn 4 ?_;refine GL.sp 26 ?_ ?_
   ·intro h10; try simp only [tst_,bi1,bi2,bi4,bi8,formE_iff,resE_iff,grpE_iff,lcE_iff] at h10
    refine GL.rn 4 ?_
    iterate 4 refine GL.passU (s := 30) rfl rfl rfl ?_
    refine GL.rz 2 ?_;refine GC.cond_true rfl ?_;refine GC.rg 1 ?_;refine GC.ret (Fin.b1 2 [] [] ?_)
    exact zq26_
   intro h10; try simp only [tst_,bi1,bi2,bi4,bi8,formE_iff,resE_iff,grpE_iff,lcE_iff] at h10
   refine GL.rn 1 ?_;refine GL.pureG (s := 26) rfl rfl rfl (p_andR rfl rfl (and_b4 _ _ _ _)) ?_;refine GL.rn 2 ?_;refine GL.sp 30 ?_ ?_
   ·intro h11; try simp only [tst_,bi1,bi2,bi4,bi8,formE_iff,resE_iff,grpE_iff,lcE_iff] at h11
    refine GL.rn 1 ?_;refine GL.lg_ 0 2 ?_;refine GL.stepG rfl (s := 30) rfl rfl (t_call rfl Tryz.call89 rfl (is := []) (js := [3]) rfl rfl (by exact mgroup_ct m.grp.epoch _ m.grp.members _ (by have := hm.g; omega))) (GL.ret ?_)
    rintro _ _ _ ⟨rfl,rfl,rfl⟩
    refine GL.rz 3 ?_;refine GC.co ?_ ?_
    ·intro h12; try simp only [tst_,bi1,bi2,bi4,bi8,formE_iff,resE_iff,grpE_iff,lcE_iff] at h12
     refine GC.rg 1 ?_;refine GC.ret (Fin.b1 2 [] [] ?_)
     exact zq26_
    intro h12; try simp only [tst_,bi1,bi2,bi4,bi8,formE_iff,resE_iff,grpE_iff,lcE_iff] at h12
    refine GC.skip ?_
    exact zq27_
   intro h11; try simp only [tst_,bi1,bi2,bi4,bi8,formE_iff,resE_iff,grpE_iff,lcE_iff] at h11
   refine GL.rz 6 ?_;refine GC.cond_false rfl ?_;refine GC.skip ?_
   exact zq27_
  intro h9; try simp only [tst_,bi1,bi2,bi4,bi8,formE_iff,resE_iff,grpE_iff,lcE_iff] at h9
  refine GL.rn 8 ?_;refine GL.pureG (s := 26) rfl rfl rfl (p_andR rfl rfl (and_b4 _ _ _ _)) ?_;refine GL.rn 2 ?_;refine GL.sp 30 ?_ ?_
  ·intro h13; try simp only [tst_,bi1,bi2,bi4,bi8,formE_iff,resE_iff,grpE_iff,lcE_iff] at h13
   refine GL.rn 1 ?_;refine GL.lg_ 0 2 ?_;refine GL.stepG rfl (s := 30) rfl rfl (t_call rfl Tryz.call89 rfl (is := []) (js := [3]) rfl rfl (by exact mgroup_ct m.grp.epoch _ m.grp.members _ (by have := hm.g; omega))) (GL.ret ?_)
   rintro _ _ _ ⟨rfl,rfl,rfl⟩
   refine GL.rz 3 ?_;refine GC.co ?_ ?_
   ·intro h14; try simp only [tst_,bi1,bi2,bi4,bi8,formE_iff,resE_iff,grpE_iff,lcE_iff] at h14
    refine GC.rg 1 ?_;refine GC.ret (Fin.b1 2 [] [] ?_)
    exact zq26_
   intro h14; try simp only [tst_,bi1,bi2,bi4,bi8,formE_iff,resE_iff,grpE_iff,lcE_iff] at h14
   refine GC.skip ?_
   exact zq27_
  intro h13; try simp only [tst_,bi1,bi2,bi4,bi8,formE_iff,resE_iff,grpE_iff,lcE_iff] at h13
  refine GL.rz 6 ?_;refine GC.cond_false rfl ?_;refine GC.skip ?_
  exact zq27_
 intro u_ hj2
 try dsimp only [List.cons_append,List.nil_append] at hj2 ⊢
 refine GC.joinK1 (ks := [1]) (is := [0]) (js := (up 0 8)) (fun (u_ : Unit) => pStt m) (fun (u_ : Unit) => []) (fun (u_ : Unit) => []) (fun (u_ : Unit) => []) rfl rfl rfl ?_ ?_
 ·refine GC.rr 1 ?_;refine GL.pure rfl (p_andR rfl rfl (and_b8 _ _ _ _)) ?_;refine GL.rn 2 ?_;refine GL.sp 40 ?_ ?_
  ·intro h15; try simp only [tst_,bi1,bi2,bi4,bi8,formE_iff,resE_iff,grpE_iff,lcE_iff] at h15
   refine GL.rn 1 ?_;refine GL.lg_ 0 7 ?_;refine GL.pureG (s := 40) rfl rfl rfl (p_build ze_178 of_178 rfl rfl) ?_;refine GL.stepG rfl (s := 40) rfl rfl (t_call rfl Tryz.call90 rfl (is := []) (js := [4,5,6]) rfl rfl (by exact lchk_ct m.stt _ _ _ _ _ _ hm.s)) (GL.ret ?_)
   rintro _ _ _ ⟨rfl,rfl,rfl⟩
   refine GL.rz 2 ?_;refine GC.co ?_ ?_
   ·intro h16; try simp only [tst_,bi1,bi2,bi4,bi8,formE_iff,resE_iff,grpE_iff,lcE_iff] at h16
    refine GC.rg 1 ?_;refine GC.ret (Fin.b1 2 [] [] ?_)
    exact ⟨congrArg Value.bool (decide_eq_false fun H => by obtain ⟨⟨g1,g2,g3,g4⟩,_⟩ := H; simp_all).symm,rfl,rfl⟩
   intro h16; try simp only [tst_,bi1,bi2,bi4,bi8,formE_iff,resE_iff,grpE_iff,lcE_iff] at h16
   refine GC.skip ?_
   exact fun a w h => ⟨(()),(by simp only [pStt]; simp_all),h.ct [0] (up 0 8)⟩
  intro h15; try simp only [tst_,bi1,bi2,bi4,bi8,formE_iff,resE_iff,grpE_iff,lcE_iff] at h15
  refine GL.rz 6 ?_;refine GC.cond_false rfl ?_;refine GC.skip ?_
  exact fun a w h => ⟨(()),(by simp only [pStt]; simp_all),h.ct [0] (up 0 8)⟩
 intro u_ hj4
 try dsimp only [List.cons_append,List.nil_append] at hj4 ⊢
 refine GC.rr 1 ?_;refine GL.ld_ 0 ?_;refine GL.cl Tryz.call91 [] [7] rfl rfl rfl (by exact wrow_ct _ m.log _ (by have := hm.l; omega) hm.e) ?_
 rintro _ _ _ ⟨rfl,rfl,rfl⟩
 refine GL.rz 1 ?_;refine GC.ret (Fin.b1 2 [] [] ?_)
 exact ⟨congrArg Value.bool (decide_eq_decide.2 ⟨fun g => ⟨⟨hj2.1,hj2.2.1,hj2.2.2,hj4⟩,g⟩,fun g => g.2⟩),rfl,rfl⟩
theorem iidx_ct (A : Option Addr) (l : List Int) (cp : Nat) (hl : l.length ≤ 140737488355328) : Ct Tryz.prog 86 [.slice A l.length cp,.func (.func 58) #[] #[]] [] [Pers.row kI A l]
    (fun u G Q => ∃ i : Int,(0 ≤ i ↔ ¬ ∀ x ∈ l,in62 x) ∧ u = .int .i64 i ∧ G = [] ∧ Q = []) := by
 refine Ct.intro Tryz.func86 rfl rfl rfl (fun c hc => ?_)
 refine GC.rg 1 ?_;refine GC.seq' ?_;refine GC.rg 3 ?_;refine GC.block ?_;refine GC.loopK1 (ks := [0,1,7]) (is := []) (js := [0]) (fun (k : Nat) => k ≤ l.length ∧ ∀ j : Nat,j < k → in62 (gt l (j : Int))) (fun (k : Nat) => [(8,.int .i64 (k : Int))]) (fun (k : Nat) => []) (fun (k : Nat) => []) (fun (k : Nat) => l.length - k) (0) rfl rfl rfl (fun a w h => ⟨⟨by omega,fun j hj => by omega⟩,h.cutK (is := []) (js := [0]) (ks := [0,1,7]) ⟨rfl,trivial⟩ rfl rfl rfl⟩) ?_
 intro k hk
 try dsimp only [List.cons_append,List.nil_append] at hk ⊢
 obtain ⟨hk,hall⟩ := hk
 refine GC.rg 1 ?_;refine GC.seq' ?_;refine GC.co ?_ ?_
 ·intro h1; try simp only [tst_] at h1
  refine GC.skip (?_ : GC _ _ _ _)
  refine GC.seq' ?_;refine GC.block ?_;refine GC.rg 2 ?_;refine GC.rr 3 ?_;refine GL.step rfl (t_index (i := 0) rfl rfl rfl rfl Tryz.underlying53 sz_3 (by omega) (gt_ok (by omega) (by omega))) (GL.ex fun p_x14 => GL.ex fun r_x14 => GL.and fun ok_x14 => ?_)
  rcases r_x14 with _
  refine GL.step rfl (t_mem rfl (m_loadP (i := 0) rfl rfl ag_3 rfl)) ?_;refine GL.step rfl (t_callv rfl Tryz.call58 rfl rfl (is := []) (js := []) rfl rfl (by exact chk1_ct (gt l (k : Int)))) (GL.ret ?_)
  rintro _ _ _ ⟨rfl,rfl,rfl⟩
  refine GL.nl_ ?_;refine GC.co ?_ ?_
  ·intro h2; try simp only [tst_] at h2
   refine GC.rg 2 ?_;refine GC.ret (Fin.b1 4 [] [] ?_)
   exact ⟨_,⟨fun _ H => absurd (H _ (gt_elem (l := l) (k := k) (by omega))) (by assumption),fun _ => by omega⟩,rfl,rfl,rfl⟩
  intro h2; try simp only [tst_] at h2
  refine GC.skip (?_ : GC _ _ _ _)
  refine GC.region ?_;refine GL.pure rfl (p_add rfl rfl (w64 (by omega) (by omega))) ?_;refine GL.rn 1 ?_;refine GL.nil ?_
  exact fun a w h => ⟨(k + 1),(by omega),⟨by omega,fun j hj => (Nat.lt_succ_iff_lt_or_eq.1 hj).elim (hall j) (fun e => by subst e; assumption)⟩,h.ct [] [1]⟩
 intro h1; try simp only [tst_] at h1
 refine GC.exit (?_ : GC _ _ _ _)
 refine GC.rg 1 ?_;refine GC.ret (Fin.b1 4 [] [] ?_)
 exact zq20_
theorem icon_ct (A : Option Addr) (l : List Int) (cp : Nat) (hl : l.length ≤ 140737488355328) : Ct Tryz.prog 57 [.slice A l.length cp,.func (.func 58) #[] #[]] [] [Pers.row kI A l]
    (fun u G Q => u = .bool (decide (¬ ∀ x ∈ l,in62 x)) ∧ G = [] ∧ Q = []) := by
 refine Ct.intro Tryz.func57 rfl rfl rfl (fun c hc => ?_)
 refine GC.rg 1 ?_;refine GC.rr 2 ?_;refine GL.cl Tryz.call86 [] [0] rfl rfl rfl (by exact iidx_ct _ l _ hl) ?_
 rintro _ _ _ ⟨i7,hi7,rfl,rfl,rfl⟩
 refine GL.rz 2 ?_;refine GC.ret (Fin.b1 4 [] [] ?_)
 exact ⟨congrArg Value.bool (decide_eq_decide.2 hi7),rfl,rfl⟩
theorem nums_iff (m : Msg) : (∀ x ∈ [m.epoch,m.view,m.num,m.commit,m.normal,m.client,m.serial],in62 x) ↔ numsOk m := by simp [numsOk]
theorem msgE_yes {m : Msg} (h : msgOk m) : msgE m = 0 := if_pos h
theorem msgE_no {m : Msg} (h : ¬ msgOk m) : msgE m = 160 := if_neg h
theorem zq28_ {X : Prop} (h : X := by (first | exact ⟨by rw [msgE_no (fun H => by obtain ⟨g1,g2,g3,g4,g5,g6,g7⟩ := H; first | omega | contradiction | (simp_all; done))]; rfl,rfl,rfl⟩ | exact ⟨by rw [msgE_yes ⟨by assumption,by omega,by omega,by assumption,by assumption,(by assumption : partsOk m ∧ rowOkE m.log).1,(by assumption : partsOk m ∧ rowOkE m.log).2⟩]; rfl,rfl,rfl⟩)) : X := h
theorem wchk_ct (m : Msg) (s : Lie) (hm : MsgLen m) : Ct Tryz.prog 41 [msgV m s] [] (msgQ m s) (fun u G Q => u = .int .i64 (msgE m) ∧ G = [] ∧ Q = []) := by
 refine Ct.intro Tryz.func41 rfl rfl rfl (fun c hc => ?_)
 refine GC.sr_ ?_;refine GL.step rfl (t_box rfl rfl rfl) (GL.ex fun b_t1 => ?_);refine GL.rz 1 ?_;refine GC.rr 1 ?_;refine GL.ld_ 0 ?_;refine GL.rn 1 ?_;refine GL.ld_ 0 ?_;refine GL.rn 1 ?_;refine GL.ld_ 0 ?_;refine GL.rn 1 ?_
 refine GL.ld_ 0 ?_;refine GL.rn 1 ?_;refine GL.ld_ 0 ?_;refine GL.rn 1 ?_;refine GL.ld_ 0 ?_;refine GL.rn 1 ?_;refine GL.ld_ 0 ?_;refine GL.step rfl (t_buildSlice rfl Tryz.underlying53 sz_3 ze_3 rfl rfl rfl rfl rfl rfl) (GL.ex fun b_t19 => ?_)
 refine GL.rz 1 ?_;refine GC.sr_ ?_;refine GL.freezeC (enc := Value.int .i64) (xs := [m.epoch,m.view,m.num,m.commit,m.normal,m.client,m.serial]) (h1 := fun _ => rfl) (i := 0) rfl ?_;refine GL.rn 1 ?_;refine GL.cl Tryz.call57 [] [0] rfl rfl rfl (by exact icon_ct _ [m.epoch,m.view,m.num,m.commit,m.normal,m.client,m.serial] _ (by simp)) ?_
 rintro _ _ _ ⟨rfl,rfl,rfl⟩
 refine GL.rz 1 ?_;refine GC.seq' ?_;refine GC.rr 2 ?_;refine GL.sp 23 ?_ ?_
 ·intro h1; try simp only [tst_,nums_iff] at h1
  refine GL.rz 26 ?_;refine GC.cond_true rfl ?_;refine GC.rg 1 ?_;refine GC.ret (Fin.b1 2 [] [] ?_)
  exact zq28_
 intro h1; try simp only [tst_,nums_iff] at h1
 refine GL.rn 1 ?_;refine GL.dg_ 0 ?_;refine GL.rn 3 ?_;refine GL.sp 28 ?_ ?_
 ·intro h2; try simp only [tst_,nums_iff] at h2
  refine GL.rz 21 ?_;refine GC.cond_true rfl ?_;refine GC.rg 1 ?_;refine GC.ret (Fin.b1 2 [] [] ?_)
  exact zq28_
 intro h2; try simp only [tst_,nums_iff] at h2
 refine GL.rn 1 ?_;refine GL.dg_ 0 ?_;refine GL.rn 3 ?_;refine GL.sp 33 ?_ ?_
 ·intro h3; try simp only [tst_,nums_iff] at h3
  refine GL.rz 16 ?_;refine GC.cond_true rfl ?_;refine GC.rg 1 ?_;refine GC.ret (Fin.b1 2 [] [] ?_)
  exact zq28_
 intro h3; try simp only [tst_,nums_iff] at h3
 refine GL.rn 1 ?_;refine GL.dg_ 0 ?_;refine GL.stepG rfl (s := 33) rfl rfl (t_call rfl Tryz.call59 rfl (is := []) (js := []) rfl rfl (by exact who_ct _)) (GL.ret ?_)
 rintro _ _ _ ⟨rfl,rfl,rfl⟩
 refine GL.rn 3 ?_;refine GL.sp 39 ?_ ?_
 ·intro h4; try simp only [tst_,nums_iff] at h4
  refine GL.rz 10 ?_;refine GC.cond_true rfl ?_;refine GC.rg 1 ?_;refine GC.ret (Fin.b1 2 [] [] ?_)
  exact zq28_
 intro h4; try simp only [tst_,nums_iff] at h4
 refine GL.rn 1 ?_;refine GL.dg_ 0 ?_;refine GL.stepG rfl (s := 39) rfl rfl (t_call rfl Tryz.call59 rfl (is := []) (js := []) rfl rfl (by exact who_ct _)) (GL.ret ?_)
 rintro _ _ _ ⟨rfl,rfl,rfl⟩
 refine GL.rn 3 ?_;refine GL.sp 45 ?_ ?_
 ·intro h5; try simp only [tst_,nums_iff] at h5
  refine GL.rz 4 ?_;refine GC.cond_true rfl ?_;refine GC.rg 1 ?_;refine GC.ret (Fin.b1 2 [] [] ?_)
  exact zq28_
 intro h5; try simp only [tst_,nums_iff] at h5
 refine GL.lg_ 0 28 ?_;refine GL.stepG rfl (s := 45) rfl rfl (t_call rfl Tryz.call60 rfl (is := []) (js := (up 1 8)) rfl rfl (by exact wright_ct m s hm)) (GL.ret ?_)
 rintro _ _ _ ⟨rfl,rfl,rfl⟩
 refine GL.rz 2 ?_;refine GC.co ?_ ?_
 ·intro h6; try simp only [tst_,nums_iff] at h6
  refine GC.rg 1 ?_;refine GC.ret (Fin.b1 2 [] [] ?_)
  exact zq28_
 intro h6; try simp only [tst_,nums_iff] at h6
 refine GC.skip (?_ : GC _ _ _ _)
 refine GC.rg 1 ?_;refine GC.ret (Fin.b1 2 [] [] ?_)
 exact zq28_
instance (m : Msg) : Decidable (pOp m) := by unfold pOp; infer_instance
instance (m : Msg) : Decidable (pRes m) := by unfold pRes; infer_instance
instance (m : Msg) : Decidable (pGrp m) := by unfold pGrp; infer_instance
instance (m : Msg) : Decidable (pStt m) := by unfold pStt; infer_instance
abbrev rowOf (A : Option Addr) (cp : Nat) (b : List UInt8) : Own := .row (.slice A b.length cp) 5 1 b.length (b.map u8v)
theorem bclone_ct (A : Option Addr) (xs : List UInt8) (cp : Nat) (hx : xs.length ≤ 140737488355328) : Ct Tryz.prog 95 [.slice A xs.length cp] [] [Pers.row Kd.u8 A xs]
    (fun v G Q => ∃ A' cp',xs.length ≤ cp' ∧ cp' ≤ 9223372036854775807 ∧ v = .slice A' xs.length cp' ∧ G = [.row (.slice A' xs.length cp') 5 1 xs.length (xs.map u8v)] ∧ Q = []) := by
 cases A with
 | none =>
   refine Ct.pure (fun w S h => row_none (h.per _ (List.mem_singleton.2 rfl))) fun hx0 => ?_
   subst hx0
   refine Ct.intro Tryz.func95 rfl rfl rfl (fun c hc => ?_)
   refine GC.rg 1 ?_;refine GC.seq' ?_;refine GC.rr 1 ?_;refine GL.pure rfl (p_slnil_eql Tryz.underlying47 rfl rfl) ?_;refine GL.nl_ ?_;refine GC.cond_true rfl ?_;refine GC.rg 1 ?_;refine GC.nilrow 5 1 ?_;refine GC.ret (Fin.b1 2 [0] [] ?_)
   exact ⟨_,_,by simp,by simp,rfl,rfl,rfl⟩
 | some a =>
   refine Ct.intro Tryz.func95 rfl rfl rfl (fun c hc => ?_)
   refine GC.rg 1 ?_;refine GC.seq' ?_;refine GC.rr 1 ?_;refine GL.pure rfl (p_slnil_eql Tryz.underlying47 rfl rfl) ?_;refine GL.nl_ ?_;refine GC.cond_false rfl ?_
   refine GC.skip (?_ : GC _ _ _ _)
   refine GC.sr_ ?_;refine GL.step rfl (t_buildSlice rfl Tryz.underlying47 sz_5 ze_5 rfl rfl rfl rfl rfl rfl) (GL.ex fun b_t5 => ?_);refine GL.rn 1 ?_;refine GL.torow (i := 0) (m := 0) (sz := 1) rfl rfl (by decide) rfl ?_
   refine GL.step rfl (t_appendS (i := 0) (k := 0) rfl el_47 rfl rfl rfl rfl (by simp; omega) (fun _ => rfl)) (GL.ex fun v7 => ?_);refine GL.rz 1 ?_;refine GC.shape (i := 0) rfl (fun A1 c1 e1 l1 l2 => ?_)
   subst e1
   simp only [Nat.zero_add,List.nil_append] at l1 ⊢
   refine GC.ret (Fin.b1 2 [0] [] ?_)
   exact ⟨_,_,l1,l2,rfl,rfl,rfl⟩
theorem zq40_ {X : Prop} (h : X := by (refine ⟨congrArg Value.bool ?_,rfl,rfl⟩; first | exact (decide_eq_true (by omega)).symm | exact (decide_eq_false (by omega)).symm | exact decide_eq_decide.2 (by omega))) : X := h
theorem sized_ct (n : Int) : Ct Tryz.prog 94 [.int .i64 n] [] [] (fun v G Q => v = .bool (decide (1 ≤ n ∧ n ≤ 8)) ∧ G = [] ∧ Q = []) := by
 refine Ct.intro Tryz.func94 rfl rfl rfl (fun c hc => ?_)
 refine GC.rg 1 ?_;refine GC.rr 3 ?_;refine GL.sp 5 ?_ ?_
 ·intro h1; try simp only [tst_] at h1
  refine GL.rz 4 ?_;refine GC.ret (Fin.b1 2 [] [] ?_)
  exact zq40_
 intro h1; try simp only [tst_] at h1
 refine GL.rz 4 ?_;refine GC.ret (Fin.b1 2 [] [] ?_)
 exact zq40_
theorem sized_ok (n : Nat) (h : 1 ≤ n) (h' : n ≤ 8) : Ct Tryz.prog 94 [.int .i64 (n : Int)] [] [] (fun v G Q => v = .bool true ∧ G = [] ∧ Q = []) := by
  have := sized_ct (n : Int)
  rw [decide_eq_true (by omega)] at this
  exact this
theorem div_lt_iff {v n : Nat} : v / 256 ^ n = 0 ↔ v < 256 ^ n := Nat.div_eq_zero_iff.trans ⟨fun h => h.resolve_left (by simp),.inr⟩
theorem zq41_ {X : Prop} (h : X := by (refine ⟨congrArg Value.bool ?_,rfl,rfl⟩; first | (obtain rfl : n = 8 := (by omega); exact (decide_eq_true (by omega)).symm) | exact decide_eq_decide.2 (by rw [← div_lt_iff]; norm_cast))) : X := h
theorem fits_ct (v n : Nat) (h : 1 ≤ n) (h' : n ≤ 8) (hv : v < 18446744073709551616) : Ct Tryz.prog 96 [.int .u64 (v : Int),.int .i64 (n : Int)] [] [] (fun u G Q => u = .bool (decide (v < 256 ^ n)) ∧ G = [] ∧ Q = []) := by
 refine Ct.intro Tryz.func96 rfl rfl rfl (fun c hc => ?_)
 refine GC.rg 1 ?_;refine GC.rr 3 ?_;refine GL.sp 7 ?_ ?_
 ·intro h1; try simp only [tst_] at h1
  refine GL.rz 8 ?_;refine GC.ret (Fin.b1 4 [] [] ?_)
  exact zq41_
 intro h1; try simp only [tst_] at h1
 refine GL.rn 2 ?_;refine GL.pureG (s := 7) rfl rfl rfl (p_mul rfl rfl (w64 (by omega) (by omega))) ?_;refine GL.pureG (s := 7) rfl rfl rfl (p_convR (t := 3) (r := ((8 * n : Nat) : Int)) (by rw [Tryz.underlying3]; simp) Tryz.underlying195 rfl (by rw [cvU (by omega) (by omega)]; omega)) ?_
 refine GL.pureG (s := 7) rfl rfl rfl (p_shrR (r := ((v / 256 ^ n : Nat) : Int)) rfl rfl (by omega) (shr8 h')) ?_;refine GL.rz 3 ?_;refine GC.ret (Fin.b1 4 [] [] ?_)
 exact zq41_
theorem put8_ct (A : Option Addr) (cp : Nat) (b : List UInt8) (v n : Nat) (h' : n ≤ 8) (hb : b.length ≤ 100000000000000) : Ct Tryz.prog 97 [.slice A b.length cp,.int .u64 (v : Int),.int .i64 (n : Int)] [rowOf A cp b] []
    (fun u G Q => ∃ A' cp',(b ++ leN n v).length ≤ cp' ∧ cp' ≤ 9223372036854775807 ∧ u = .slice A' (b ++ leN n v).length cp' ∧ G = [rowOf A' cp' (b ++ leN n v)] ∧ Q = []) := by
 refine Ct.intro Tryz.func97 rfl rfl rfl (fun c hc => ?_)
 refine GC.rg 1 ?_;refine GC.seq' ?_;refine GC.rg 2 ?_;refine GC.block ?_;refine GC.loopK2 (ks := [1,8]) (is := []) (js := []) (fun (k : Nat) (U : Value) => k ≤ n) (fun (k : Nat) (U : Value) => [(0,U),(9,.int .i64 (k : Int))]) (fun (k : Nat) (U : Value) => [.row U 5 1 (b.length + k) ((b ++ leN k v).map u8v)]) (fun (k : Nat) (U : Value) => []) (fun (k : Nat) (U : Value) => n - k) (0) (_) rfl rfl rfl (fun a w h => ⟨by omega,by simp only [leN,List.append_nil]; exact h.cutK (is := [0]) (js := []) (ks := [1,8]) ⟨rfl,rfl,trivial⟩ rfl rfl rfl⟩) ?_
 intro k U hk
 try dsimp only [List.cons_append,List.nil_append] at hk ⊢
 refine GC.rg 1 ?_;refine GC.seq' ?_;refine GC.co ?_ ?_
 ·intro h1; try simp only [tst_] at h1
  refine GC.skip (?_ : GC _ _ _ _)
  refine GC.seq' ?_;refine GC.block ?_;refine GC.rg 2 ?_;refine GC.region ?_;refine GL.rn 3 ?_;refine GL.pure rfl (p_mul rfl rfl (w64 (by omega) (by omega))) ?_;refine GL.pure rfl (p_convR (t := 3) (r := ((8 * k : Nat) : Int)) (by rw [Tryz.underlying3]; simp) Tryz.underlying195 rfl (by rw [cvU (by omega) (by omega)]; omega)) ?_
  refine GL.pure rfl (p_shrR (r := ((v / 256 ^ k : Nat) : Int)) rfl rfl (by omega) (shr8 (by omega))) ?_;refine GL.pure rfl (p_convR (t := 45) (r := ((UInt8.ofNat (v / 256 ^ k % 256)).toNat : Int)) (by rw [Tryz.underlying45]; simp) Tryz.underlying5 rfl (wrapB _)) ?_
  refine GL.step rfl (t_buildSlice rfl Tryz.underlying47 sz_5 ze_5 rfl rfl rfl rfl rfl rfl) (GL.ex fun b_t19 => ?_);refine GL.step rfl (t_append (i := 1) (k := 0) rfl el_47 rfl rfl rfl rfl rfl (allOne_mem rfl) (by simp; omega) (fun _ => rfl)) (GL.ex fun v20 => ?_)
  refine GL.rn 1 ?_
  refine GL.nil (?_ : GC _ _ _ _)
  refine GC.region ?_;refine GL.pure rfl (p_add rfl rfl (w64 (by omega) (by omega))) ?_;refine GL.rn 1 ?_;refine GL.nil ?_
  exact fun a w h => ⟨(k + 1),(v20),(by omega),by omega,by rw [leN_succ,← List.append_assoc,List.map_append]; exact h.ct [1] []⟩
 intro h1; try simp only [tst_] at h1
 refine GC.exit (?_ : GC _ _ _ _)
 refine GC.seq' ?_
 obtain rfl : k = n := by omega
 refine GC.rowIs (i := 0) (m' := ((b ++ leN k v)).length) (cs' := ((b ++ leN k v)).map u8v) rfl (by first | (simp only [List.length_append,List.length_cons,List.length_nil,List.append_assoc]; done) | (simp only [List.length_append,List.length_cons,List.length_nil,List.append_assoc]; omega) | (simp [leN_length]; done) | (simp [leN_length]; omega) | rfl) (by first | (simp only [List.map_append,List.map_cons,List.map_nil,List.append_assoc]; done) | (simp [leN_length]; done) | rfl) rfl ?_
 refine GC.shape (i := 0) rfl (fun A_b c_b e_b l_b k_b => ?_)
 subst e_b
 refine GC.region ?_;refine GL.rn 2 ?_
 refine GL.nil (?_ : GC _ _ _ _)
 refine GC.ret (Fin.b1 6 [0] [] ?_)
 exact ⟨_,_,l_b,k_b,rfl,rfl,rfl⟩
abbrev uv (x : Nat) : Value := .int .u64 (x : Int)
abbrev kU : Kd Nat := Kd.sc uv (fun _ => rfl)
def flI (n : Nat) (l : List Nat) : List UInt8 := l.flatMap (leN n)
theorem flI_length (n : Nat) (l : List Nat) : (flI n l).length = n * l.length := by
  unfold flI
  induction l with
  | nil => simp
  | cons x r ih => rw [List.flatMap_cons,List.length_append,leN_length,ih,List.length_cons,Nat.mul_succ]; omega
theorem flI_take {n : Nat} {l : List Nat} {k : Nat} (h : k < l.length) : flI n (l.take (k + 1)) = flI n (l.take k) ++ leN n (gt l (k : Int)) := by
  unfold flI; rw [take_gt h,List.flatMap_append]; simp
theorem fits_ok (v n : Nat) (h : 1 ≤ n) (h' : n ≤ 8) (hv : v < 256 ^ n) : Ct Tryz.prog 96 [.int .u64 (v : Int),.int .i64 (n : Int)] [] [] (fun u G Q => u = .bool true ∧ G = [] ∧ Q = []) := by
  have h8 : 256 ^ n ≤ 256 ^ 8 := Nat.pow_le_pow_right (by decide) h'
  have := fits_ct v n h h' (by omega)
  rw [decide_eq_true hv] at this
  exact this
theorem nk_le {n k c : Nat} (hn : n ≤ 8) (hk : k ≤ c) : n * k ≤ 8 * c := Nat.mul_le_mul hn hk
theorem putall_ct (A : Option Addr) (b : List UInt8) (cp n : Nat) (L : Option Addr) (l : List Nat) (cl : Nat) (hn : 1 ≤ n) (hn' : n ≤ 8) (hb : b.length + 8 * l.length ≤ 100000000000000) (hl : ∀ x ∈ l,x < 256 ^ n) : Ct Tryz.prog 62 [.slice A b.length cp,.int .i64 (n : Int),.slice L l.length cl] [] [Pers.row Kd.u8 A b,Pers.row kU L l]
    (fun u G Q => ∃ A' cp',(b ++ flI n l).length ≤ cp' ∧ cp' ≤ 9223372036854775807 ∧ u = .tuple #[.slice A' (b ++ flI n l).length cp',.int .i64 0] ∧ G = [rowOf A' cp' (b ++ flI n l)] ∧ Q = []) := by
 refine Ct.intro Tryz.func62 rfl rfl rfl (fun c hc => ?_)
 refine GC.rg 2 ?_;refine GC.seq' ?_;refine GC.rr 1 ?_;refine GL.cl Tryz.call94 [] [] rfl rfl rfl (by exact sized_ok n hn hn') ?_
 rintro _ _ _ ⟨rfl,rfl,rfl⟩
 refine GL.rz 1 ?_;refine GC.cond_false rfl ?_
 refine GC.skip (?_ : GC _ _ _ _)
 refine GC.rr 1 ?_;refine GL.cl Tryz.call95 [] [0] rfl rfl rfl (by exact bclone_ct _ _ _ (by first | assumption | omega)) ?_
 rintro _ _ _ ⟨A15,cp15,l15,k15,rfl,rfl,rfl⟩
 refine GL.rz 1 ?_;refine GC.seq' ?_;refine GC.rg 3 ?_;refine GC.block ?_;refine GC.loopK3 (ks := [1,16,17]) (is := []) (js := [0,1]) (fun (k : Nat) (A1 : Option Addr) (c1 : Nat) => k ≤ l.length ∧ (b ++ flI n (l.take k)).length ≤ c1 ∧ c1 ≤ 9223372036854775807) (fun (k : Nat) (A1 : Option Addr) (c1 : Nat) => [(8,.slice A1 (b ++ flI n (l.take k)).length c1),(18,.int .i64 (k : Int))]) (fun (k : Nat) (A1 : Option Addr) (c1 : Nat) => [rowOf A1 c1 (b ++ flI n (l.take k))]) (fun (k : Nat) (A1 : Option Addr) (c1 : Nat) => []) (fun (k : Nat) (A1 : Option Addr) (c1 : Nat) => l.length - k) (0) (_) (_) rfl rfl rfl (fun a w h => ⟨⟨by omega,by simpa [flI] using l15,k15⟩,by simp only [flI,List.take_zero,List.flatMap_nil,List.append_nil]; exact h.cutK (is := [0]) (js := [0,1]) (ks := [1,16,17]) ⟨rfl,rfl,trivial⟩ rfl rfl rfl⟩) ?_
 intro k A1 c1 hk
 try dsimp only [List.cons_append,List.nil_append] at hk ⊢
 obtain ⟨hk,hc1,hc2⟩ := hk
 refine GC.rg 1 ?_;refine GC.seq' ?_;refine GC.co ?_ ?_
 ·intro h1; try simp only [tst_] at h1
  refine GC.skip (?_ : GC _ _ _ _)
  refine GC.seq' ?_;refine GC.block ?_;refine GC.sr_ ?_;refine GL.step rfl (t_index (i := 1) rfl rfl rfl rfl Tryz.underlying180 sz_45 (by omega) (gt_ok (by omega) (by omega))) (GL.ex fun p_x20 => GL.ex fun r_x20 => GL.and fun ok_x20 => ?_)
  rcases r_x20 with _
  refine GL.step rfl (t_mem rfl (m_loadP (i := 0) rfl rfl ag_45 rfl)) ?_;refine GL.rz 1 ?_;refine GC.seq' ?_;refine GC.rr 2 ?_;refine GL.cl Tryz.call96 [] [] rfl rfl rfl (by exact fits_ok (gt l (k : Int)) n hn hn' (hl _ (gt_elem (by omega)))) ?_
  rintro _ _ _ ⟨rfl,rfl,rfl⟩
  refine GL.rz 1 ?_;refine GC.cond_false rfl ?_
  refine GC.skip (?_ : GC _ _ _ _)
  refine GC.region ?_;refine GL.rn 3 ?_;refine GL.cl Tryz.call97 [0] [] rfl rfl rfl (by exact put8_ct A1 c1 (b ++ flI n (l.take k)) (gt l (k : Int)) n hn' (by rw [List.length_append,flI_length,List.length_take]; have := nk_le hn' (show min k l.length ≤ l.length by omega); omega)) ?_
  rintro _ _ _ ⟨A29,cp29,l29,k29,rfl,rfl,rfl⟩
  refine GL.rn 1 ?_
  refine GL.nil (?_ : GC _ _ _ _)
  refine GC.region ?_;refine GL.pure rfl (p_add rfl rfl (w64 (by omega) (by omega))) ?_;refine GL.rn 1 ?_;refine GL.nil ?_
  exact fun a w h => ⟨(k + 1),(A29),(cp29),(by omega),⟨by omega,by rw [flI_take (by omega),← List.append_assoc]; exact l29,k29⟩,by rw [flI_take (by omega),← List.append_assoc]; exact h.ct [0] [1,2]⟩
 intro h1; try simp only [tst_] at h1
 refine GC.exit (?_ : GC _ _ _ _)
 refine GC.rg 3 ?_;refine GC.ret (Fin.b2 6 7 [0] [] ?_)
 obtain rfl : k = l.length := by omega
 rw [List.take_length] at *
 exact ⟨_,_,hc1,hc2,rfl,rfl,rfl⟩
theorem flI_one (n v : Nat) : flI n [v] = leN n v := by simp [flI]
theorem oput_ct (A : Option Addr) (b : List UInt8) (cp v n : Nat) (hn : 1 ≤ n) (hn' : n ≤ 8) (hb : b.length ≤ 10000000000000) (hv : v < 256 ^ n) : Ct Tryz.prog 66 [.slice A b.length cp,.int .u64 (v : Int),.int .i64 (n : Int)] [] [Pers.row Kd.u8 A b]
    (fun u G Q => ∃ A' cp',(b ++ leN n v).length ≤ cp' ∧ cp' ≤ 9223372036854775807 ∧ u = .tuple #[.slice A' (b ++ leN n v).length cp',.int .i64 0] ∧ G = [rowOf A' cp' (b ++ leN n v)] ∧ Q = []) := by
 refine Ct.intro Tryz.func66 rfl rfl rfl (fun c hc => ?_)
 refine GC.rg 2 ?_;refine GC.rr 3 ?_;refine GL.step rfl (t_buildSlice rfl Tryz.underlying180 sz_45 ze_45 rfl rfl rfl rfl rfl rfl) (GL.ex fun b_t11 => ?_);refine GL.freezeC (enc := uv) (xs := [v]) (h1 := fun _ => rfl) (i := 0) rfl ?_
 refine GL.cl Tryz.call62 [] [1,0] rfl rfl rfl (by exact putall_ct _ b _ n _ [v] _ hn hn' (by simp; omega) (by simpa using hv)) ?_
 rintro _ _ _ ⟨A12,cp12,l12,k12,rfl,rfl,rfl⟩
 refine GL.rz 4 ?_;refine GC.ret (Fin.b2 6 7 [0] [] ?_)
 rw [flI_one] at *
 exact ⟨_,_,l12,k12,rfl,rfl,rfl⟩
theorem otext_ct (A : Option Addr) (b : List UInt8) (cp : Nat) (B : Option Addr) (s : List UInt8) (cq : Nat) (hb : b.length ≤ 10000000000000) (hs : s.length ≤ 16777216) : Ct Tryz.prog 68 [.slice A b.length cp,.slice B s.length cq] [] [Pers.row Kd.u8 A b,Pers.row Kd.u8 B s]
    (fun u G Q => ∃ A' cp',(b ++ leN 4 s.length ++ s).length ≤ cp' ∧ cp' ≤ 9223372036854775807 ∧ u = .tuple #[.slice A' (b ++ leN 4 s.length ++ s).length cp',.int .i64 0] ∧ G = [rowOf A' cp' (b ++ leN 4 s.length ++ s)] ∧ Q = []) := by
 refine Ct.intro Tryz.func68 rfl rfl rfl (fun c hc => ?_)
 refine GC.rg 2 ?_;refine GC.seq' ?_;refine GC.rg 3 ?_;refine GC.co ?_ ?_
 ·intro h1; try simp only [tst_] at h1
  first
  | (exfalso; omega)
  |(skip
    refine GC.rg 2 ?_;refine GC.ret (Fin.b2 4 5 [] [] ?_)
    skip)
 intro h1; try simp only [tst_] at h1
 first
 | (exfalso; omega)
 |(skip
   refine GC.skip (?_ : GC _ _ _ _)
   refine GC.rr 1 ?_;refine GL.cl Tryz.call95 [] [0] rfl rfl rfl (by exact bclone_ct _ _ _ (by first | assumption | omega)) ?_
   rintro _ _ _ ⟨A10,cp10,l10,k10,rfl,rfl,rfl⟩
   refine GL.rn 2 ?_;refine GL.pure rfl (p_convR (t := 3) (r := ((s.length : Nat) : Int)) (by rw [Tryz.underlying3]; simp) Tryz.underlying45 rfl (cvU (by omega) (by omega))) ?_
   refine GL.cl Tryz.call97 [0] [] rfl rfl rfl (by exact put8_ct A10 cp10 b s.length 4 (by omega) (by omega)) ?_
   rintro _ _ _ ⟨A14,cp14,l14,k14,rfl,rfl,rfl⟩
   refine GL.rn 1 ?_;refine GL.step rfl (t_appendS (i := 0) (k := 1) rfl el_47 rfl rfl rfl rfl (by simp [leN_length]; omega) (fun _ => rfl)) (GL.ex fun v16 => ?_)
   refine GL.rowIs (i := 0) (m' := ((b ++ leN 4 s.length ++ s)).length) (cs' := ((b ++ leN 4 s.length ++ s)).map u8v) rfl (by first | (simp only [List.length_append,List.length_cons,List.length_nil,List.append_assoc]; done) | (simp only [List.length_append,List.length_cons,List.length_nil,List.append_assoc]; omega) | (simp [leN_length]; done) | (simp [leN_length]; omega) | rfl) (by first | (simp only [List.map_append,List.map_cons,List.map_nil,List.append_assoc]; done) | (simp [leN_length]; done) | rfl) rfl ?_
   refine GL.shape (i := 0) rfl (fun A_pt14 c_pt14 e_pt14 l_pt14 k_pt14 => ?_)
   subst e_pt14
   refine GL.rz 2 ?_;refine GC.ret (Fin.b2 4 5 [0] [] ?_)
   exact ⟨_,_,l_pt14,k_pt14,rfl,rfl,rfl⟩)
theorem get_ok (A : Option Addr) (b : List UInt8) (cp at_ n : Nat) (hn : 1 ≤ n) (hn' : n ≤ 8) (hb : b.length ≤ cp) (hb' : b.length ≤ 200000000000000) (h : at_ + n ≤ b.length) : Ct Tryz.prog 72 [.slice A b.length cp,.int .i64 (at_ : Int),.int .i64 (n : Int)] [] [Pers.row Kd.u8 A b]
    (fun u G Q => u = .tuple #[.int .u64 ((valN (seg b at_ (at_ + n)) : Nat) : Int),.int .i64 ((at_ + n : Nat) : Int),.int .i64 0] ∧ G = [] ∧ Q = []) := by
 have hsl : (seg b at_ (at_ + n)).length = n := by rw [seg_length h]; omega
 refine Ct.intro Tryz.func72 rfl rfl rfl (fun c hc => ?_)
 refine GC.rg 3 ?_;refine GC.seq' ?_;refine GC.block ?_;refine GC.rr 1 ?_;refine GL.cl Tryz.call94 [] [] rfl rfl rfl (by exact sized_ok n hn hn') ?_
 rintro _ _ _ ⟨rfl,rfl,rfl⟩
 refine GL.rz 2 ?_;refine GC.cond_false rfl ?_;refine GC.rr 3 ?_;refine GL.sp 19 ?_ ?_
 ·intro h1; try simp only [tst_] at h1
  first
  | (exfalso; omega)
  |(skip
    refine GL.rz 6 ?_;refine GC.cond_true rfl ?_;refine GC.rg 3 ?_;refine GC.ret (Fin.b3 6 7 8 [] [] ?_)
    obtain rfl : k = (seg b at_ (at_ + n)).length := by omega
    rw [List.take_length]
    exact ⟨rfl,rfl,rfl⟩)
 intro h1; try simp only [tst_] at h1
 first
 | (exfalso; omega)
 |(skip
   refine GL.rz 6 ?_;refine GC.co ?_ ?_
   ·intro h2; try simp only [tst_] at h2
    first
    | (exfalso; omega)
    |(skip
      refine GC.rg 3 ?_;refine GC.ret (Fin.b3 6 7 8 [] [] ?_)
      obtain rfl : k = (seg b at_ (at_ + n)).length := by omega
      rw [List.take_length]
      exact ⟨rfl,rfl,rfl⟩)
   intro h2; try simp only [tst_] at h2
   first
   | (exfalso; omega)
   |(skip
     refine GC.rr 4 ?_;refine GL.pure rfl (p_sub rfl rfl (w64 (by omega) (by omega))) ?_;refine GL.rz 2 ?_;refine GC.co ?_ ?_
     ·intro h3; try simp only [tst_] at h3
      first
      | (exfalso; omega)
      |(skip
        refine GC.rg 3 ?_;refine GC.ret (Fin.b3 6 7 8 [] [] ?_)
        obtain rfl : k = (seg b at_ (at_ + n)).length := by omega
        rw [List.take_length]
        exact ⟨rfl,rfl,rfl⟩)
     intro h3; try simp only [tst_] at h3
     first
     | (exfalso; omega)
     |(skip
       refine GC.skip (?_ : GC _ _ _ _)
       refine GC.rg 1 ?_;refine GC.seq' ?_;refine GC.rr 4 ?_;refine GL.pure rfl (p_add rfl rfl (w64 (by omega) (by omega))) ?_;refine GL.step rfl (t_cut_lh (j := 0) rfl rfl rfl rfl rfl Tryz.underlying47 sz_5 (by omega) (by omega) (by omega) (by omega)) ?_
       rw [show ((at_ : Int)).toNat = at_ from rfl,show ((at_ : Int) + (n : Int)).toNat = at_ + n from rfl]
       refine GL.rz 2 ?_;refine GC.block ?_;refine GC.loopK1 (ks := [1,2,37,38]) (is := []) (js := [0,1]) (fun (k : Nat) => k ≤ n) (fun (k : Nat) => [(9,.int .u64 ((valN ((seg b at_ (at_ + n)).take k) : Nat) : Int)),(39,.int .i64 (k : Int))]) (fun (k : Nat) => []) (fun (k : Nat) => []) (fun (k : Nat) => n - k) (0) rfl rfl rfl (fun a w h => ⟨by omega,h.cutK (is := []) (js := [0,1]) (ks := [1,2,37,38]) ⟨rfl,rfl,trivial⟩ rfl rfl rfl⟩) ?_
       intro k hk
       try dsimp only [List.cons_append,List.nil_append] at hk ⊢
       refine GC.rg 1 ?_;refine GC.seq' ?_;refine GC.co ?_ ?_
       ·intro h4; try simp only [tst_] at h4
        first
        | (exfalso; omega)
        |(skip
          refine GC.skip (?_ : GC _ _ _ _)
          refine GC.seq' ?_;refine GC.block ?_;refine GC.rr 1 ?_;refine GL.step rfl (t_index (i := 0) rfl rfl rfl rfl Tryz.underlying47 sz_5 (by omega) (gt_ok (by omega) (by omega))) (GL.ex fun p_x42 => GL.ex fun r_x42 => GL.and fun ok_x42 => ?_)
          rcases r_x42 with _
          refine GL.step rfl (t_mem rfl (m_loadP (i := 0) rfl rfl ag_5 rfl)) ?_;refine GL.rz 2 ?_;refine GC.region ?_;refine GL.rn 2 ?_;refine GL.pure rfl (p_convR (t := 5) (r := (((gt (seg b at_ (at_ + n)) (k : Int)).toNat : Nat) : Int)) (by rw [Tryz.underlying5]; simp) Tryz.underlying45 rfl (cvU (by omega) (by have := (gt (seg b at_ (at_ + n)) (k : Int)).toNat_lt; omega))) ?_
          refine GL.rn 1 ?_;refine GL.pure rfl (p_mul rfl rfl (w64 (by omega) (by omega))) ?_;refine GL.pure rfl (p_convR (t := 3) (r := ((8 * k : Nat) : Int)) (by rw [Tryz.underlying3]; simp) Tryz.underlying195 rfl (by rw [cvU (by omega) (by omega)]; omega)) ?_
          refine GL.pure rfl (p_shlR (r := (((gt (seg b at_ (at_ + n)) (k : Int)).toNat * 256 ^ k : Nat) : Int)) rfl rfl (by omega) (shl8 (by omega) (gt (seg b at_ (at_ + n)) (k : Int)).toNat_lt)) ?_;refine GL.pure rfl (p_orR (r := ((valN ((seg b at_ (at_ + n)).take k) + (gt (seg b at_ (at_ + n)) (k : Int)).toNat * 256 ^ k : Nat) : Int)) rfl rfl (or8 (by omega) (by have := valN_lt ((seg b at_ (at_ + n)).take k); rwa [List.length_take,Nat.min_eq_left (by omega)] at this) (gt (seg b at_ (at_ + n)) (k : Int)).toNat_lt)) ?_
          refine GL.rn 1 ?_
          refine GL.nil (?_ : GC _ _ _ _)
          refine GC.region ?_;refine GL.pure rfl (p_add rfl rfl (w64 (by omega) (by omega))) ?_;refine GL.rn 1 ?_;refine GL.nil ?_
          exact fun a w h => ⟨(k + 1),(by omega),by omega,by rw [take_gt (by omega),valN_snoc,List.length_take,Nat.min_eq_left (by omega)]; exact h.ct [] [1,2]⟩)
       intro h4; try simp only [tst_] at h4
       first
       | (exfalso; omega)
       |(skip
         refine GC.exit (?_ : GC _ _ _ _)
         refine GC.rr 3 ?_;refine GL.pure rfl (p_add rfl rfl (w64 (by omega) (by omega))) ?_;refine GL.rz 3 ?_;refine GC.ret (Fin.b3 6 7 8 [] [] ?_)
         obtain rfl : k = (seg b at_ (at_ + n)).length := by omega
         rw [List.take_length]
         exact ⟨rfl,rfl,rfl⟩))))
theorem get_short (A : Option Addr) (b : List UInt8) (cp at_ n : Nat) (hn : 1 ≤ n) (hn' : n ≤ 8) (hb' : b.length ≤ 140737488355328) (h1_ : at_ ≤ b.length) (h : b.length < at_ + n) : Ct Tryz.prog 72 [.slice A b.length cp,.int .i64 (at_ : Int),.int .i64 (n : Int)] [] [Pers.row Kd.u8 A b]
    (fun u G Q => u = .tuple #[.int .u64 0,.int .i64 0,.int .i64 10] ∧ G = [] ∧ Q = []) := by
 refine Ct.intro Tryz.func72 rfl rfl rfl (fun c hc => ?_)
 refine GC.rg 3 ?_;refine GC.seq' ?_;refine GC.block ?_;refine GC.rr 1 ?_;refine GL.cl Tryz.call94 [] [] rfl rfl rfl (by exact sized_ok n hn hn') ?_
 rintro _ _ _ ⟨rfl,rfl,rfl⟩
 refine GL.rz 2 ?_;refine GC.cond_false rfl ?_;refine GC.rr 3 ?_;refine GL.sp 19 ?_ ?_
 ·intro h1; try simp only [tst_] at h1
  first
  | (exfalso; omega)
  |(skip
    refine GL.rz 6 ?_;refine GC.cond_true rfl ?_;refine GC.rg 3 ?_;refine GC.ret (Fin.b3 6 7 8 [] [] ?_)
    exact ⟨rfl,rfl,rfl⟩)
 intro h1; try simp only [tst_] at h1
 first
 | (exfalso; omega)
 |(skip
   refine GL.rz 6 ?_;refine GC.co ?_ ?_
   ·intro h2; try simp only [tst_] at h2
    first
    | (exfalso; omega)
    |(skip
      refine GC.rg 3 ?_;refine GC.ret (Fin.b3 6 7 8 [] [] ?_)
      exact ⟨rfl,rfl,rfl⟩)
   intro h2; try simp only [tst_] at h2
   first
   | (exfalso; omega)
   |(skip
     refine GC.rr 4 ?_;refine GL.pure rfl (p_sub rfl rfl (w64 (by omega) (by omega))) ?_;refine GL.rz 2 ?_;refine GC.co ?_ ?_
     ·intro h3; try simp only [tst_] at h3
      first
      | (exfalso; omega)
      |(skip
        refine GC.rg 3 ?_;refine GC.ret (Fin.b3 6 7 8 [] [] ?_)
        exact ⟨rfl,rfl,rfl⟩)
     intro h3; try simp only [tst_] at h3
     exfalso; omega))
theorem bequal_ct (A : Option Addr) (x : List UInt8) (cp : Nat) (B : Option Addr) (y : List UInt8) (cq : Nat) (hl : x.length ≤ 140737488355328) : Ct Tryz.prog 108 [.slice A x.length cp,.slice B y.length cq] [] [Pers.row Kd.u8 A x,Pers.row Kd.u8 B y] (fun u G Q => u = .bool (decide (x = y)) ∧ G = [] ∧ Q = []) := by
 refine Ct.intro Tryz.func108 rfl rfl rfl (fun c hc => ?_)
 refine GC.rg 1 ?_;refine GC.seq' ?_;refine GC.rg 5 ?_;refine GC.co ?_ ?_
 ·intro h1; try simp only [tst_] at h1
  refine GC.rg 1 ?_;refine GC.ret (Fin.b1 4 [] [] ?_)
  exact zq8_
 intro h1; try simp only [tst_] at h1
 refine GC.skip (?_ : GC _ _ _ _)
 refine GC.seq' ?_;refine GC.rg 3 ?_;refine GC.block ?_;refine GC.loopK1 (ks := [0,1,12]) (is := []) (js := [0,1]) (fun (k : Nat) => k ≤ x.length ∧ ∀ j : Nat,j < k → gt x (j : Int) = gt y (j : Int)) (fun (k : Nat) => [(13,.int .i64 (k : Int))]) (fun (k : Nat) => []) (fun (k : Nat) => []) (fun (k : Nat) => x.length - k) (0) rfl rfl rfl (fun a w h => ⟨⟨by omega,fun j hj => by omega⟩,h.cutK (is := []) (js := [0,1]) (ks := [0,1,12]) ⟨rfl,trivial⟩ rfl rfl rfl⟩) ?_
 intro k hk
 try dsimp only [List.cons_append,List.nil_append] at hk ⊢
 obtain ⟨hk,he⟩ := hk
 refine GC.rg 1 ?_;refine GC.seq' ?_;refine GC.co ?_ ?_
 ·intro h2; try simp only [tst_] at h2
  refine GC.skip (?_ : GC _ _ _ _)
  refine GC.seq' ?_;refine GC.block ?_;refine GC.rg 2 ?_;refine GC.seq' ?_;refine GC.layQ (y := .tmp 5) (j := 0) rfl rfl (by omega) (gt_ok (by omega) (by omega)) (fun p_x18 r_x18 hA_x18 ok_x18 => ?_)
  rcases r_x18 with _
  refine GC.layQ (y := .tmp 5) (j := 2) rfl rfl (by omega) (gt_ok (by omega) (by omega)) (fun p_x22 r_x22 hA_x22 ok_x22 => ?_)
  rcases r_x22 with _
  refine GC.regionQ wide_ (by kernel_rfl) ?_;refine GQ.rn 2 ?_;refine GQ.step rfl (q_pure (p_indexL hA_x18 rfl rfl Tryz.underlying47 sz_5 (by omega) (by omega))) ?_;refine GQ.step rfl (q_mem (m_loadP (i := 1) rfl rfl ag_5 rfl)) ?_
  refine GQ.rn 2 ?_;refine GQ.step rfl (q_pure (p_indexL hA_x22 rfl rfl Tryz.underlying47 sz_5 (by omega) (by omega))) ?_;refine GQ.step rfl (q_mem (m_loadP (i := 0) rfl rfl ag_5 rfl)) ?_;refine GQ.rn 1 ?_
  refine GQ.nil (?_ : GC _ _ _ _)
  refine GC.co ?_ ?_
  ·intro h3; try simp only [tst_] at h3
   refine GC.rg 1 ?_;refine GC.ret (Fin.b1 4 [] [] ?_)
   exact zq9_
  intro h3; try simp only [tst_] at h3
  refine GC.skip (?_ : GC _ _ _ _)
  refine GC.region ?_;refine GL.pure rfl (p_add rfl rfl (w64 (by omega) (by omega))) ?_;refine GL.rn 1 ?_;refine GL.nil ?_
  exact fun a w h => ⟨(k + 1),(by omega),⟨by omega,fun j hj => (Nat.lt_succ_iff_lt_or_eq.1 hj).elim (he j) (fun e => by subst e; exact UInt8.toNat_inj.1 (by omega))⟩,h.ct [] [2,3]⟩
 intro h2; try simp only [tst_] at h2
 refine GC.exit (?_ : GC _ _ _ _)
 refine GC.rg 1 ?_;refine GC.ret (Fin.b1 4 [] [] ?_)
 exact zq10_
theorem leN4 (v : Nat) : leN 4 v = [UInt8.ofNat (v % 256),UInt8.ofNat (v / 256 ^ 1 % 256),UInt8.ofNat (v / 256 ^ 2 % 256),UInt8.ofNat (v / 256 ^ 3 % 256)] := by
  simp [leN,Nat.div_div_eq_div_mul]
abbrev crcB (b : List UInt8) : BitVec 32 := moreB 0#32 b
def sealB (b : List UInt8) : List UInt8 := b ++ leN 4 (crcB b).toNat
theorem sealB_len (b : List UInt8) : (sealB b).length = b.length + 4 := by simp [sealB,leN_length]
theorem shr1 (v : Nat) : (v : Int).fdiv (2 ^ (min (8 : Int).toNat IntKind.u32.bits)) = ((v / 256 ^ 1 : Nat) : Int) := by
  rw [show min (8 : Int).toNat IntKind.u32.bits = 8 from rfl,← fdivN]; rfl
theorem shr2 (v : Nat) : (v : Int).fdiv (2 ^ (min (16 : Int).toNat IntKind.u32.bits)) = ((v / 256 ^ 2 : Nat) : Int) := by
  rw [show min (16 : Int).toNat IntKind.u32.bits = 16 from rfl,← fdivN]; rfl
theorem shr3 (v : Nat) : (v : Int).fdiv (2 ^ (min (24 : Int).toNat IntKind.u32.bits)) = ((v / 256 ^ 3 : Nat) : Int) := by
  rw [show min (24 : Int).toNat IntKind.u32.bits = 24 from rfl,← fdivN]; rfl
theorem cseal_ct (A : Option Addr) (b : List UInt8) (cp : Nat) (s : BitVec 32) (hb : b.length ≤ 10000000000000) : Ct Tryz.prog 102 [.slice A b.length cp,w32 s] [] [Pers.row Kd.u8 A b]
    (fun u G Q => ∃ A' cp',(b ++ leN 4 s.toNat).length ≤ cp' ∧ cp' ≤ 9223372036854775807 ∧ u = .slice A' (b ++ leN 4 s.toNat).length cp' ∧ G = [rowOf A' cp' (b ++ leN 4 s.toNat)] ∧ Q = []) := by
 refine Ct.intro Tryz.func102 rfl rfl rfl (fun c hc => ?_)
 refine GC.rg 1 ?_;refine GC.rr 1 ?_;refine GL.cl Tryz.call95 [] [0] rfl rfl rfl (by exact bclone_ct _ _ _ (by first | assumption | omega)) ?_
 rintro _ _ _ ⟨A6,cp6,l6,k6,rfl,rfl,rfl⟩
 refine GL.rn 1 ?_;refine GL.pure rfl (p_convR (t := 27) (by rw [Tryz.underlying27]; simp) Tryz.underlying5 rfl (wrapB _)) ?_
 refine GL.rn 1 ?_;refine GL.pure rfl (p_shrR rfl rfl (by decide) (shr1 _)) ?_;refine GL.pure rfl (p_convR (t := 27) (by rw [Tryz.underlying27]; simp) Tryz.underlying5 rfl (wrapB _)) ?_
 refine GL.rn 1 ?_;refine GL.pure rfl (p_shrR rfl rfl (by decide) (shr2 _)) ?_;refine GL.pure rfl (p_convR (t := 27) (by rw [Tryz.underlying27]; simp) Tryz.underlying5 rfl (wrapB _)) ?_
 refine GL.rn 1 ?_;refine GL.pure rfl (p_shrR rfl rfl (by decide) (shr3 _)) ?_;refine GL.pure rfl (p_convR (t := 27) (by rw [Tryz.underlying27]; simp) Tryz.underlying5 rfl (wrapB _)) ?_
 refine GL.step rfl (t_buildSlice rfl Tryz.underlying47 sz_5 ze_5 rfl rfl rfl rfl rfl rfl) (GL.ex fun b_t18 => ?_);refine GL.step rfl (t_append (i := 1) (k := 0) rfl el_47 rfl rfl rfl rfl rfl (allOne_mem rfl) (by simp; omega) (fun _ => rfl)) (GL.ex fun v19 => ?_)
 refine GL.rowIs (i := 1) (m' := ((b ++ leN 4 s.toNat)).length) (cs' := ((b ++ leN 4 s.toNat)).map u8v) rfl (by first | (simp only [List.length_append,List.length_cons,List.length_nil,List.append_assoc]; done) | (simp only [List.length_append,List.length_cons,List.length_nil,List.append_assoc]; omega) | (simp [leN4]; done) | (simp [leN4]; omega) | rfl) (by first | (simp only [List.map_append,List.map_cons,List.map_nil,List.append_assoc]; done) | (simp [leN4]; done) | rfl) rfl ?_
 refine GL.shape (i := 1) rfl (fun A_cl6 c_cl6 e_cl6 l_cl6 k_cl6 => ?_)
 subst e_cl6
 refine GL.rz 1 ?_;refine GC.ret (Fin.b1 4 [1] [] ?_)
 exact ⟨_,_,l_cl6,k_cl6,rfl,rfl,rfl⟩
theorem lendF {bL cp e : Nat} {A : Option Addr} {b : List UInt8} {Q : List Pers} {j : Nat} (hj : nthO Q j = some (Pers.row Kd.u8 A b)) (h : b.length ≤ cp) (h' : cp ≤ 9223372036854775807) : ∀ (w : World) (S : Blocks),(∀ o ∈ [Own.cells bL [.slice A b.length cp] e],o.holds w) → (∀ k ∈ keysOf [Own.cells bL [.slice A b.length cp] e],S k) → (∀ q ∈ Q,q.h w S) → ∀ q ∈ [Pers.row kBytes (some ⟨bL,0,none⟩) [b]],q.h w S := fun w S ho hS hQ q hq => by
  rw [List.mem_singleton.1 hq]
  have hL := ho _ (List.mem_cons_self ..)
  have h1 : S bL := hS _ (by simp [keysOf,Own.keys])
  have hb := hQ _ (nthO_mem hj)
  refine .inr ⟨⟨bL,0,none⟩,rfl,h1,(Array.getElem?_eq_some_iff.1 hL).1,fun i x hx => ?_⟩
  cases i with
  | succ i => simp at hx
  | zero =>
    simp only [List.getElem?_cons_zero,Option.some.injEq] at hx
    subst hx
    refine ⟨[.slice A b.length cp],⟨(A,cp),⟨h,h'⟩,rfl,fun q hq => ?_⟩,?_⟩
    · rw [List.mem_singleton.1 hq]; exact hb
    · rw [Nat.zero_mul,add_zero]
      exact cellsAt_blk hL (fun j u hj => by simpa using hj)
theorem cSeal_ct (A : Option Addr) (b : List UInt8) (cp : Nat) (hb : b.length ≤ 10000000000000) (hcp : b.length ≤ cp) (hcp' : cp ≤ 9223372036854775807) : Ct Tryz.prog 69 [.slice A b.length cp] [] [Pers.row Kd.u8 A b]
    (fun u G Q => ∃ A' cp',(sealB b).length ≤ cp' ∧ cp' ≤ 9223372036854775807 ∧ u = .slice A' (sealB b).length cp' ∧ G = [rowOf A' cp' (sealB b)] ∧ Q = []) := by
 refine Ct.intro Tryz.func69 rfl rfl rfl (fun c hc => ?_)
 refine GC.rg 1 ?_;refine GC.rr 2 ?_;refine GL.step rfl (t_buildSlice rfl Tryz.underlying81 sz_47 ze_47 rfl rfl rfl rfl rfl rfl) (GL.ex fun b_t5 => ?_);refine GL.step rfl (t_lend rfl Tryz.call103 rfl (is := []) (ls := [0]) (js := []) rfl rfl rfl (lendF (A := A) (b := b) (cp := cp) (j := 0) (by exact rfl) hcp hcp') (by exact csum_ct _ b _ (by omega)) (by rintro _ _ _ ⟨rfl,rfl,rfl⟩; rfl)) (GL.retL ?_)
 rintro _ _ ⟨rfl,rfl,_⟩
 refine GL.cl Tryz.call102 [] [0] rfl rfl rfl (by exact cseal_ct _ b _ (crcB b) hb) ?_
 rintro _ _ _ ⟨A7,cp7,l7,k7,rfl,rfl,rfl⟩
 refine GL.rz 1 ?_;refine GC.ret (Fin.b1 2 [0] [] ?_)
 exact ⟨_,_,l7,k7,rfl,rfl,rfl⟩
theorem copen_ok (A : Option Addr) (b : List UInt8) (cp : Nat) (hb : b.length ≤ 10000000000000) (hcp : b.length ≤ cp) (hcp' : cp ≤ 9223372036854775807) (h4 : 4 ≤ b.length) (ho : sealB (seg b 0 (b.length - 4)) = b) : Ct Tryz.prog 73 [.slice A b.length cp] [] [Pers.row Kd.u8 A b]
    (fun u G Q => ∃ A' cp',(seg b 0 (b.length - 4)).length ≤ cp' ∧ cp' ≤ 9223372036854775807 ∧ u = .tuple #[.slice A' (seg b 0 (b.length - 4)).length cp',.int .i64 0] ∧ G = [rowOf A' cp' (seg b 0 (b.length - 4))] ∧ Q = []) := by
 have hsl : (seg b 0 (b.length - 4)).length = b.length - 4 := by rw [seg_length (by omega)]; omega
 have e4 : ((b.length : Int) - 4).toNat = b.length - 4 := by omega
 refine Ct.intro Tryz.func73 rfl rfl rfl (fun c hc => ?_)
 refine GC.rg 2 ?_;refine GC.seq' ?_;refine GC.rg 3 ?_;refine GC.co ?_ ?_
 ·intro h1; try simp only [tst_] at h1
  first
  | (exfalso; omega)
  |(skip
    refine GC.rg 2 ?_;refine GC.ret (Fin.b2 2 3 [] [] ?_)
    skip)
 intro h1; try simp only [tst_] at h1
 first
 | (exfalso; omega)
 |(skip
   refine GC.skip (?_ : GC _ _ _ _)
   refine GC.rr 3 ?_;refine GL.pure rfl (p_sub rfl rfl (w64 (by omega) (by omega))) ?_;refine GL.step rfl (t_cut_h (j := 0) rfl rfl rfl rfl Tryz.underlying47 sz_5 (by omega) (by omega) (by omega)) ?_
   rw [e4]
   refine GL.rz 1 ?_;refine GC.seq' ?_;refine GC.rr 1 ?_;refine GL.cl Tryz.call69 [] [0] rfl rfl rfl (by exact cSeal_ct _ (seg b 0 (b.length - 4)) _ (by omega) (by omega) (by omega)) ?_
   rintro _ _ _ ⟨A14,cp14,l14,k14,rfl,rfl,rfl⟩
   refine GL.freezeB (i := 0) rfl ?_;refine GL.rn 1 ?_;refine GL.cl Tryz.call108 [] [0,2] rfl rfl rfl (by exact bequal_ct _ (sealB (seg b 0 (b.length - 4))) _ _ b _ (by rw [sealB_len]; omega)) ?_
   rintro _ _ _ ⟨rfl,rfl,rfl⟩
   refine GL.rz 1 ?_;refine GC.co ?_ ?_
   ·intro h2; try simp only [tst_] at h2
    first
    | (exfalso; omega)
    |(skip
      refine GC.rg 2 ?_;refine GC.ret (Fin.b2 2 3 [] [] ?_)
      exact absurd ho (by assumption))
   intro h2; try simp only [tst_] at h2
   first
   | (exfalso; omega)
   |(skip
     refine GC.skip (?_ : GC _ _ _ _)
     refine GC.rr 1 ?_;refine GL.cl Tryz.call95 [] [1] rfl rfl rfl (by exact bclone_ct _ (seg b 0 (b.length - 4)) _ (by omega)) ?_
     rintro _ _ _ ⟨A19,cp19,l19,k19,rfl,rfl,rfl⟩
     refine GL.rz 2 ?_;refine GC.ret (Fin.b2 2 3 [0] [] ?_)
     exact ⟨_,_,l19,k19,rfl,rfl,rfl⟩))
theorem copen_bad (A : Option Addr) (b : List UInt8) (cp : Nat) (hb : b.length ≤ 10000000000000) (hcp : b.length ≤ cp) (hcp' : cp ≤ 9223372036854775807) (h4 : 4 ≤ b.length) (ho : ¬ sealB (seg b 0 (b.length - 4)) = b) : Ct Tryz.prog 73 [.slice A b.length cp] [] [Pers.row Kd.u8 A b]
    (fun u G Q => u = .tuple #[.slice none 0 0,.int .i64 31] ∧ G = [] ∧ Q = []) := by
 have hsl : (seg b 0 (b.length - 4)).length = b.length - 4 := by rw [seg_length (by omega)]; omega
 have e4 : ((b.length : Int) - 4).toNat = b.length - 4 := by omega
 refine Ct.intro Tryz.func73 rfl rfl rfl (fun c hc => ?_)
 refine GC.rg 2 ?_;refine GC.seq' ?_;refine GC.rg 3 ?_;refine GC.co ?_ ?_
 ·intro h1; try simp only [tst_] at h1
  first
  | (exfalso; omega)
  |(skip
    refine GC.rg 2 ?_;refine GC.ret (Fin.b2 2 3 [] [] ?_)
    skip)
 intro h1; try simp only [tst_] at h1
 first
 | (exfalso; omega)
 |(skip
   refine GC.skip (?_ : GC _ _ _ _)
   refine GC.rr 3 ?_;refine GL.pure rfl (p_sub rfl rfl (w64 (by omega) (by omega))) ?_;refine GL.step rfl (t_cut_h (j := 0) rfl rfl rfl rfl Tryz.underlying47 sz_5 (by omega) (by omega) (by omega)) ?_
   rw [e4]
   refine GL.rz 1 ?_;refine GC.seq' ?_;refine GC.rr 1 ?_;refine GL.cl Tryz.call69 [] [0] rfl rfl rfl (by exact cSeal_ct _ (seg b 0 (b.length - 4)) _ (by omega) (by omega) (by omega)) ?_
   rintro _ _ _ ⟨A14,cp14,l14,k14,rfl,rfl,rfl⟩
   refine GL.freezeB (i := 0) rfl ?_;refine GL.rn 1 ?_;refine GL.cl Tryz.call108 [] [0,2] rfl rfl rfl (by exact bequal_ct _ (sealB (seg b 0 (b.length - 4))) _ _ b _ (by rw [sealB_len]; omega)) ?_
   rintro _ _ _ ⟨rfl,rfl,rfl⟩
   refine GL.rz 1 ?_;refine GC.co ?_ ?_
   ·intro h2; try simp only [tst_] at h2
    first
    | (exfalso; omega)
    |(skip
      refine GC.rg 2 ?_;refine GC.ret (Fin.b2 2 3 [] [] ?_)
      exact ⟨rfl,rfl,rfl⟩)
   intro h2; try simp only [tst_] at h2
   first
   | (exfalso; omega)
   |(skip
     refine GC.skip (?_ : GC _ _ _ _)
     refine GC.rr 1 ?_;refine GL.cl Tryz.call95 [] [1] rfl rfl rfl (by exact bclone_ct _ (seg b 0 (b.length - 4)) _ (by omega)) ?_
     rintro _ _ _ ⟨A19,cp19,l19,k19,rfl,rfl,rfl⟩
     refine GL.rz 2 ?_;refine GC.ret (Fin.b2 2 3 [] [] ?_)
     exact absurd (by assumption) ho))
def headB (body : List UInt8) : List UInt8 := [80,76,4,0] ++ leN 8 0 ++ leN 4 body.length ++ body
def frameB (body : List UInt8) : List UInt8 := sealB (headB body)
theorem headB_len (body : List UInt8) : (headB body).length = body.length + 16 := by simp [headB,leN_length]; omega
theorem frameB_len (body : List UInt8) : (frameB body).length = body.length + 20 := by rw [frameB,sealB_len,headB_len]
theorem fwrite_ct (A : Option Addr) (b : List UInt8) (cp : Nat) (hb : b.length ≤ 16777216) : Ct Tryz.prog 43 [.agg #[.int .u8 4,.int .u64 0,.slice A b.length cp]] [] [Pers.row Kd.u8 A b]
    (fun u G Q => ∃ A' cp',(frameB b).length ≤ cp' ∧ cp' ≤ 9223372036854775807 ∧ u = .tuple #[.slice A' (frameB b).length cp',.int .i64 0] ∧ G = [rowOf A' cp' (frameB b)] ∧ Q = []) := by
 refine Ct.intro Tryz.func43 rfl rfl rfl (fun c hc => ?_)
 refine GC.sr_ ?_;refine GL.step rfl (t_box rfl rfl rfl) (GL.ex fun b_t1 => ?_);refine GL.rz 2 ?_;refine GC.rr 1 ?_;refine GL.ld_ 0 ?_;refine GL.step rfl (t_buildSlice rfl Tryz.underlying47 sz_5 ze_5 rfl rfl rfl rfl rfl rfl) (GL.ex fun b_t10 => ?_)
 refine GL.freezeC (enc := u8v) (xs := [(80 : UInt8),76,4,0]) (h1 := fun _ => rfl) (i := 0) rfl ?_;refine GL.rn 1 ?_;refine GL.ld_ 0 ?_;refine GL.cl Tryz.call66 [] [0] rfl rfl rfl (by exact oput_ct _ [(80 : UInt8),76,4,0] _ 0 8 (by omega) (by omega) (by simp) (by decide)) ?_
 rintro _ _ _ ⟨A13,cp13,l13,k13,rfl,rfl,rfl⟩
 refine GL.rz 5 ?_;refine GC.rr 2 ?_;refine GL.ld_ 1 ?_;refine GL.freezeB (i := 0) rfl ?_;refine GL.cl Tryz.call68 [] [0,2] rfl rfl rfl (by exact otext_ct _ ([(80 : UInt8),76,4,0] ++ leN 8 0) _ _ b _ (by simp [leN_length]) hb) ?_
 rintro _ _ _ ⟨A20,cp20,l20,k20,rfl,rfl,rfl⟩
 refine GL.rz 5 ?_;refine GC.seq' ?_;refine GC.rg 2 ?_;refine GC.cond_false rfl ?_
 refine GC.skip (?_ : GC _ _ _ _)
 refine GC.sr_ ?_;refine GL.freezeB (i := 0) rfl ?_;refine GL.rn 1 ?_;refine GL.cl Tryz.call69 [] [0] rfl rfl rfl (by exact cSeal_ct _ (headB b) _ (by rw [headB_len]; omega) l20 k20) ?_
 rintro _ _ _ ⟨A27,cp27,l27,k27,rfl,rfl,rfl⟩
 refine GL.rz 2 ?_;refine GC.ret (Fin.b2 2 3 [0] [] ?_)
 exact ⟨_,_,l27,k27,rfl,rfl,rfl⟩
theorem seg_seg {α : Type} {b : List α} {m l h : Nat} (hh : h ≤ m) : seg (seg b 0 m) l h = seg b l h := by
  simp only [seg,List.drop_zero,List.take_take,Nat.min_eq_left hh]
theorem gt_seg {b : List UInt8} {m : Nat} {i : Nat} (hi : i < m) : gt (seg b 0 m) (i : Int) = gt b (i : Int) := by
  simp only [gt,seg,List.drop_zero,Int.toNat_natCast,List.getD_eq_getElem?_getD,List.getElem?_take,if_pos hi]
abbrev rdN (b : List UInt8) : Nat := valN (seg b 12 (12 + 4))
def rdE (b : List UInt8) : Int :=
  if b.length < 16 then 10
  else if ¬ ((gt b 0).toNat = 80 ∧ (gt b 1).toNat = 76 ∧ (gt b 3).toNat = 0 ∧ rdN b ≤ 16777216) then 30
  else if b.length < rdN b + 20 then 10
  else if ¬ sealB (seg b 0 (rdN b + 16)) = seg b 0 (rdN b + 20) then 31 else 0
theorem rd1 {b : List UInt8} (h : b.length < 16) : rdE b = 10 := if_pos h
theorem rd2 {b : List UInt8} (h : ¬ b.length < 16) (h2 : ¬ ((gt b 0).toNat = 80 ∧ (gt b 1).toNat = 76 ∧ (gt b 3).toNat = 0 ∧ rdN b ≤ 16777216)) : rdE b = 30 := by rw [rdE,if_neg h,if_pos h2]
theorem rd3 {b : List UInt8} (h : ¬ b.length < 16) (h2 : (gt b 0).toNat = 80 ∧ (gt b 1).toNat = 76 ∧ (gt b 3).toNat = 0 ∧ rdN b ≤ 16777216) (h3 : b.length < rdN b + 20) : rdE b = 10 := by rw [rdE,if_neg h,if_neg (not_not_intro h2),if_pos h3]
theorem rd4 {b : List UInt8} (h : ¬ b.length < 16) (h2 : (gt b 0).toNat = 80 ∧ (gt b 1).toNat = 76 ∧ (gt b 3).toNat = 0 ∧ rdN b ≤ 16777216) (h3 : ¬ b.length < rdN b + 20) (h4 : ¬ sealB (seg b 0 (rdN b + 16)) = seg b 0 (rdN b + 20)) : rdE b = 31 := by rw [rdE,if_neg h,if_neg (not_not_intro h2),if_neg h3,if_pos h4]
theorem rd5 {b : List UInt8} (h : ¬ b.length < 16) (h2 : (gt b 0).toNat = 80 ∧ (gt b 1).toNat = 76 ∧ (gt b 3).toNat = 0 ∧ rdN b ≤ 16777216) (h3 : ¬ b.length < rdN b + 20) (h4 : sealB (seg b 0 (rdN b + 16)) = seg b 0 (rdN b + 20)) : rdE b = 0 := by rw [rdE,if_neg h,if_neg (not_not_intro h2),if_neg h3,if_neg (not_not_intro h4)]
theorem copen_ok' (A : Option Addr) (b : List UInt8) (cp : Nat) (y : List UInt8) (hy : seg b 0 (b.length - 4) = y) (hb : b.length ≤ 10000000000000) (hcp : b.length ≤ cp) (hcp' : cp ≤ 9223372036854775807) (h4 : 4 ≤ b.length) (ho : sealB y = b) : Ct Tryz.prog 73 [.slice A b.length cp] [] [Pers.row Kd.u8 A b]
    (fun u G Q => ∃ A' cp',y.length ≤ cp' ∧ cp' ≤ 9223372036854775807 ∧ u = .tuple #[.slice A' y.length cp',.int .i64 0] ∧ G = [rowOf A' cp' y] ∧ Q = []) := by
  subst hy; exact copen_ok A b cp hb hcp hcp' h4 ho
def rdR (b : List UInt8) (k s : Int) (bd : List UInt8) (n : Int) : Prop := rdE b = 0 → k = ((gt b 2).toNat : Int) ∧ s = ((valN (seg b 4 12) : Nat) : Int) ∧ bd = seg b 16 (rdN b + 16) ∧ n = ((rdN b + 20 : Nat) : Int) ∧ rdN b + 20 ≤ b.length
theorem fread_ct (A : Option Addr) (b : List UInt8) (cp : Nat) (hb : b.length ≤ 200000000000000) (hcp : b.length ≤ cp) (hcp' : cp ≤ 9223372036854775807) : Ct Tryz.prog 47 [.slice A b.length cp,.int .i64 0] [] [Pers.row Kd.u8 A b]
    (fun u G Q => ∃ k s A' bd c' n,bd.length ≤ c' ∧ c' ≤ 9223372036854775807 ∧ rdR b k s bd n ∧ u = .tuple #[.agg #[.int .u8 k,.int .u64 s,.slice A' bd.length c'],.int .i64 n,.int .i64 (rdE b)] ∧ G = [] ∧ Q = [Pers.row Kd.u8 A' bd]) := by
 have hrd : valN (seg b 12 (12 + 4)) = rdN b := rfl
 refine Ct.intro Tryz.func47 rfl rfl rfl (fun c hc => ?_)
 refine GC.sr_ ?_;refine GL.step rfl (t_alloc rfl ze_121) (GL.ex fun b_t4 => ?_);refine GL.rz 2 ?_;refine GC.seq' ?_;refine GC.rr 3 ?_;refine GL.sp 19 ?_ ?_
 ·intro h1; try simp only [tst_] at h1
  first
  | (exfalso; omega)
  |(skip
    refine GL.rz 5 ?_;refine GC.cond_true rfl ?_;refine GC.sr_ ?_;refine GL.pure rfl (p_build ze_121 of_121 rfl rfl) ?_;refine GL.sn_ 0 ?_;refine GL.rz 2 ?_
    skip
    refine GC.ret (Fin.c2 4 121 5 6 0 3 [] [0] ?_)
    skip)
 intro h1; try simp only [tst_] at h1
 first
 | (exfalso; omega)
 |(skip
   refine GL.rz 5 ?_;refine GC.co ?_ ?_
   ·intro h2; try simp only [tst_] at h2
    first
    | (exfalso; omega)
    |(skip
      refine GC.sr_ ?_;refine GL.pure rfl (p_build ze_121 of_121 rfl rfl) ?_;refine GL.sn_ 0 ?_;refine GL.rz 2 ?_
      skip
      refine GC.ret (Fin.c2 4 121 5 6 0 3 [] [0] ?_)
      skip)
   intro h2; try simp only [tst_] at h2
   first
   | (exfalso; omega)
   |(skip
     refine GC.skip (?_ : GC _ _ _ _)
     refine GC.rr 2 ?_;refine GL.step rfl (t_cut_l (j := 0) rfl rfl rfl rfl Tryz.underlying47 sz_5 (by omega) (by omega) (by omega)) ?_
     rw [show (0 : Int).toNat = 0 from rfl,seg_all]
     refine GL.rz 1 ?_;refine GC.seq' ?_;refine GC.rg 3 ?_;refine GC.co ?_ ?_
     ·intro h3; try simp only [tst_] at h3
      first
      | (exfalso; omega)
      |(skip
        refine GC.sr_ ?_;refine GL.pure rfl (p_build ze_121 of_121 rfl rfl) ?_;refine GL.sn_ 0 ?_;refine GL.rz 2 ?_;refine GC.know (q := Pers.row Kd.u8 none []) (fun _ _ _ => .inl rfl) ?_;refine GC.ret (Fin.c2 4 121 5 6 0 3 [] [0] ?_)
        have e := rd1 (b := b) (by omega)
        exact ⟨0,0,none,[],0,0,by simp,by simp,fun h => by omega,by rw [e]; rfl,rfl,rfl⟩)
     intro h3; try simp only [tst_] at h3
     first
     | (exfalso; omega)
     |(skip
       refine GC.skip (?_ : GC _ _ _ _)
       refine GC.rr 1 ?_;refine GL.cl Tryz.call72 [] [0] rfl rfl rfl (by exact get_ok _ b _ 12 4 (by omega) (by omega) (by omega) (by omega) (by omega)) ?_
       rintro _ _ _ ⟨rfl,rfl,rfl⟩
       refine GL.rz 7 ?_;refine GC.seq' ?_;refine GC.rr 1 ?_;refine GL.step rfl (t_index (i := 0) rfl rfl rfl rfl Tryz.underlying47 sz_5 (by omega) (gt_ok (by omega) (by omega))) (GL.ex fun p_x40 => GL.ex fun r_x40 => GL.and fun ok_x40 => ?_)
       rcases r_x40 with _
       refine GL.step rfl (t_mem rfl (m_loadP (i := 0) rfl rfl ag_5 rfl)) ?_;refine GL.rn 2 ?_;refine GL.sp 43 ?_ ?_
       ·intro h4; try simp only [tst_] at h4
        first
        | (exfalso; omega)
        |(skip
          refine GL.rz 15 ?_;refine GC.cond_true rfl ?_;refine GC.sr_ ?_;refine GL.pure rfl (p_build ze_121 of_121 rfl rfl) ?_;refine GL.sn_ 0 ?_;refine GL.rz 2 ?_;refine GC.know (q := Pers.row Kd.u8 none []) (fun _ _ _ => .inl rfl) ?_
          refine GC.ret (Fin.c2 4 121 5 6 0 3 [] [0] ?_)
          have e := rd2 (b := b) (by omega) (by omega)
          exact ⟨0,0,none,[],0,0,by simp,by simp,fun h => by omega,by rw [e]; rfl,rfl,rfl⟩)
       intro h4; try simp only [tst_] at h4
       first
       | (exfalso; omega)
       |(skip
         refine GL.rn 1 ?_;refine GL.stepG rfl (s := 43) rfl rfl (t_index (i := 1) rfl rfl rfl rfl Tryz.underlying47 sz_5 (by omega) (gt_ok (by omega) (by omega))) (GL.ex fun p_x45 => GL.ex fun r_x45 => GL.and fun ok_x45 => ?_)
         rcases r_x45 with _
         refine GL.stepG rfl (s := 43) rfl rfl (t_mem rfl (m_loadP (i := 0) rfl rfl ag_5 rfl)) ?_;refine GL.rn 3 ?_;refine GL.sp 49 ?_ ?_
         ·intro h5; try simp only [tst_] at h5
          first
          | (exfalso; omega)
          |(skip
            refine GL.rz 9 ?_;refine GC.cond_true rfl ?_;refine GC.sr_ ?_;refine GL.pure rfl (p_build ze_121 of_121 rfl rfl) ?_;refine GL.sn_ 0 ?_;refine GL.rz 2 ?_;refine GC.know (q := Pers.row Kd.u8 none []) (fun _ _ _ => .inl rfl) ?_
            refine GC.ret (Fin.c2 4 121 5 6 0 3 [] [0] ?_)
            have e := rd2 (b := b) (by omega) (by omega)
            exact ⟨0,0,none,[],0,0,by simp,by simp,fun h => by omega,by rw [e]; rfl,rfl,rfl⟩)
         intro h5; try simp only [tst_] at h5
         first
         | (exfalso; omega)
         |(skip
           refine GL.rn 1 ?_;refine GL.stepG rfl (s := 49) rfl rfl (t_index (i := 2) rfl rfl rfl rfl Tryz.underlying47 sz_5 (by omega) (gt_ok (by omega) (by omega))) (GL.ex fun p_x51 => GL.ex fun r_x51 => GL.and fun ok_x51 => ?_)
           rcases r_x51 with _
           refine GL.stepG rfl (s := 49) rfl rfl (t_mem rfl (m_loadP (i := 0) rfl rfl ag_5 rfl)) ?_;refine GL.rn 3 ?_;refine GL.sp 55 ?_ ?_
           ·intro h6; try simp only [tst_] at h6
            first
            | (exfalso; omega)
            |(skip
              refine GL.rz 3 ?_;refine GC.cond_true rfl ?_;refine GC.sr_ ?_;refine GL.pure rfl (p_build ze_121 of_121 rfl rfl) ?_;refine GL.sn_ 0 ?_;refine GL.rz 2 ?_;refine GC.know (q := Pers.row Kd.u8 none []) (fun _ _ _ => .inl rfl) ?_
              refine GC.ret (Fin.c2 4 121 5 6 0 3 [] [0] ?_)
              have e := rd2 (b := b) (by omega) (by omega)
              exact ⟨0,0,none,[],0,0,by simp,by simp,fun h => by omega,by rw [e]; rfl,rfl,rfl⟩)
           intro h6; try simp only [tst_] at h6
           first
           | (exfalso; omega)
           |(skip
             refine GL.rz 3 ?_;refine GC.co ?_ ?_
             ·intro h7; try simp only [tst_] at h7
              first
              | (exfalso; omega)
              |(skip
                refine GC.sr_ ?_;refine GL.pure rfl (p_build ze_121 of_121 rfl rfl) ?_;refine GL.sn_ 0 ?_;refine GL.rz 2 ?_;refine GC.know (q := Pers.row Kd.u8 none []) (fun _ _ _ => .inl rfl) ?_;refine GC.ret (Fin.c2 4 121 5 6 0 3 [] [0] ?_)
                have e := rd2 (b := b) (by omega) (by omega)
                exact ⟨0,0,none,[],0,0,by simp,by simp,fun h => by omega,by rw [e]; rfl,rfl,rfl⟩)
             intro h7; try simp only [tst_] at h7
             first
             | (exfalso; omega)
             |(skip
               refine GC.skip (?_ : GC _ _ _ _)
               refine GC.rr 1 ?_
               have hnn : rdN b ≤ 16777216 := by omega
               refine GL.pure rfl (p_convR (t := 45) (r := ((rdN b : Nat) : Int)) (by rw [Tryz.underlying45]; simp) Tryz.underlying3 rfl (cvI (by omega) (by omega))) ?_;refine GL.pure rfl (p_add rfl rfl (w64 (by omega) (by omega))) ?_
               refine GL.rz 1 ?_;refine GC.seq' ?_;refine GC.rg 4 ?_;refine GC.co ?_ ?_
               ·intro h8; try simp only [tst_] at h8
                first
                | (exfalso; omega)
                |(skip
                  refine GC.sr_ ?_;refine GL.pure rfl (p_build ze_121 of_121 rfl rfl) ?_;refine GL.sn_ 0 ?_;refine GL.rz 2 ?_;refine GC.know (q := Pers.row Kd.u8 none []) (fun _ _ _ => .inl rfl) ?_;refine GC.ret (Fin.c2 4 121 5 6 0 3 [] [0] ?_)
                  have e := rd3 (b := b) (by omega) (by omega) (by omega)
                  exact ⟨0,0,none,[],0,0,by simp,by simp,fun h => by omega,by rw [e]; rfl,rfl,rfl⟩)
               intro h8; try simp only [tst_] at h8
               first
               | (exfalso; omega)
               |(skip
                 refine GC.skip (?_ : GC _ _ _ _)
                 refine GC.seq' ?_
                 have hsl : (seg b 0 (rdN b + 20)).length = rdN b + 20 := by rw [seg_length (by omega)]; omega
                 have hbl : (seg b 0 (rdN b + 16)).length = rdN b + 16 := by rw [seg_length (by omega)]; omega
                 have hsg : seg (seg b 0 (rdN b + 20)) 0 ((seg b 0 (rdN b + 20)).length - 4) = seg b 0 (rdN b + 16) := by rw [hsl]; exact seg_seg (by omega)
                 by_cases ho : sealB (seg b 0 (rdN b + 16)) = seg b 0 (rdN b + 20)
                 ·skip
                  refine GC.region ?_;refine GL.rn 2 ?_;refine GL.step rfl (t_cut_h (j := 3) rfl rfl rfl rfl Tryz.underlying47 sz_5 (by omega) (by omega) (by omega)) ?_
                  rw [show (((rdN b : Nat) : Int) + 20).toNat = rdN b + 20 from rfl]
                  refine GL.cl Tryz.call73 [] [0] rfl rfl rfl (by exact copen_ok' _ (seg b 0 (rdN b + 20)) _ (seg b 0 (rdN b + 16)) hsg (by omega) (by omega) (by omega) (by omega) ho) ?_
                  rintro _ _ _ ⟨A72,cp72,l72,k72,rfl,rfl,rfl⟩
                  refine GL.rn 5 ?_
                  refine GL.nil (?_ : GC _ _ _ _)
                  refine GC.seq' ?_;refine GC.rg 2 ?_;refine GC.cond_false rfl ?_
                  refine GC.skip (?_ : GC _ _ _ _)
                  refine GC.seq' ?_;refine GC.freezeB (i := 0) rfl ?_;refine GC.region ?_;refine GL.rn 1 ?_;refine GL.cl Tryz.call72 [] [0] rfl rfl rfl (by exact get_ok _ (seg b 0 (rdN b + 16)) _ 4 8 (by omega) (by omega) l72 (by omega) (by omega)) ?_
                  rintro _ _ _ ⟨rfl,rfl,rfl⟩
                  refine GL.rn 7 ?_
                  refine GL.nil (?_ : GC _ _ _ _)
                  refine GC.seq' ?_;refine GC.layQ (y := .const (.int .i64 (2))) (j := 0) rfl rfl (by omega) (gt_ok (by omega) (by omega)) (fun p_x85 r_x85 hA_x85 ok_x85 => ?_)
                  rcases r_x85 with _
                  refine GC.regionC (m := 13) (is := []) (js := (up 0 8)) wide_ rfl rfl rfl ?_;refine GA.tk 0 [] (up 0 8) ?_;refine GA.tp 1 rfl [] (up 0 8) (i_pure (p_indexL hA_x85 rfl rfl Tryz.underlying47 sz_5 (by omega) (by omega))) ?_
                  refine GA.tp 2 rfl [] (up 0 8) (i_mem (m_loadP (i := 0) rfl rfl ag_5 rfl)) ?_;refine GA.tk 3 [] (up 0 8) ?_;refine GA.tk 4 [] (up 0 8) ?_;refine GA.tk 7 [] (up 0 8) ?_;refine GA.tk 8 [] (up 0 8) ?_;refine GA.tp 9 rfl [] (up 0 8) (i_pure (p_add rfl rfl (w64 (by omega) (by omega)))) ?_
                  refine GA.al [5] ?_
                  refine GAs.cons (i := 5) rfl rfl (t_cut_l (j := 1) rfl rfl rfl rfl Tryz.underlying47 sz_5 (by omega) (by omega) (by omega)) (by rintro a w h; exact h.me [] (up 1 8)) ?_ GAs.nil
                  refine GA.tp 6 rfl [] (up 1 8) (i_pure (p_build ze_121 of_121 rfl rfl)) ?_;refine GA.al [10] ?_
                  refine GAs.cons (i := 10) rfl rfl (t_storeN (i := 0) rfl rfl rfl sz_121 rfl rfl rfl) (by rintro a w h; exact h.me [] (up 1 8)) ?_ GAs.nil
                  refine GA.tk 11 [] (up 1 8) ?_;refine GA.tk 12 [] (up 1 8) ?_
                  refine GA.done (by kernel_rfl) (?_ : GC _ _ _ _)
                  refine GC.ret (Fin.c2 4 121 5 6 0 3 [] [0] ?_)
                  have e := rd5 (b := b) (by omega) (by omega) (by omega) ho
                  refine ⟨_,_,_,_,_,_,?_,?_,?_,by rw [e]; rfl,rfl,rfl⟩
                  ·rw [seg_length (by omega),hbl]; show rdN b + 16 - 16 ≤ cp72 - 16; omega
                  ·show cp72 - 16 ≤ _; omega
                  exact fun h => ⟨by rw [show (2 : Int) = ((2 : Nat) : Int) from rfl,gt_seg (by omega)],by rw [seg_seg (by omega)],by rw [hbl]; exact seg_seg (by omega),by omega,by omega⟩
                 skip
                 refine GC.region ?_;refine GL.rn 2 ?_;refine GL.step rfl (t_cut_h (j := 3) rfl rfl rfl rfl Tryz.underlying47 sz_5 (by omega) (by omega) (by omega)) ?_
                 rw [show (((rdN b : Nat) : Int) + 20).toNat = rdN b + 20 from rfl]
                 refine GL.cl Tryz.call73 [] [0] rfl rfl rfl (by exact copen_bad _ (seg b 0 (rdN b + 20)) _ (by omega) (by omega) (by omega) (by omega) (by rw [hsg]; exact ho)) ?_
                 rintro _ _ _ ⟨rfl,rfl,rfl⟩
                 refine GL.rn 5 ?_
                 refine GL.nil (?_ : GC _ _ _ _)
                 refine GC.seq' ?_;refine GC.rg 2 ?_;refine GC.cond_true rfl ?_;refine GC.sr_ ?_;refine GL.pure rfl (p_build ze_121 of_121 rfl rfl) ?_;refine GL.sn_ 0 ?_;refine GL.rz 2 ?_;refine GC.know (q := Pers.row Kd.u8 none []) (fun _ _ _ => .inl rfl) ?_
                 refine GC.ret (Fin.c2 4 121 5 6 0 3 [] [0] ?_)
                 have e := rd4 (b := b) (by omega) (by omega) (by omega) ho
                 exact ⟨0,0,none,[],0,0,by simp,by simp,fun h => by omega,by rw [e]; rfl,rfl,rfl⟩))))))))
structure Pkt where
  b : List UInt8
  bad : Bool
  deriving Inhabited,DecidableEq
def kPkt : Kd Pkt := Kd.iso (Kd.pair kBytes (Kd.bool)) (fun r => (r.b,r.bad))
end Go.Proofs.YtliacpkblicnhaaGreat
namespace Go.Proofs.YtliacpkblicnhaaGreat
open Go Go.Sx Go.Proofs
section
variable (p : Nat) (z : Int) (P : Value) (a b : Int)
theorem bytes_ct (d s : Int) (M : Value) (A : Option Addr) (l : List Pkt) (cp : Nat) (i : Int) (h0 : 0 ≤ i) (h1 : i < (l.length : Int)) (hl : (gt l i).b.length ≤ 140737488355328) : Ct Tryz.prog 18 [.pointer (some ⟨p,0,none⟩),.int .i64 i] [netB p d s z (.slice A l.length cp) M a b] [Pers.row kPkt A l] (fun v G Q => ∃ A' cp',(gt l i).b.length ≤ cp' ∧ cp' ≤ 9223372036854775807 ∧ v = .tuple #[.slice A' (gt l i).b.length cp',.int .i64 0] ∧ G = [netB p d s z (.slice A l.length cp) M a b,rowOf A' cp' (gt l i).b] ∧ Q = []) := by
 refine Ct.intro Tryz.func18 rfl rfl rfl (fun c hc => ?_)
 refine GC.rg 2 ?_;refine GC.seq' ?_;refine GC.rr 2 ?_;refine GL.cl Tryz.call30 [0] [] rfl rfl rfl (by exact atin_ct _ _ _ _ _ _ _ _ _ _ _ h0 h1) ?_
 rintro _ _ _ ⟨rfl,rfl,rfl⟩
 refine GL.rz 1 ?_;refine GC.rg 2 ?_;refine GC.cond_false rfl ?_
 refine GC.skip (?_ : GC _ _ _ _)
 refine GC.rr 3 ?_;refine GL.ld_ 0 ?_;refine GL.rn 1 ?_;refine GL.step rfl (t_index (i := 0) rfl rfl rfl rfl Tryz.underlying36 sz_102 (by omega) (gt_ok (by omega) (by omega))) (GL.ex fun p_x18 => GL.ex fun r_x18 => GL.and fun ok_x18 => ?_)
 rcases r_x18 with ⟨⟨Ax18_0,cpx18_0⟩,_⟩
 refine GL.pure rfl (p_fieldAddr' fo_102_0 rfl) ?_;refine GL.step rfl (t_mem rfl (m_loadP (i := 0) rfl rfl ag_47 rfl)) ?_;refine GL.cl Tryz.call40 [] [1] rfl rfl rfl (by exact clone_ct _ _ _ (by first | assumption | omega)) ?_
 rintro _ _ _ ⟨A21,cp21,l21,k21,rfl,rfl,rfl⟩
 refine GL.rz 2 ?_;refine GC.ret (Fin.b2 4 5 [1,0] [] ?_)
 exact ⟨_,_,by assumption,by assumption,rfl,rfl,rfl⟩
end
end Go.Proofs.YtliacpkblicnhaaGreat
namespace Go.Sx
open Go
section
variable {α : Type} (f g : α → Value)
def pr : List α → List Value
  | [] => []
  | x :: r => f x :: g x :: pr r
theorem pr_len : ∀ xs : List α,(pr f g xs).length = xs.length * 2
  | [] => rfl
  | x :: r => by simp [pr,pr_len r]; omega
theorem pr_app : ∀ xs ys : List α,pr f g (xs ++ ys) = pr f g xs ++ pr f g ys
  | [],ys => rfl
  | x :: r,ys => by simp [pr,pr_app r ys]
theorem pr_get : ∀ (xs : List α) (i : Nat),(pr f g xs)[i * 2]? = xs[i]?.map f ∧ (pr f g xs)[i * 2 + 1]? = xs[i]?.map g
  | [],i => by simp [pr]
  | x :: r,0 => by simp [pr]
  | x :: r,i + 1 => by
    have := pr_get r i
    have e : (i + 1) * 2 = i * 2 + 1 + 1 := by omega
    have e2 : (i + 1) * 2 + 1 = i * 2 + 1 + 1 + 1 := by omega
    simp only [pr,e,List.getElem?_cons_succ]
    exact this
theorem at_pr [Inhabited α] {xs : List α} {sp : List Value} {o : Nat} {i : Nat} (ho : o = i * 2) (h : i < xs.length) : at_ (pr f g xs ++ sp) o [f (gt xs (i : Int)),g (gt xs (i : Int))] := by
  subst ho
  have hg := gt_ok (xs := xs) (i := (i : Int)) (by omega) (by omega)
  simp only [Int.toNat_natCast] at hg
  have := pr_get f g xs i
  rw [hg] at this
  have hl := pr_len f g xs
  simp only [at_,nth_eq,and_true]
  rw [List.getElem?_append_left (by omega),List.getElem?_append_left (by omega)]
  exact this
theorem pr_set : ∀ (xs : List α) (i : Nat) (x : α),i < xs.length → (pr f g xs).take (i * 2) ++ [f x,g x] ++ (pr f g xs).drop (i * 2 + 2) = pr f g (xs.set i x)
  | [],i,x,h => by simp at h
  | y :: r,0,x,_ => by simp [pr]
  | y :: r,i + 1,x,h => by
    have := pr_set r i x (by simpa using h)
    have e : (i + 1) * 2 = i * 2 + 1 + 1 := by omega
    simp only [pr,e,List.take_succ_cons,List.set_cons_succ,List.drop_succ_cons,List.cons_append]
    rw [← this]
theorem upd_pr {xs : List α} {sp : List Value} {o i : Nat} {x : α} (ho : o = i * 2) (h : i < xs.length) : upd (pr f g xs ++ sp) o [f x,g x] = some (pr f g (xs.set i x) ++ sp) := by
  subst ho
  have hl := pr_len f g xs
  rw [upd_at _ _ _ (by simp; omega),← pr_set f g xs i x h]
  rw [List.take_append_of_le_length (by omega),List.drop_append_of_le_length (by simp; omega)]
  simp
end
end Go.Sx
namespace Go.Sx
open Go
section
variable {P : Program} {c : Cx} {n : Nat} {env : List (Nat × Value)} {G G' : List Own} {Q : List Pers} {ty : TypeId} {pos : String} {aft : Array Edge} {g : Option (Nat × Bool)} {x : Operand} {t : TypeId}
theorem t_clearN {i b o dLen dCap : Nat} {zl l l' : List Value} {e e' : TypeId} (hi : nthO G i = some (.cells b l e')) (hx : ev env x = some (.slice (some ⟨b,o,none⟩) dLen dCap)) (ht : P.underlying t = some (.slice e)) (hz : zeroL P e = some zl) (hp : 0 < zl.length) (h1 : allOne zl = true)
    (hfit : o + dLen * zl.length ≤ l.length) (hl' : laid l o (reps zl dLen) = l') (hr : repl G i (.cells b l' e') = some G') :
    Tr P ⟨none,.call { callee := .builtin .clear,args := #[x],argTypes := #[t] },ty,pos,aft,g⟩ (St c n env G Q) (St c n env G' Q) := by
  intro a w hst K R hk2
  have he := hst.en
  have hb : w.heap[b]? = some (.cells l.toArray e' (0,0)) := hst.own hi
  obtain ⟨zv,hzv,hzz⟩ := Option.map_eq_some_iff.1 hz
  have hzc : zv.cells = zl.toArray := by rw [← hzz,← vcells_eq]
  have hone : ∀ u ∈ reps zl dLen,u.oneCell' = true := by
    intro u hu
    obtain ⟨k,hk,rfl⟩ := List.getElem_of_mem hu
    rw [reps_length] at hk
    have hm : k % zl.length < zl.length := Nat.mod_lt _ hp
    have := reps_get zl hp dLen k hk
    rw [List.getElem?_eq_getElem (by rw [reps_length]; exact hk),List.getElem?_eq_getElem hm] at this
    simp only [Option.some.injEq] at this
    rw [this]
    exact allOne_mem h1 _ (List.getElem_mem hm)
  have hrun0 : (Builtin.clear_ #[t] ty #[.slice (some ⟨b,o,none⟩) dLen dCap]).run P w = .ok (.tuple #[]) (w.setRow b l'.toArray) := by
    cases hn : dLen with
    | zero =>
      have : l' = l := by rw [← hl',hn]; simp [laid,reps]
      rw [this,setRow_self w b l.toArray e' (0,0) hb]
      simp [Builtin.clear_,run_underlying ht]
    | succ m =>
      have hcells : (Builtin.zeroCells zv.cells (m + 1)).toList = reps zl (m + 1) := by
        rw [hzc]
        have := range_map_reps zl hp (m + 1)
        unfold Builtin.zeroCells
        rw [List.size_toArray] at *
        rw [this]
      have hstore := run_storeCells_at (P := P) b o e' (reps zl (m + 1)) 0 l.toArray w hb (by rw [reps_length,List.size_toArray,← hn]; omega) (by rw [← hn]; exact hone)
      rw [Nat.add_zero] at hstore
      simp only [Builtin.clear_,Sem.run_bind,run_underlying ht,Result.andThen_ok,List.getElem?_toArray,List.getElem?_cons_zero,Sem.run_pure,run_zeroB hzv,hcells,hstore]
      rw [← hl',hn]
      simp [laid]
  have hop : (execOp a.eval ⟨none,.call { callee := .builtin .clear,args := #[x],argTypes := #[t] },ty,pos,aft,g⟩).run P w = .ok (.value (.tuple #[])) (w.setRow b l'.toArray) := by
    simp only [execOp,resolve,invoke,builtin,Sem.run_bind,Sem.run_pure,Result.andThen_ok,List.map_toArray,List.map_cons,List.map_nil,he.eval hx,hrun0]
  unfold Oper.wp
  rw [hop]
  exact hk2 _ _ (hst.write hi hr (Fr.setRow w b _) (setRow_heap w b _ _ _ _ hb) (fun k hk => .inl hk) (by simp [Own.keys]) he)
end
end Go.Sx
namespace Go.Sx
open Go
def SubK (H G : List Own) : Prop := ∃ l,(keysOf G).Perm (keysOf H ++ l)
theorem SubK.of {H G : List Own} (l : List Nat) (h : (keysOf G).Perm (keysOf H ++ l)) : SubK H G := ⟨l,h⟩
theorem SubK.eq {H G : List Own} (h : keysOf G = keysOf H) : SubK H G := ⟨[],by rw [List.append_nil,h]⟩
theorem SubK.mem {H G : List Own} (h : SubK H G) {k : Nat} (hk : k ∈ keysOf H) : k ∈ keysOf G := by
  obtain ⟨l,h⟩ := h; exact h.mem_iff.2 (List.mem_append_left _ hk)
theorem SubK.nod {H G : List Own} (h : SubK H G) (hn : (keysOf G).Nodup) : (keysOf H).Nodup := by
  obtain ⟨l,h⟩ := h
  exact (List.nodup_append.1 (h.nodup_iff.1 hn)).1
theorem SubK.app {H G : List Own} (h : SubK H G) (R : List Own) : SubK (H ++ R) (G ++ R) := by
  obtain ⟨l,h⟩ := h
  refine ⟨l,?_⟩
  rw [keysOf_append,keysOf_append,List.append_assoc]
  exact (h.append (List.Perm.refl _)).trans (by rw [List.append_assoc]; exact (List.Perm.refl _).append List.perm_append_comm)
theorem Heap.regroup {S : Blocks} {G H : List Own} {Q : List Pers} {w : World} (h : Heap S G Q w) (hk : SubK H G) (hh : ∀ o ∈ H,o.holds w) : Heap S H Q w :=
  ⟨hh,hk.nod h.nod,fun k hkk => h.out k (hk.mem hkk),h.per⟩
theorem row_cells {b e sz m cp : Nat} {cs sp : List Value} (h1 : cs.length = m * sz) (h2 : (cs ++ sp).length = cp * sz) (h3 : m ≤ cp) (h4 : cp ≤ 9223372036854775807) : ∀ w,(Own.cells b (cs ++ sp) e).holds w → (Own.row (.slice (some ⟨b,0,none⟩) m cp) e sz m cs).holds w := fun w h =>
  ⟨h1,.inr ⟨b,cp,_,rfl,Nat.zero_le _,h,h3,by simpa [maxLen] using h4,by simpa using h2,by simp [← h1]⟩⟩
theorem holds_app {G H : List Own} {w : World} : (∀ o ∈ G ++ H,o.holds w) ↔ (∀ o ∈ G,o.holds w) ∧ ∀ o ∈ H,o.holds w := by
  constructor
  · intro h; exact ⟨fun o ho => h o (List.mem_append_left _ ho),fun o ho => h o (List.mem_append_right _ ho)⟩
  · rintro ⟨h1,h2⟩ o ho; exact (List.mem_append.1 ho).elim (h1 o) (h2 o)
def Own.some {ι : Type} (K : List Nat) (F : ι → List Own) : Own := .gen K (fun w => ∃ y,keysOf (F y) = K ∧ ∀ o ∈ F y,o.holds w)
  (fun w h k hk => by obtain ⟨y,rfl,h⟩ := h; obtain ⟨o,ho,hk⟩ := mem_keysOf.1 hk; exact Own.lt (h o ho) hk)
  (fun w w' h hm => by obtain ⟨y,rfl,h⟩ := h; exact ⟨y,rfl,fun o ho => Own.move (h o ho) fun k hk => hm k (mem_keysOf.2 ⟨o,ho,hk⟩)⟩)
theorem keysOf_cons (o : Own) (G : List Own) : keysOf (o :: G) = o.keys ++ keysOf G := by simp [keysOf]
end Go.Sx
namespace Go.Sx
open Go
section
variable {P : Program} {c : Cx} {n : Nat} {env : List (Nat × Value)} {G Gr G1 : List Own} {Q : List Pers} {X : Exit → Asr} {cd : Code} {ops : Array Oper} {rest : List Oper} {a : Act} {w : World}
theorem St.regroup {ι : Type} {F : ι → List Own} {p : ι → Prop} {is : List Nat} (h : St c n env G Q a w) (hsel : sel G is = some (G1,Gr)) (hh : ∀ w,(∀ o ∈ G1,o.holds w) → ∃ y,p y ∧ SubK (F y) G1 ∧ ∀ o ∈ F y,o.holds w) : ∃ y,p y ∧ St c n env (F y ++ Gr) Q a w := by
  obtain ⟨S,he,hp,hrel⟩ := h
  have h1 := hp.perm (sel_perm hsel)
  have h2 := hrel.perm (sel_perm hsel)
  obtain ⟨y,hy,hk,ho⟩ := hh w fun o ho => h1.own o (List.mem_append_left _ ho)
  refine ⟨y,hy,S,he,h1.regroup (hk.app Gr) (holds_app.2 ⟨ho,fun o ho => h1.own o (List.mem_append_right _ ho)⟩),h2.fr,h2.old,fun k hkk => h2.key k ((hk.app Gr).mem hkk)⟩
theorem GL.regroup {ι : Type} {F : ι → List Own} {p : ι → Prop} (is : List Nat) (hsel : sel G is = some (G1,Gr)) (hh : ∀ w,(∀ o ∈ G1,o.holds w) → ∃ y,p y ∧ SubK (F y) G1 ∧ ∀ o ∈ F y,o.holds w) (k : ∀ y,p y → GL P ops X rest (St c n env (F y ++ Gr) Q)) : GL P ops X rest (St c n env G Q) := fun a w h => by
  obtain ⟨y,hy,h⟩ := h.regroup hsel hh; exact k y hy a w h
theorem GC.regroup {ι : Type} {F : ι → List Own} {p : ι → Prop} (is : List Nat) (hsel : sel G is = some (G1,Gr)) (hh : ∀ w,(∀ o ∈ G1,o.holds w) → ∃ y,p y ∧ SubK (F y) G1 ∧ ∀ o ∈ F y,o.holds w) (k : ∀ y,p y → GC P X cd (St c n env (F y ++ Gr) Q)) : GC P X cd (St c n env G Q) := fun a w h => by
  obtain ⟨y,hy,h⟩ := h.regroup hsel hh; exact k y hy a w h
theorem GL.regroup0 (is : List Nat) (H : List Own) (hsel : sel G is = some (G1,Gr)) (hk : SubK H G1) (hh : ∀ w,(∀ o ∈ G1,o.holds w) → ∀ o ∈ H,o.holds w) (k : GL P ops X rest (St c n env (H ++ Gr) Q)) : GL P ops X rest (St c n env G Q) :=
  GL.regroup (F := fun _ : Unit => H) (p := fun _ => True) is hsel (fun w h => ⟨(),trivial,hk,hh w h⟩) fun _ _ => k
theorem GC.regroup0 (is : List Nat) (H : List Own) (hsel : sel G is = some (G1,Gr)) (hk : SubK H G1) (hh : ∀ w,(∀ o ∈ G1,o.holds w) → ∀ o ∈ H,o.holds w) (k : GC P X cd (St c n env (H ++ Gr) Q)) : GC P X cd (St c n env G Q) :=
  GC.regroup (F := fun _ : Unit => H) (p := fun _ => True) is hsel (fun w h => ⟨(),trivial,hk,hh w h⟩) fun _ _ => k
end
end Go.Sx
namespace Go.Sx
open Go
section
variable {P : Program} {f : FuncId} {args : List Value} {G G1 G2 Gr : List Own} {Q : List Pers} {R R' : Value → List Own → List Pers → Prop}
theorem Ct.regroup {ι : Type} {F : ι → List Own} {p : ι → Prop} (hh : ∀ w,(∀ o ∈ G,o.holds w) → ∃ y,p y ∧ SubK (F y) G ∧ ∀ o ∈ F y,o.holds w) (h : ∀ y,p y → Ct P f args (F y) Q R) : Ct P f args G Q R := fun w S hp => by
  obtain ⟨y,hy,hk,ho⟩ := hh w hp.own
  refine (h y hy w S (hp.regroup hk ho)).mono ?_
  rintro e w' ⟨v,G',Q',S',he,hR,hp',hfr,hS,hkk⟩
  exact ⟨v,G',Q',S',he,hR,hp',hfr.mono (fun k h1 _ => hk.mem h1),fun k hlt hn => hS k hlt (fun h => hn (hk.mem h)),fun k h1 => (hkk k h1).imp hk.mem id⟩
theorem Ct.regroup0 (is : List Nat) (hsel : sel G is = some (G1,[])) (h : Ct P f args G1 Q R) : Ct P f args G Q R :=
  Ct.regroup (F := fun _ : Unit => G1) (p := fun _ => True) (fun w ho => ⟨(),trivial,SubK.of [] (by
    have := sel_perm hsel
    rw [List.append_nil] at this
    rw [List.append_nil]
    exact List.Perm.flatMap_right Own.keys this),fun o hm => ho o ((sel_perm hsel).mem_iff.2 (by rw [List.append_nil]; exact hm))⟩) fun _ _ => h
theorem Ct.post (h : Ct P f args G Q R) (hr : ∀ v H Q',R v H Q' → ∃ H',R' v H' Q' ∧ SubK H' H ∧ ∀ w,(∀ o ∈ H,o.holds w) → ∀ o ∈ H',o.holds w) : Ct P f args G Q R' := fun w S hp => by
  refine (h w S hp).mono ?_
  rintro e w' ⟨v,G',Q',S',he,hR,hp',hfr,hS,hkk⟩
  obtain ⟨H',hR',hk,ho⟩ := hr v G' Q' hR
  exact ⟨v,H',Q',S',he,hR',hp'.regroup hk (ho w' hp'.own),hfr,hS,fun k h1 => hkk k (hk.mem h1)⟩
theorem Ct.frame (h : Ct P f args G Q R) (Gr : List Own) : Ct P f args (G ++ Gr) Q (fun v G' Q' => ∃ H,R v H Q' ∧ G' = H ++ Gr) := fun w S hp => by
  have h1 : Heap S G Q w := hp.sub (List.sublist_append_left _ _) (fun q hq => hq)
  refine (h w S h1).mono ?_
  rintro e w' ⟨v,G',Q',S',he,hR,hp',hfr,hS,hkk⟩
  have hf := heap_frame hp hp' hfr hS hkk
  refine ⟨v,G' ++ Gr,Q',S',he,⟨G',hR,rfl⟩,⟨hf.own,hf.nod,hf.out,fun q hq => hf.per q (List.mem_append_left _ hq)⟩,hfr.mono (fun k h1 _ => by rw [keysOf_append]; exact List.mem_append_left _ h1),fun k hlt hn => hS k hlt (fun h => hn (by rw [keysOf_append]; exact List.mem_append_left _ h)),fun k h1 => ?_⟩
  rw [keysOf_append] at h1 ⊢
  rcases List.mem_append.1 h1 with h1 | h1
  · exact (hkk k h1).imp (List.mem_append_left _) id
  · exact .inl (List.mem_append_right _ h1)
theorem Ct.lend {QL : List Pers} {R : Value → List Own → Prop} (GL : List Own) (hl : ∀ w S,(∀ o ∈ GL,o.holds w) → (∀ k ∈ keysOf GL,S k) → ∀ q ∈ QL,q.h w S) (h : Ct P f args G (QL ++ Q) (fun v G' Q' => R v G' ∧ Q' = [])) : Ct P f args (G ++ GL) Q (fun v G' Q' => ∃ H,R v H ∧ G' = H ++ GL ∧ Q' = []) := fun w S hp => by
  let S1 : Blocks := fun k => S k ∨ k ∈ keysOf GL
  have hn := hp.nod
  rw [keysOf_append,List.nodup_append] at hn
  obtain ⟨n1,n2,dis⟩ := hn
  have h1 : Heap S1 G (QL ++ Q) w := by
    refine ⟨fun o ho => hp.own o (List.mem_append_left _ ho),n1,fun k hk hs => ?_,fun q hq => ?_⟩
    · rcases hs with hs | hs
      · exact hp.out k (by rw [keysOf_append]; exact List.mem_append_left _ hk) hs
      · exact dis k hk k hs rfl
    · rcases List.mem_append.1 hq with hq | hq
      · exact hl w S1 (fun o ho => hp.own o (List.mem_append_right _ ho)) (fun k hk => .inr hk) q hq
      · exact q.st (hp.per q hq) fun k hs _ => ⟨.inl hs,rfl⟩
  refine (h w S1 h1).mono ?_
  rintro e w' ⟨v,G',Q',S',he,⟨hR,rfl⟩,hp',hfr,hS,hkk⟩
  have ltL : ∀ k ∈ keysOf GL,k < w.heap.size := fun k hk => hp.lt (by rw [keysOf_append]; exact List.mem_append_right _ hk)
  have nL : ∀ k ∈ keysOf GL,k ∉ keysOf G := fun k hk h1 => dis k h1 k hk rfl
  have h2 : Heap (fun k => S' k ∧ k ∉ keysOf GL) G' [] w' := ⟨hp'.own,hp'.nod,fun k hk hs => hp'.out k hk hs.1,fun q hq => by cases hq⟩
  have hS2 : ∀ k,k < w.heap.size → k ∉ keysOf G → ((S' k ∧ k ∉ keysOf GL) ↔ S k) := by
    intro k hlt hn1
    constructor
    · rintro ⟨hs,hnl⟩
      exact ((hS k hlt hn1).1 hs).resolve_right hnl
    · intro hs
      exact ⟨(hS k hlt hn1).2 (.inl hs),fun hl => hp.out k (by rw [keysOf_append]; exact List.mem_append_right _ hl) hs⟩
  have hf := heap_frame hp h2 hfr hS2 hkk
  refine ⟨v,G' ++ GL,[],_,he,⟨G',hR,rfl,rfl⟩,⟨hf.own,hf.nod,hf.out,fun q hq => by cases hq⟩,hfr.mono (fun k h1 _ => by rw [keysOf_append]; exact List.mem_append_left _ h1),fun k hlt hn => hS2 k hlt (fun h => hn (by rw [keysOf_append]; exact List.mem_append_left _ h)),fun k h1 => ?_⟩
  rw [keysOf_append] at h1 ⊢
  rcases List.mem_append.1 h1 with h1 | h1
  · exact (hkk k h1).imp (List.mem_append_left _) id
  · exact .inl (List.mem_append_right _ h1)
end
end Go.Sx
namespace Go.Sx
open Go
section
variable {P : Program} {c : Cx} {n : Nat} {env : List (Nat × Value)} {G G' : List Own} {Q : List Pers} {R : Exit → Asr} {cd : Code}
theorem GC.rerow {i b e sz m cp : Nat} {l : List Value} (cs sp : List Value) (hi : nthO G i = some (.cells b l e)) (hl : l = cs ++ sp) (h1 : cs.length = m * sz) (h2 : l.length = cp * sz) (h3 : m ≤ cp) (h4 : cp ≤ 9223372036854775807) (hr : repl G i (.row (.slice (some ⟨b,0,none⟩) m cp) e sz m cs) = some G') (k : GC P R cd (St c n env G' Q)) : GC P R cd (St c n env G Q) :=
  GC.imp (fun a w h => h.recast hi hr rfl (by subst hl; exact row_cells h1 h2 h3 h4)) k
end
end Go.Sx
namespace Go.Proofs.YtliacpkblicnhaaGreat
open Go Go.Sx Go.Proofs
structure Pk where
  A : Option Addr
  cp : Nat
  b : List UInt8
  bad : Bool
  deriving Inhabited
abbrev pkA (q : Pk) : Value := .slice q.A q.b.length q.cp
abbrev pkB (q : Pk) : Value := .bool q.bad
abbrev pkC (l : List Pk) : List Value := pr pkA pkB l
abbrev zpk : List Value := [.slice none 0 0,.bool false]
theorem pr_drop {α : Type} (f g : α → Value) : ∀ (xs : List α) (i : Nat),(pr f g xs).drop (i * 2) = pr f g (xs.drop i)
  | [],i => by simp [pr]
  | x :: r,0 => by simp
  | x :: r,i + 1 => by
    have e : (i + 1) * 2 = i * 2 + 1 + 1 := by omega
    rw [e]
    exact pr_drop f g r i
theorem pr_take {α : Type} (f g : α → Value) : ∀ (xs : List α) (i : Nat),(pr f g xs).take (i * 2) = pr f g (xs.take i)
  | [],i => by simp [pr]
  | x :: r,0 => by simp [pr]
  | x :: r,i + 1 => by
    have e : (i + 1) * 2 = i * 2 + 1 + 1 := by omega
    rw [e]
    exact congrArg (f x :: g x :: ·) (pr_take f g r i)
theorem pkC_len (l : List Pk) : (pkC l).length = l.length * 2 := pr_len _ _ l
theorem pkC_one (l : List Pk) : ∀ u ∈ pkC l,u.oneCell' = true := by
  induction l with
  | nil => intro u hu; cases hu
  | cons q r ih =>
    intro u hu
    rcases List.mem_cons.1 hu with rfl | hu
    · rfl
    · rcases List.mem_cons.1 hu with rfl | hu
      · rfl
      · exact ih u hu
theorem del_laid {l : List Pk} {sp : List Value} {i m k : Nat} (h : i < l.length) (hm : m = l.length - (i + 1)) (hk : k = l.length - 1) :
    laid (laid (pkC l ++ sp) (0 + i * 2) (((pkC l ++ sp).drop ((i + 1) * 2)).take (m * 2))) (0 + k * 2) zpk = pkC (l.eraseIdx i) ++ (zpk ++ sp) := by
  have hl := pkC_len l
  have e1 : ((pkC l ++ sp).drop ((i + 1) * 2)).take (m * 2) = pkC (l.drop (i + 1)) := by
    rw [List.drop_append_of_le_length (by omega),pr_drop,List.take_append_of_le_length (by rw [pr_len,List.length_drop]; omega),List.take_of_length_le (by rw [pr_len,List.length_drop]; omega)]
  have e2 : laid (pkC l ++ sp) (0 + i * 2) (pkC (l.drop (i + 1))) = pkC (l.eraseIdx i) ++ (pkC (l.drop k) ++ sp) := by
    have e3 : 0 + i * 2 + (pkC (l.drop (i + 1))).length = k * 2 := by rw [pkC_len,List.length_drop]; omega
    unfold laid
    rw [e3,Nat.zero_add,List.take_append_of_le_length (by omega),pr_take,List.drop_append_of_le_length (by omega),pr_drop,← pr_app,List.eraseIdx_eq_take_drop_succ]
  have e4 : (pkC (l.eraseIdx i)).length = k * 2 := by rw [pkC_len,List.length_eraseIdx_of_lt h]; omega
  have e5 : (pkC (l.drop k)).length = 2 := by rw [pkC_len,List.length_drop]; omega
  rw [e1,e2]
  unfold laid
  rw [Nat.zero_add,← e4,List.take_left,List.append_assoc]
  congr 1
  congr 1
  rw [← List.drop_drop,List.drop_left,show zpk.length = (pkC (l.drop k)).length by rw [e5]; rfl,List.drop_left]
theorem del_laidR {l : List Pk} {sp : List Value} {i m o1 o2 c : Nat} (h : i < l.length) (hm : m = l.length - (i + 1)) (h1 : o1 = i * 2) (h2 : o2 = (l.length - 1) * 2) (hc : c = 1) :
    laid (laid (pkC l ++ sp) o1 (((pkC l ++ sp).drop ((i + 1) * 2)).take (m * 2))) o2 (reps [.slice none 0 0,.bool false] c) = pkC (l.eraseIdx i) ++ (zpk ++ sp) := by
  subst h1; subst h2; subst hc
  have := del_laid (sp := sp) h hm rfl
  rw [Nat.zero_add,Nat.zero_add] at this
  exact this
theorem slA_some (a : Addr) (sz l m : Nat) : slA (some a) sz l m = some (if m = l then a else a.add (l * sz)) := by
  unfold slA; split <;> rfl
theorem del_at {b cp i : Nat} {l : List Pk} {sp : List Value} (h : i < l.length) (hcp : l.length ≤ cp) : l.length - ((i : Int) + 1).toNat = 0 ∨ (if cp = ((i : Int) + 1).toNat then (⟨b,0,none⟩ : Addr) else (⟨b,0,none⟩ : Addr).add (((i : Int) + 1).toNat * 2)) = ⟨b,(i + 1) * 2,none⟩ ∧ (i + 1) * 2 + (l.length - ((i : Int) + 1).toNat) * 2 ≤ (pkC l ++ sp).length := by
  have e : ((i : Int) + 1).toNat = i + 1 := by omega
  have hl := pkC_len l
  rw [e,List.length_append,hl]
  by_cases hc : cp = i + 1
  · left; omega
  · right
    rw [if_neg hc,add_lit,Nat.zero_add]
    exact ⟨rfl,by omega⟩
theorem del_one {i m : Nat} {l : List Pk} {sp : List Value} (hm : m + (i + 1) ≤ l.length) : ∀ u ∈ ((pkC l ++ sp).drop ((i + 1) * 2)).take (m * 2),u.oneCell' = true := by
  have hl := pkC_len l
  rw [List.drop_append_of_le_length (by omega),List.take_append_of_le_length (by rw [List.length_drop]; omega)]
  exact fun u hu => pkC_one l u (List.mem_of_mem_drop (List.mem_of_mem_take hu))
theorem pdel_ct (b : Nat) (l : List Pk) (sp : List Value) (cp : Nat) (i : Nat) (hi : i < l.length) (hcp : l.length ≤ cp) (hlen : (pkC l ++ sp).length = cp * 2) : Ct Tryz.prog 31 [.slice (some ⟨b,0,none⟩) l.length cp,.int .i64 (i : Int),.int .i64 ((i : Int) + 1)] [.cells b (pkC l ++ sp) 102] [] (fun u G Q => u = .slice (some ⟨b,0,none⟩) (l.length - 1) cp ∧ G = [.cells b (pkC (l.eraseIdx i) ++ (zpk ++ sp)) 102] ∧ Q = []) := by
 have hl := pkC_len l
 have hap : (pkC l ++ sp).length = l.length * 2 + sp.length := by rw [List.length_append,hl]
 refine Ct.intro Tryz.func31 rfl rfl rfl (fun c hc => ?_)
 refine GC.rg 1 ?_;refine GC.rr 5 ?_;refine GL.pure rfl (p_cut_lhm rfl rfl rfl rfl Tryz.underlying36 sz_102 (by omega) (by omega) (by omega) (by omega) rfl rfl (slA_blk (by omega))) ?_;refine GL.nl_ ?_;refine GC.seq' ?_
 refine GC.rg 3 ?_;refine GC.co ?_ ?_
 ·intro h1; try simp only [tst_] at h1
  exfalso; omega
 intro h1; try simp only [tst_] at h1
 refine GC.skip (?_ : GC _ _ _ _)
 refine GC.rg 3 ?_;refine GC.seq' ?_;refine GC.regionC (m := 8) (is := []) (js := []) wide_ rfl rfl rfl ?_;refine GA.tk 0 [] [] ?_;refine GA.tk 1 [] [] ?_;refine GA.tp 2 rfl [] [] (i_pure (p_cut_h rfl rfl Tryz.underlying36 sz_102 (by omega) (by omega) rfl rfl (slA_blk (by omega)))) ?_
 refine GA.tk 3 [] [] ?_;refine GA.tk 4 [] [] ?_;refine GA.tp 5 rfl [] [] (i_pure (p_cut_l (l := (i : Int) + 1) rfl rfl Tryz.underlying36 sz_102 (by omega) (by omega) rfl rfl (slA_some _ _ _ _))) ?_;refine GA.al [6] ?_
 refine GAs.cons (i := 6) rfl rfl (t_appendIn (i := 0) (o2 := (i + 1) * 2) (sz := 2) rfl Tryz.underlying36 sz_102 rfl rfl rfl (del_at hi hcp) rfl (del_one (by omega)) (by omega) (by simp only [Int.toNat_natCast]; omega) rfl rfl) (by rintro a w h; exact h.me [] []) ?_ GAs.nil
 refine GA.tk 7 [] [] ?_
 refine GA.done (by kernel_rfl) (?_ : GC _ _ _ _)
 refine GC.rr 4 ?_;refine GL.pure rfl (p_cut_lh rfl rfl rfl Tryz.underlying36 sz_102 (by omega) (by omega) (by omega) rfl rfl (slA_blk (by omega))) ?_;refine GL.step rfl (t_clearN (i := 0) rfl rfl Tryz.underlying36 ze_102 (by decide) rfl (by rw [laid_length (by rw [List.length_take,List.length_drop]; simp only [Int.toNat_natCast]; omega)]; simp only [Int.toNat_natCast,List.length_cons,List.length_nil]; omega) rfl rfl) ?_
 refine GL.nr 2 ?_;refine GL.nl_ ?_;refine GC.ret (Fin.b1 6 [0] [] ?_)
 exact ⟨by rw [show (i : Int).toNat - 0 + (l.length - ((i : Int) + 1).toNat) = l.length - 1 by omega]; rfl,congrArg (fun x => [Own.cells b x 102]) (del_laidR (i := i) hi (by omega) (by omega) (by omega) (by omega)),rfl⟩
abbrev rowP (A : Option Addr) (cp : Nat) (l : List Pk) : Own := .row (.slice A l.length cp) 102 2 l.length (pkC l)
abbrev qO (q : Pk) : Own := rowOf q.A q.cp q.b
abbrev pkT (q : Pk) : Pkt := ⟨q.b,q.bad⟩
theorem row_shape {w : World} {A : Option Addr} {n cp e sz : Nat} {cs : List Value} (h : (Own.row (.slice A n cp) e sz n cs).holds w) : n ≤ cp ∧ cp ≤ 9223372036854775807 := by
  by_cases hn : n = 0
  · obtain ⟨_,h⟩ := h
    rcases h with ⟨h,_⟩ | ⟨b,cap,cur,hv,_,hb,h1,h2,_⟩
    · cases h; exact ⟨Nat.le_refl _,by omega⟩
    · cases hv; exact ⟨h1,by simpa [maxLen] using h2⟩
  · obtain ⟨b,sp,rfl,g1,g2,g3,g4⟩ := ownsRow_cells h hn
    exact ⟨g2,g3⟩
theorem rowP_open {A : Option Addr} {cp : Nat} {l : List Pk} {R : List Own} (hn : l ≠ []) (w : World) (h : ∀ o ∈ rowP A cp l :: R,o.holds w) : ∃ y : Nat × List Value,(A = some ⟨y.1,0,none⟩ ∧ (pkC l ++ y.2).length = cp * 2 ∧ l.length ≤ cp ∧ cp ≤ 9223372036854775807) ∧ SubK (.cells y.1 (pkC l ++ y.2) 102 :: R) (rowP A cp l :: R) ∧ ∀ o ∈ Own.cells y.1 (pkC l ++ y.2) 102 :: R,o.holds w := by
  obtain ⟨b,sp,rfl,g1,g2,g3,g4⟩ := ownsRow_cells (h _ (List.mem_cons_self ..)) (fun e => hn (List.eq_nil_of_length_eq_zero e))
  exact ⟨(b,sp),⟨rfl,g1,g2,g3⟩,SubK.eq rfl,fun o ho => (List.mem_cons.1 ho).elim (fun e => e ▸ g4) (fun ho => h o (List.mem_cons_of_mem _ ho))⟩
theorem rowP_shut {b cp : Nat} {l : List Pk} {sp : List Value} (h1 : (pkC l ++ sp).length = cp * 2) (h2 : l.length ≤ cp) (h3 : cp ≤ 9223372036854775807) : ∀ w,(Own.cells b (pkC l ++ sp) 102).holds w → (rowP (some ⟨b,0,none⟩) cp l).holds w :=
  row_cells (pkC_len l) h1 h2 h3
theorem reps_pk {w : World} {S : Blocks} : ∀ {l : List Pk},(∀ q ∈ l,(qO q).holds w) → (∀ q ∈ l,∀ k ∈ (qO q).keys,S k) → Reps kPkt w S (l.map pkT) (pkC l)
  | [],_,_ => rfl
  | q :: r,h,hS => ⟨[pkA q,pkB q],pkC r,rfl,⟨((q.A,q.cp),()),⟨row_shape (h q (List.mem_cons_self ..)),trivial⟩,rfl,fun x hx => by
      rcases List.mem_append.1 hx with hx | hx
      · rw [List.mem_singleton.1 hx]
        exact row_pers (kd := Kd.u8) (h q (List.mem_cons_self ..)) (hS q (List.mem_cons_self ..)) (scalar_reps q.b) (by decide)
      · cases hx⟩,reps_pk (fun q hq => h q (List.mem_cons_of_mem _ hq)) (fun q hq => hS q (List.mem_cons_of_mem _ hq))⟩
theorem pers_pk {w : World} {S : Blocks} {A : Option Addr} {cp : Nat} {l : List Pk} (h : ∀ o ∈ rowP A cp l :: l.map qO,o.holds w) (hS : ∀ k ∈ keysOf (rowP A cp l :: l.map qO),S k) : (Pers.row kPkt A (l.map pkT)).h w S :=
  row_pers (kd := kPkt) (h _ (List.mem_cons_self ..)) (fun k hk => hS k (mem_keysOf.2 ⟨_,List.mem_cons_self ..,hk⟩)) (reps_pk (fun q hq => h _ (List.mem_cons_of_mem _ (List.mem_map_of_mem hq))) (fun q hq k hk => hS k (mem_keysOf.2 ⟨_,List.mem_cons_of_mem _ (List.mem_map_of_mem hq),hk⟩))) (by decide)
end Go.Proofs.YtliacpkblicnhaaGreat
namespace Go.Proofs.YtliacpkblicnhaaGreat
open Go Go.Sx Go.Proofs
section
variable (p : Nat) (d s z : Int) (M : Value) (a b : Int)
theorem ndrop_c (t : Nat) (l : List Pk) (sp : List Value) (cp : Nat) (i : Nat) (h1 : i < l.length) (hcp : l.length ≤ cp) (hmax : cp ≤ 9223372036854775807) (hlen : (pkC l ++ sp).length = cp * 2) : Ct Tryz.prog 13 [.pointer (some ⟨p,0,none⟩),.int .i64 (i : Int)] [netB p d s z (.slice (some ⟨t,0,none⟩) l.length cp) M a b,.cells t (pkC l ++ sp) 102] [] (fun u G Q => u = .int .i64 0 ∧ G = [netB p d s z (.slice (some ⟨t,0,none⟩) (l.length - 1) cp) M a b,.cells t (pkC (l.eraseIdx i) ++ (zpk ++ sp)) 102] ∧ Q = []) := by
 refine Ct.intro Tryz.func13 rfl rfl rfl (fun c hc => ?_)
 refine GC.rg 1 ?_;refine GC.seq' ?_;refine GC.rr 2 ?_;refine GL.cl Tryz.call30 [0] [] rfl rfl rfl (by exact atin_ct _ _ _ _ _ _ _ _ _ _ _ (by omega) (by omega)) ?_
 rintro _ _ _ ⟨rfl,rfl,rfl⟩
 refine GL.rz 1 ?_;refine GC.rg 2 ?_;refine GC.cond_false rfl ?_
 refine GC.skip (?_ : GC _ _ _ _)
 refine GC.rr 4 ?_;refine GL.ld_ 0 ?_;refine GL.rn 2 ?_;refine GL.pure rfl (p_add rfl rfl (w64 (by omega) (by omega))) ?_;refine GL.cl Tryz.call31 [1] [] rfl rfl rfl (by exact pdel_ct _ _ _ _ _ (by first | assumption | omega) (by assumption) (by assumption)) ?_
 rintro _ _ _ ⟨rfl,rfl,rfl⟩
 refine GL.rn 2 ?_;refine GL.so_ 1 ?_;refine GL.nr 1 ?_;refine GL.nl_ ?_;refine GC.ret (Fin.b1 4 [1,0] [] ?_)
 exact ⟨rfl,rfl,rfl⟩
theorem ndrop_in (A : Option Addr) (l : List Pk) (cp : Nat) (i : Nat) (h1 : i < l.length) : Ct Tryz.prog 13 [.pointer (some ⟨p,0,none⟩),.int .i64 (i : Int)] (rowP A cp l :: [netB p d s z (.slice A l.length cp) M a b]) [] (fun u G Q => u = .int .i64 0 ∧ G = [netB p d s z (.slice A (l.eraseIdx i).length cp) M a b,rowP A cp (l.eraseIdx i)] ∧ Q = []) := by
  refine Ct.regroup (fun w h => rowP_open (fun e => by subst e; simp at h1) w h) (fun y hy => ?_)
  obtain ⟨rfl,h2,h3,h4⟩ := hy
  have hel : (l.eraseIdx i).length = l.length - 1 := List.length_eraseIdx_of_lt h1
  refine Ct.post (Ct.regroup0 [1,0] rfl (ndrop_c p d s z M a b y.1 l y.2 cp i h1 h3 h4 h2)) ?_
  rintro v H Q' ⟨rfl,rfl,rfl⟩
  refine ⟨_,⟨rfl,rfl,rfl⟩,SubK.eq rfl,fun w h o ho => ?_⟩
  rw [hel] at ho
  rcases List.mem_cons.1 ho with rfl | ho
  · exact h _ (List.mem_cons_self ..)
  · rw [List.mem_singleton.1 ho]
    refine rowP_shut (b := y.1) (sp := zpk ++ y.2) ?_ (by omega) h4 w (h _ (List.mem_cons_of_mem _ (List.mem_cons_self ..)))
    have g := pkC_len l
    have g' := pkC_len (l.eraseIdx i)
    simp only [List.length_append,List.length_cons,List.length_nil] at h2 ⊢
    omega
theorem ndrop_out (A : Option Addr) (k cp : Nat) (i : Int) (h : ¬ (0 ≤ i ∧ i < (k : Int))) : Ct Tryz.prog 13 [.pointer (some ⟨p,0,none⟩),.int .i64 i] [netB p d s z (.slice A k cp) M a b] [] (fun u G Q => u = .int .i64 5 ∧ G = [netB p d s z (.slice A k cp) M a b] ∧ Q = []) := by
 refine Ct.intro Tryz.func13 rfl rfl rfl (fun c hc => ?_)
 refine GC.rg 1 ?_;refine GC.seq' ?_;refine GC.rr 2 ?_;refine GL.cl Tryz.call30 [0] [] rfl rfl rfl (by exact atout_ct _ _ _ _ _ _ _ _ _ _ _ (by omega)) ?_
 rintro _ _ _ ⟨rfl,rfl,rfl⟩
 refine GL.rz 1 ?_;refine GC.rg 2 ?_;refine GC.cond_true rfl ?_;refine GC.rg 2 ?_;refine GC.ret (Fin.b1 4 [0] [] ?_)
 exact ⟨rfl,rfl,rfl⟩
theorem nbytes_in (A : Option Addr) (l : List Pk) (cp : Nat) (i : Int) (h0 : 0 ≤ i) (h1 : i < (l.length : Int)) (hl : (gt l i).b.length ≤ 140737488355328) : Ct Tryz.prog 18 [.pointer (some ⟨p,0,none⟩),.int .i64 i] ([netB p d s z (.slice A l.length cp) M a b] ++ (rowP A cp l :: l.map qO)) [] (fun u G Q => ∃ A' cp',(gt l i).b.length ≤ cp' ∧ cp' ≤ 9223372036854775807 ∧ u = .tuple #[.slice A' (gt l i).b.length cp',.int .i64 0] ∧ G = [netB p d s z (.slice A l.length cp) M a b,rowOf A' cp' (gt l i).b] ++ (rowP A cp l :: l.map qO) ∧ Q = []) := by
  have hg : gt (l.map pkT) i = pkT (gt l i) := by
    unfold gt
    have : i.toNat < l.length := by omega
    simp [List.getD_eq_getElem?_getD,this]
  have hc := bytes_ct p z a b d s M A (l.map pkT) cp i h0 (by rw [List.length_map]; exact h1) (by rw [hg]; exact hl)
  rw [hg,List.length_map] at hc
  refine Ct.mono (Ct.lend (QL := [Pers.row kPkt A (l.map pkT)]) (Q := []) (rowP A cp l :: l.map qO) (fun w S h hS q hq => by rw [List.mem_singleton.1 hq]; exact pers_pk h hS) (R := fun u G => ∃ A' cp',(gt l i).b.length ≤ cp' ∧ cp' ≤ 9223372036854775807 ∧ u = .tuple #[.slice A' (gt l i).b.length cp',.int .i64 0] ∧ G = [netB p d s z (.slice A l.length cp) M a b,rowOf A' cp' (gt l i).b]) (Ct.mono hc fun u G Q h => ?_)) fun u G Q h => ?_
  · obtain ⟨A',cp',g1,g2,g3,g4,g5⟩ := h
    exact ⟨⟨A',cp',g1,g2,g3,g4⟩,g5⟩
  · obtain ⟨H,⟨A',cp',g1,g2,g3,rfl⟩,rfl,g5⟩ := h
    exact ⟨A',cp',g1,g2,g3,rfl,g5⟩
theorem nbytes_out (A : Option Addr) (k cp : Nat) (i : Int) (h : ¬ (0 ≤ i ∧ i < (k : Int))) : Ct Tryz.prog 18 [.pointer (some ⟨p,0,none⟩),.int .i64 i] [netB p d s z (.slice A k cp) M a b] [] (fun u G Q => u = .tuple #[.slice none 0 0,.int .i64 5] ∧ G = [netB p d s z (.slice A k cp) M a b] ∧ Q = []) := by
 refine Ct.intro Tryz.func18 rfl rfl rfl (fun c hc => ?_)
 refine GC.rg 2 ?_;refine GC.seq' ?_;refine GC.rr 2 ?_;refine GL.cl Tryz.call30 [0] [] rfl rfl rfl (by exact atout_ct _ _ _ _ _ _ _ _ _ _ _ (by omega)) ?_
 rintro _ _ _ ⟨rfl,rfl,rfl⟩
 refine GL.rz 1 ?_;refine GC.rg 2 ?_;refine GC.cond_true rfl ?_;refine GC.rg 3 ?_;refine GC.ret (Fin.b2 4 5 [0] [] ?_)
 exact ⟨rfl,rfl,rfl⟩
end
end Go.Proofs.YtliacpkblicnhaaGreat
namespace Go.Proofs.YtliacpkblicnhaaGreat
open Go Go.Sx Go.Proofs
theorem nth_pkA {l : List Pk} {sp : List Value} {i o : Nat} {A : Option Addr} {c : Nat} {b : List UInt8} {bad : Bool} (hq : gt l (i : Int) = ⟨A,c,b,bad⟩) (h : i < l.length) (ho : o = i * 2) : nth (pkC l ++ sp) o = some (.slice A b.length c) := by
  have := (at_pr pkA pkB (sp := sp) ho h).1
  rw [hq] at this; exact this
theorem nth_pkB {l : List Pk} {sp : List Value} {i o : Nat} {A : Option Addr} {c : Nat} {b : List UInt8} {bad : Bool} (hq : gt l (i : Int) = ⟨A,c,b,bad⟩) (h : i < l.length) (ho : o = i * 2 + 1) : nth (pkC l ++ sp) o = some (.bool bad) := by
  have := (at_pr pkA pkB (sp := sp) (i := i) rfl h).2.1
  rw [hq] at this; subst ho; exact this
theorem upd_pkB {l : List Pk} {sp : List Value} {i o : Nat} {A : Option Addr} {c : Nat} {b b' : List UInt8} {bad bad' : Bool} (hq : gt l (i : Int) = ⟨A,c,b,bad⟩) (h : i < l.length) (ho : o = i * 2 + 1) (hb : b'.length = b.length) : upd (pkC l ++ sp) o [.bool bad'] = some (pkC (l.set i ⟨A,c,b',bad'⟩) ++ sp) := by
  subst ho
  have hl := pkC_len l
  have h1 := upd_pr pkA pkB (sp := sp) (x := (⟨A,c,b',bad'⟩ : Pk)) (i := i) rfl h
  have h2 := nth_pkA (sp := sp) hq h rfl
  rw [upd_at _ _ _ (by rw [List.length_append,hl]; simp; omega)] at h1 ⊢
  rw [← h1]
  simp only [List.length_cons,List.length_nil,pkA,hb]
  rw [nth_eq] at h2
  have h3 : (pkC l ++ sp).take (i * 2 + 1) = (pkC l ++ sp).take (i * 2) ++ [.slice A b.length c] := by rw [List.take_add_one,h2]; rfl
  rw [h3]
  simp
end Go.Proofs.YtliacpkblicnhaaGreat
namespace Go.Proofs.YtliacpkblicnhaaGreat
open Go Go.Sx Go.Proofs
section
variable (p : Nat) (d s z : Int) (M : Value) (a b : Int)
theorem nspoil_out (A : Option Addr) (k cp : Nat) (i at_ mk : Int) (h : ¬ (0 ≤ i ∧ i < (k : Int))) : Ct Tryz.prog 19 [.pointer (some ⟨p,0,none⟩),.int .i64 i,.int .i64 at_,.int .u8 mk] [netB p d s z (.slice A k cp) M a b] [] (fun u G Q => u = .int .i64 5 ∧ G = [netB p d s z (.slice A k cp) M a b] ∧ Q = []) := by
 refine Ct.intro Tryz.func19 rfl rfl rfl (fun c hc => ?_)
 refine GC.rg 1 ?_;refine GC.seq' ?_;refine GC.rr 2 ?_;refine GL.cl Tryz.call30 [0] [] rfl rfl rfl (by exact atout_ct _ _ _ _ _ _ _ _ _ _ _ (by omega)) ?_
 rintro _ _ _ ⟨rfl,rfl,rfl⟩
 refine GL.rz 1 ?_;refine GC.rg 2 ?_;refine GC.cond_true rfl ?_;refine GC.rg 2 ?_;refine GC.ret (Fin.b1 8 [0] [] ?_)
 exact ⟨rfl,rfl,rfl⟩
theorem nspoil_far (t : Nat) (l : List Pk) (sp : List Value) (cp : Nat) (i : Nat) (at_ mk : Int) (A : Option Addr) (c : Nat) (bs : List UInt8) (bad : Bool) (hq : gt l (i : Int) = ⟨A,c,bs,bad⟩) (hi : i < l.length) (hf : ¬ (0 ≤ at_ ∧ at_ < (bs.length : Int))) : Ct Tryz.prog 19 [.pointer (some ⟨p,0,none⟩),.int .i64 (i : Int),.int .i64 at_,.int .u8 mk] [netB p d s z (.slice (some ⟨t,0,none⟩) l.length cp) M a b,.cells t (pkC l ++ sp) 102] [] (fun u G Q => u = .int .i64 5 ∧ G = [netB p d s z (.slice (some ⟨t,0,none⟩) l.length cp) M a b,.cells t (pkC l ++ sp) 102] ∧ Q = []) := by
 refine Ct.intro Tryz.func19 rfl rfl rfl (fun c hc => ?_)
 refine GC.rg 1 ?_;refine GC.seq' ?_;refine GC.rr 2 ?_;refine GL.cl Tryz.call30 [0] [] rfl rfl rfl (by exact atin_ct _ _ _ _ _ _ _ _ _ _ _ (by omega) (by omega)) ?_
 rintro _ _ _ ⟨rfl,rfl,rfl⟩
 refine GL.rz 1 ?_;refine GC.rg 2 ?_;refine GC.cond_false rfl ?_
 refine GC.skip (?_ : GC _ _ _ _)
 refine GC.rr 3 ?_;refine GL.ld_ 0 ?_;refine GL.rn 1 ?_;refine GL.pure rfl (p_indexB rfl rfl Tryz.underlying36 sz_102 (by omega) (by omega)) ?_;refine GL.rz 1 ?_;refine GC.seq' ?_;refine GC.block ?_;refine GC.rr 3 ?_
 refine GL.sp 26 ?_ ?_
 ·intro h1; try simp only [tst_] at h1
  refine GL.rz 9 ?_;refine GC.cond_true rfl ?_;refine GC.rg 1 ?_;refine GC.ret (Fin.b1 8 [0,0] [] ?_)
  exact ⟨rfl,rfl,rfl⟩
 intro h1; try simp only [tst_] at h1
 refine GL.rn 4 ?_;refine GL.stepG rfl (s := 26) rfl rfl (t_mem rfl (m_load (i := 1) rfl rfl ag_47 (nth_pkA hq hi (by simp)))) ?_;refine GL.rz 4 ?_;refine GC.co ?_ ?_
 ·intro h2; try simp only [tst_] at h2
  refine GC.rg 1 ?_;refine GC.ret (Fin.b1 8 [0,0] [] ?_)
  exact ⟨rfl,rfl,rfl⟩
 intro h2; try simp only [tst_] at h2
 exfalso; omega
theorem nspoil_bad (t : Nat) (l : List Pk) (sp : List Value) (cp : Nat) (i : Nat) (at_ mk : Int) (A : Option Addr) (c : Nat) (bs : List UInt8) (hq : gt l (i : Int) = ⟨A,c,bs,true⟩) (hi : i < l.length) (hf : 0 ≤ at_ ∧ at_ < (bs.length : Int)) : Ct Tryz.prog 19 [.pointer (some ⟨p,0,none⟩),.int .i64 (i : Int),.int .i64 at_,.int .u8 mk] [netB p d s z (.slice (some ⟨t,0,none⟩) l.length cp) M a b,.cells t (pkC l ++ sp) 102] [] (fun u G Q => u = .int .i64 230 ∧ G = [netB p d s z (.slice (some ⟨t,0,none⟩) l.length cp) M a b,.cells t (pkC l ++ sp) 102] ∧ Q = []) := by
 refine Ct.intro Tryz.func19 rfl rfl rfl (fun c hc => ?_)
 refine GC.rg 1 ?_;refine GC.seq' ?_;refine GC.rr 2 ?_;refine GL.cl Tryz.call30 [0] [] rfl rfl rfl (by exact atin_ct _ _ _ _ _ _ _ _ _ _ _ (by omega) (by omega)) ?_
 rintro _ _ _ ⟨rfl,rfl,rfl⟩
 refine GL.rz 1 ?_;refine GC.rg 2 ?_;refine GC.cond_false rfl ?_
 refine GC.skip (?_ : GC _ _ _ _)
 refine GC.rr 3 ?_;refine GL.ld_ 0 ?_;refine GL.rn 1 ?_;refine GL.pure rfl (p_indexB rfl rfl Tryz.underlying36 sz_102 (by omega) (by omega)) ?_;refine GL.rz 1 ?_;refine GC.seq' ?_;refine GC.block ?_;refine GC.rr 3 ?_
 refine GL.sp 26 ?_ ?_
 ·intro h1; try simp only [tst_] at h1
  exfalso; omega
 intro h1; try simp only [tst_] at h1
 refine GL.rn 4 ?_;refine GL.stepG rfl (s := 26) rfl rfl (t_mem rfl (m_load (i := 1) rfl rfl ag_47 (nth_pkA hq hi (by simp)))) ?_;refine GL.rz 4 ?_;refine GC.co ?_ ?_
 ·intro h2; try simp only [tst_] at h2
  exfalso; omega
 intro h2; try simp only [tst_] at h2
 refine GC.rr 3 ?_;refine GL.step rfl (t_mem rfl (m_load (i := 1) rfl rfl ag_4 (nth_pkB hq hi (by simp)))) ?_;refine GL.rz 1 ?_;refine GC.cond_true rfl ?_;refine GC.rg 1 ?_;refine GC.ret (Fin.b1 8 [0,0] [] ?_)
 exact ⟨rfl,rfl,rfl⟩
theorem nspoil_c (t : Nat) (l : List Pk) (sp : List Value) (cp : Nat) (i : Nat) (at_ : Int) (mk : UInt8) (g : Nat) (c : Nat) (bs : List UInt8) (sp2 : List Value) (hq : gt l (i : Int) = ⟨some ⟨g,0,none⟩,c,bs,false⟩) (hi : i < l.length) (hf : 0 ≤ at_ ∧ at_ < (bs.length : Int)) : Ct Tryz.prog 19 [.pointer (some ⟨p,0,none⟩),.int .i64 (i : Int),.int .i64 at_,.int .u8 (mk.toNat : Int)] [netB p d s z (.slice (some ⟨t,0,none⟩) l.length cp) M a b,.cells t (pkC l ++ sp) 102,.cells g (bs.map u8v ++ sp2) 5] [] (fun u G Q => u = .int .i64 0 ∧ G = [netB p d s z (.slice (some ⟨t,0,none⟩) l.length cp) M a b,.cells t (pkC (l.set i ⟨some ⟨g,0,none⟩,c,bs.set at_.toNat (gt bs at_ ^^^ mk),true⟩) ++ sp) 102,.cells g ((bs.set at_.toNat (gt bs at_ ^^^ mk)).map u8v ++ sp2) 5] ∧ Q = []) := by
 refine Ct.intro Tryz.func19 rfl rfl rfl (fun c hc => ?_)
 refine GC.rg 1 ?_;refine GC.seq' ?_;refine GC.rr 2 ?_;refine GL.cl Tryz.call30 [0] [] rfl rfl rfl (by exact atin_ct _ _ _ _ _ _ _ _ _ _ _ (by omega) (by omega)) ?_
 rintro _ _ _ ⟨rfl,rfl,rfl⟩
 refine GL.rz 1 ?_;refine GC.rg 2 ?_;refine GC.cond_false rfl ?_
 refine GC.skip (?_ : GC _ _ _ _)
 refine GC.rr 3 ?_;refine GL.ld_ 0 ?_;refine GL.rn 1 ?_;refine GL.pure rfl (p_indexB rfl rfl Tryz.underlying36 sz_102 (by omega) (by omega)) ?_;refine GL.rz 1 ?_;refine GC.seq' ?_;refine GC.block ?_;refine GC.rr 3 ?_
 refine GL.sp 26 ?_ ?_
 ·intro h1; try simp only [tst_] at h1
  exfalso; omega
 intro h1; try simp only [tst_] at h1
 refine GL.rn 4 ?_;refine GL.stepG rfl (s := 26) rfl rfl (t_mem rfl (m_load (i := 1) rfl rfl ag_47 (nth_pkA hq hi (by simp)))) ?_;refine GL.rz 4 ?_;refine GC.co ?_ ?_
 ·intro h2; try simp only [tst_] at h2
  exfalso; omega
 intro h2; try simp only [tst_] at h2
 refine GC.rr 3 ?_;refine GL.step rfl (t_mem rfl (m_load (i := 1) rfl rfl ag_4 (nth_pkB hq hi (by simp)))) ?_;refine GL.rz 1 ?_;refine GC.cond_false rfl ?_
 refine GC.skip (?_ : GC _ _ _ _)
 refine GC.rr 3 ?_;refine GL.step rfl (t_mem rfl (m_load (i := 1) rfl rfl ag_47 (nth_pkA hq hi (by simp)))) ?_;refine GL.rn 1 ?_;refine GL.pure rfl (p_indexB rfl rfl Tryz.underlying47 sz_5 (by omega) (by omega)) ?_;refine GL.step rfl (t_mem rfl (m_load (i := 2) rfl rfl ag_5 (nth_mapS _ (by omega) (by omega)))) ?_
 refine GL.rn 1 ?_;refine GL.pure rfl (p_xor8 (a := gt bs at_) (b := mk) rfl rfl) ?_;refine GL.pure rfl (p_indexB rfl rfl Tryz.underlying47 sz_5 (by omega) (by omega)) ?_;refine GL.step rfl (t_store (i := 2) rfl rfl rfl rfl sz_5 rfl (upd_mapS _ (by omega) (by omega)) rfl) ?_
 refine GL.nr 3 ?_;refine GL.step rfl (t_store (i := 1) rfl rfl rfl rfl sz_4 rfl (upd_pkB (b' := bs.set at_.toNat (gt bs at_ ^^^ mk)) hq hi (by simp) (by simp)) rfl) ?_;refine GL.nr 1 ?_;refine GL.nl_ ?_;refine GC.ret (Fin.b1 8 [0,0,0] [] ?_)
 exact ⟨rfl,rfl,rfl⟩
end
end Go.Proofs.YtliacpkblicnhaaGreat
namespace Go.Proofs.YtliacpkblicnhaaGreat
open Go Go.Sx Go.Proofs
abbrev lie0 : Lie := ⟨none,0,none,0,none,0,none,0,none,0,none,0,none,0,none,0⟩
theorem seg_drop {α : Type} (b : List α) (n : Nat) : seg b n b.length = b.drop n := by simp [seg]
abbrev leftG (p e : Nat) (A : Option Addr) (b : List UInt8) (cp : Nat) : List Own := [.cells p [.slice A b.length cp] e]
theorem decode_idle (p q : Value) (w : World) : CallsD Tryz.prog 48 #[p,q] .returning w fun e u' w' => e = .returned (.tuple #[]) ∧ u' = .returning ∧ w' = w := by
  have hn : ∀ w : World,(binOp BinOp.eql 20 .nilIface .nilIface).run Tryz.prog w = .ok (.bool true) w := fun _ => by kernel_rfl
  refine callsD_of_wpS Tryz.func48 rfl fun c₀ cs hu => ?_
  apply wpS_seq
  apply wpS_region
  simp [wpOpsS,go_sem,recoverD,hu,Tryz.ntmps48,Exit.thenS]
  apply wpS_seq
  apply wpS_seq
  apply wpS_region
  simp [wpOpsS,go_sem,Exit.thenS,hn]
  refine wpS_cond (t := true) (by simp [Act.eval,Array.replicate]) ?_
  simp only [if_true]
  refine wpS_of_wp (wp_ret ?_)
  cases c₀
  simp_all [bodyPostS,results,Exit.thenS]
theorem entLen_of {e : Entry} (h : okEntry e) : EntLen e := ⟨by have := h.2.2.2.2.2.1.2.2.2.1.1; omega,by have := h.2.2.2.2.2.1.2.2.2.2.1; omega,by have := h.2.2.2.2.2.2.2.1; omega⟩
theorem sttLen_of {s : Stt} (h : okStt s) : SttLen s := ⟨by have := h.2.2.1.1; omega,by have := h.2.2.2.1.1; omega,by have := h.2.2.2.2.2.1; omega,fun p hp => by have := (h.2.2.1.2 p hp).2.2.1; omega,fun r hr => by have := (h.2.2.2.1.2 r hr).2.2.2.1; omega⟩
theorem msgLen_of {m : Msg} (h : okMsg m) : MsgLen m := by
  obtain ⟨_,_,_,_,_,_,_,_,_,_,_,h12,h13,h14,h15,h16⟩ := h
  exact ⟨by have := h12.2.2.2.1.1; omega,by have := h12.2.2.2.2.1; omega,by have := h13.2.1; omega,by have := h14.2.1; omega,sttLen_of h15,by have := h16.1; omega,fun e he => entLen_of (h16.2 e he)⟩
theorem quo100 {x : Int} (h : 0 ≤ x) (h' : x ≤ 4611686018427387904) : IntKind.i64.wrap (x.tdiv 100) = x / 100 := by
  rw [Int.tdiv_eq_ediv_of_nonneg h]
  exact w64 (by omega) (by omega)
theorem size_ct (m : Msg) (s : Lie) (hm : MsgLen m) : Ct Tryz.prog 9 [msgV m s] [] (msgQ m s) (fun u G Q => ∃ z : Int,(z ≤ 60 → m.log.length < 100000) ∧ u = .int .i64 z ∧ G = [] ∧ Q = []) := by
 have g1 := hm.d
 have g2 := hm.o
 have g3 := hm.r
 have g4 := hm.s.p
 have g5 := hm.s.r
 have g6 := hm.l
 refine Ct.intro Tryz.func9 rfl rfl rfl (fun c hc => ?_)
 refine GC.sr_ ?_;refine GL.step rfl (t_box rfl rfl rfl) (GL.ex fun b_t1 => ?_);refine GL.rz 1 ?_;refine GC.seq' ?_
 have q1 := quo100 (x := ((m.op.data.length : Int) + (m.op.old.length : Int) + (m.res.data.length : Int))) (by omega) (by omega)
 refine GC.region ?_;refine GL.rn 1 ?_;refine GL.ld_ 0 ?_;refine GL.rn 1 ?_;refine GL.pure rfl (p_add rfl rfl (w64 (by first | omega | (dsimp only at *; omega)) (by first | omega | (dsimp only at *; omega)))) ?_
 refine GL.rn 2 ?_;refine GL.ld_ 0 ?_;refine GL.rn 1 ?_;refine GL.pure rfl (p_add rfl rfl (w64 (by first | omega | (dsimp only at *; omega)) (by first | omega | (dsimp only at *; omega)))) ?_
 refine GL.rn 2 ?_;refine GL.ld_ 0 ?_;refine GL.rn 1 ?_;refine GL.pure rfl (p_add rfl rfl (w64 (by first | omega | (dsimp only at *; omega)) (by first | omega | (dsimp only at *; omega)))) ?_
 refine GL.rn 2 ?_;refine GL.ld_ 0 ?_;refine GL.rn 3 ?_;refine GL.ld_ 0 ?_;refine GL.rn 1 ?_;refine GL.pure rfl (p_add rfl rfl (w64 (by first | omega | (dsimp only at *; omega)) (by first | omega | (dsimp only at *; omega)))) ?_
 refine GL.rn 2 ?_;refine GL.ld_ 0 ?_;refine GL.rn 1 ?_;refine GL.pure rfl (p_add rfl rfl (w64 (by first | omega | (dsimp only at *; omega)) (by first | omega | (dsimp only at *; omega)))) ?_
 refine GL.pure rfl (p_quo rfl rfl (by decide) rfl) ?_;refine GL.pure rfl (p_add rfl rfl (w64 (by first | omega | (dsimp only at *; omega)) (by first | omega | (dsimp only at *; omega)))) ?_
 refine GL.rn 1 ?_
 refine GL.nil (?_ : GC _ _ _ _)
 refine GC.seq' ?_;refine GC.rg 1 ?_;refine GC.block ?_;refine GC.loopK2 (ks := [1]) (is := [0]) (js := (up 0 8)) (fun (k : Nat) (n : Int) => k ≤ m.log.length ∧ (m.log.length : Int) ≤ n ∧ n ≤ 1000000000000000) (fun (k : Nat) (n : Int) => [(3,.int .i64 n),(4,.int .i64 (k : Int))]) (fun (k : Nat) (n : Int) => []) (fun (k : Nat) (n : Int) => []) (fun (k : Nat) (n : Int) => m.log.length - k) (0) (_) rfl rfl rfl (fun a w h => ⟨⟨by omega,by omega,by omega⟩,h.cutK (is := [0]) (js := (up 0 8)) (ks := [1]) ⟨rfl,rfl,trivial⟩ rfl rfl rfl⟩) ?_
 intro k n hk
 try dsimp only [List.cons_append,List.nil_append] at hk ⊢
 refine GC.seq' ?_;refine GC.rr 2 ?_;refine GL.ld_ 0 ?_;refine GL.rn 3 ?_;refine GL.sp 40 ?_ ?_
 ·intro h1; try simp only [tst_] at h1
  refine GL.rz 3 ?_;refine GC.co ?_ ?_
  ·intro h2; try simp only [tst_] at h2
   refine GC.skip (?_ : GC _ _ _ _)
   refine GC.seq' ?_;refine GC.block ?_
   have hx3 := (hm.e _ (gt_elem (l := m.log) (k := k) (by omega))).d
   have hx4 := (hm.e _ (gt_elem (l := m.log) (k := k) (by omega))).o
   have q2 := quo100 (x := (((gt m.log (k : Int)).op.data.length : Int) + ((gt m.log (k : Int)).op.old.length : Int))) (by omega) (by omega)
   refine GC.layQ (y := .tmp 4) (j := 7) rfl rfl (by first | omega | (dsimp only at *; omega)) (gt_ok (by first | omega | (dsimp only at *; omega)) (by first | omega | (dsimp only at *; omega))) (fun p_x50 r_x50 hA_x50 ok_x50 => ?_)
   rcases r_x50 with ⟨_,⟨_,⟨_,⟨_,⟨_,⟨⟨_,⟨_,⟨_,⟨⟨Ax50_0,cpx50_0⟩,⟨Ax50_1,cpx50_1⟩⟩⟩⟩⟩,⟨_,⟨Ax50_2,cpx50_2⟩⟩⟩⟩⟩⟩⟩⟩
   refine GC.layQ (y := .tmp 4) (j := 11) rfl rfl (by first | omega | (dsimp only at *; omega)) (gt_ok (by first | omega | (dsimp only at *; omega)) (by first | omega | (dsimp only at *; omega))) (fun p_x58 r_x58 hA_x58 ok_x58 => ?_)
   rcases r_x58 with ⟨_,⟨_,⟨_,⟨_,⟨_,⟨⟨_,⟨_,⟨_,⟨⟨Ax58_0,cpx58_0⟩,⟨Ax58_1,cpx58_1⟩⟩⟩⟩⟩,⟨_,⟨Ax58_2,cpx58_2⟩⟩⟩⟩⟩⟩⟩⟩
   refine GC.regionQ wide_ (by kernel_rfl) ?_;refine GQ.rn 2 ?_;refine GQ.step rfl (q_mem (m_load (i := 0) rfl rfl ag_62 rfl)) ?_;refine GQ.rn 1 ?_;refine GQ.step rfl (q_pure (p_indexL hA_x50 rfl rfl Tryz.underlying62 sz_97 (by first | omega | (dsimp only at *; omega)) (by first | omega | (dsimp only at *; omega)))) ?_
   refine GQ.step rfl (q_pure (p_fieldAddr' fo_97_5 rfl)) ?_;refine GQ.step rfl (q_pure (p_fieldAddr' fo_49_3 rfl)) ?_;refine GQ.step rfl (q_mem (m_loadP (i := 4) rfl rfl ag_47 rfl)) ?_;refine GQ.rn 2 ?_;refine GQ.step rfl (q_mem (m_load (i := 0) rfl rfl ag_62 rfl)) ?_
   refine GQ.rn 1 ?_;refine GQ.step rfl (q_pure (p_indexL hA_x58 rfl rfl Tryz.underlying62 sz_97 (by first | omega | (dsimp only at *; omega)) (by first | omega | (dsimp only at *; omega)))) ?_
   refine GQ.step rfl (q_pure (p_fieldAddr' fo_97_5 rfl)) ?_;refine GQ.step rfl (q_pure (p_fieldAddr' fo_49_4 rfl)) ?_;refine GQ.step rfl (q_mem (m_loadP (i := 0) rfl rfl ag_47 rfl)) ?_;refine GQ.rn 1 ?_;refine GQ.step rfl (q_pure (p_add rfl rfl (w64 (by first | omega | (dsimp only at *; omega)) (by first | omega | (dsimp only at *; omega))))) ?_
   refine GQ.step rfl (q_pure (p_quo rfl rfl (by decide) rfl)) ?_;refine GQ.step rfl (q_pure (p_add rfl rfl (w64 (by first | omega | (dsimp only at *; omega)) (by first | omega | (dsimp only at *; omega))))) ?_
   refine GQ.rn 1 ?_
   refine GQ.nil (?_ : GC _ _ _ _)
   refine GC.region ?_;refine GL.rn 1 ?_;refine GL.pure rfl (p_add rfl rfl (w64 (by first | omega | (dsimp only at *; omega)) (by first | omega | (dsimp only at *; omega)))) ?_
   refine GL.rn 1 ?_;refine GL.nil ?_
   exact fun a w h => ⟨(k + 1),(_),(by omega),⟨by omega,by first | omega | (dsimp only; omega),by first | omega | (dsimp only; omega)⟩,h.cut (is := [0]) (js := (up 8 8)) ⟨rfl,rfl,rfl,trivial⟩ rfl rfl⟩
  intro h2; try simp only [tst_] at h2
  refine GC.exit (?_ : GC _ _ _ _)
  refine GC.seq' ?_;refine GC.rr 3 ?_;refine GL.ld_ 0 ?_;refine GL.rn 2 ?_;refine GL.sp 71 ?_ ?_
  ·intro h3; try simp only [tst_] at h3
   refine GL.rz 6 ?_;refine GC.cond_true rfl ?_;refine GC.rg 1 ?_;refine GC.ret (Fin.b1 2 [] [] ?_)
   exact ⟨_,fun h => by omega,rfl,rfl,rfl⟩
  intro h3; try simp only [tst_] at h3
  refine GL.rn 3 ?_;refine GL.dg_ 0 ?_;refine GL.rz 2 ?_;refine GC.co ?_ ?_
  ·intro h4; try simp only [tst_] at h4
   refine GC.rg 1 ?_;refine GC.ret (Fin.b1 2 [] [] ?_)
   exact ⟨_,fun h => by omega,rfl,rfl,rfl⟩
  intro h4; try simp only [tst_] at h4
  refine GC.skip (?_ : GC _ _ _ _)
  refine GC.rg 2 ?_;refine GC.ret (Fin.b1 2 [] [] ?_)
  exact ⟨_,fun h => by omega,rfl,rfl,rfl⟩
 intro h1; try simp only [tst_] at h1
 refine GL.rz 3 ?_;refine GC.cond_false rfl ?_
 refine GC.exit (?_ : GC _ _ _ _)
 refine GC.seq' ?_;refine GC.rr 3 ?_;refine GL.ld_ 0 ?_;refine GL.rn 2 ?_;refine GL.sp 71 ?_ ?_
 ·intro h5; try simp only [tst_] at h5
  refine GL.rz 6 ?_;refine GC.cond_true rfl ?_;refine GC.rg 1 ?_;refine GC.ret (Fin.b1 2 [] [] ?_)
  exact ⟨_,fun h => by omega,rfl,rfl,rfl⟩
 intro h5; try simp only [tst_] at h5
 refine GL.rn 3 ?_;refine GL.dg_ 0 ?_;refine GL.rz 2 ?_;refine GC.co ?_ ?_
 ·intro h6; try simp only [tst_] at h6
  refine GC.rg 1 ?_;refine GC.ret (Fin.b1 2 [] [] ?_)
  exact ⟨_,fun h => by omega,rfl,rfl,rfl⟩
 intro h6; try simp only [tst_] at h6
 refine GC.skip (?_ : GC _ _ _ _)
 refine GC.rg 2 ?_;refine GC.ret (Fin.b1 2 [] [] ?_)
 exact ⟨_,fun h => by omega,rfl,rfl,rfl⟩
def flZ (n : Nat) (l : List Int) : List UInt8 := l.flatMap (fun x => leN n x.toNat)
theorem flZ_length (n : Nat) (l : List Int) : (flZ n l).length = n * l.length := by
  unfold flZ
  induction l with
  | nil => simp
  | cons x r ih => rw [List.flatMap_cons,List.length_append,leN_length,ih,List.length_cons,Nat.mul_succ]; omega
theorem flZ_take {n : Nat} {l : List Int} {k : Nat} (h : k < l.length) : flZ n (l.take (k + 1)) = flZ n (l.take k) ++ leN n (gt l (k : Int)).toNat := by
  unfold flZ; rw [take_gt h,List.flatMap_append]; simp
def selV : Nat → Value → Value → Value
  | 0,a,_ => a
  | _ + 1,_,b => b
def selB : Nat → List UInt8 → List UInt8
  | 0,_ => []
  | _ + 1,b => b
theorem mput_ct (A : Option Addr) (b : List UInt8) (cp n : Nat) (L : Option Addr) (l : List Int) (cl : Nat) (hn : 1 ≤ n) (hn' : n ≤ 8) (hb : b.length + 8 * l.length ≤ 10000000000000) (hl : ∀ x ∈ l,0 ≤ x ∧ x.toNat < 256 ^ n) (h0 : l ≠ []) : Ct Tryz.prog 99 [.slice A b.length cp,.int .i64 (n : Int),.slice L l.length cl] [] [Pers.row Kd.u8 A b,Pers.row kI L l]
    (fun u G Q => ∃ A' cp',(b ++ flZ n l).length ≤ cp' ∧ cp' ≤ 9223372036854775807 ∧ u = .slice A' (b ++ flZ n l).length cp' ∧ G = [rowOf A' cp' (b ++ flZ n l)] ∧ Q = []) := by
 have h8 : 256 ^ n ≤ 256 ^ 8 := Nat.pow_le_pow_right (by decide) hn'
 have hln : l.length ≠ 0 := fun h => h0 (List.length_eq_zero_iff.1 h)
 refine Ct.intro Tryz.func99 rfl rfl rfl (fun c hc => ?_)
 refine GC.rg 1 ?_
 iterate 2 refine GC.seq' ?_
 refine GC.nilrow 5 1 ?_;refine GC.region ?_;refine GL.rn 3 ?_
 refine GL.nil (?_ : GC _ _ _ _)
 refine GC.block ?_;refine GC.loopK3 (ks := [1,9,10]) (is := []) (js := [0,1]) (fun (k : Nat) (A1 : Option Addr) (c1 : Nat) => k ≤ l.length ∧ (b ++ flZ n (l.take k)).length ≤ max c1 (if k = 0 then b.length else 0) ∧ c1 ≤ 9223372036854775807) (fun (k : Nat) (A1 : Option Addr) (c1 : Nat) => [(0,selV k (.slice A b.length cp) (.slice A1 (b ++ flZ n (l.take k)).length c1)),(11,.int .i64 (k : Int))]) (fun (k : Nat) (A1 : Option Addr) (c1 : Nat) => [.row (.slice A1 (selB k (b ++ flZ n (l.take k))).length c1) 5 1 (selB k (b ++ flZ n (l.take k))).length ((selB k (b ++ flZ n (l.take k))).map u8v)]) (fun (k : Nat) (A1 : Option Addr) (c1 : Nat) => []) (fun (k : Nat) (A1 : Option Addr) (c1 : Nat) => l.length - k) (0) (none) (0) rfl rfl rfl (fun a w h => ⟨⟨by omega,by simp [flZ],by omega⟩,h.cutK (is := [0]) (js := [0,1]) (ks := [1,9,10]) ⟨rfl,rfl,trivial⟩ rfl rfl rfl⟩) ?_
 intro k A1 c1 hI0
 try dsimp only [List.cons_append,List.nil_append] at hI0 ⊢
 obtain ⟨hk,hc1,hc2⟩ := hI0
 refine GC.rg 1 ?_;refine GC.seq' ?_;refine GC.co ?_ ?_
 ·intro h1; try simp only [tst_] at h1
  refine GC.skip (?_ : GC _ _ _ _)
  refine GC.seq' ?_;refine GC.block ?_;refine GC.seq' ?_
  have hx := hl _ (gt_elem (l := l) (k := k) (by omega))
  have hnk := nk_le hn' (show k ≤ l.length by omega)
  refine GC.region ?_;refine GL.step rfl (t_index (i := 1) rfl rfl rfl rfl Tryz.underlying53 sz_3 (by omega) (gt_ok (by omega) (by omega))) (GL.ex fun p_x13 => GL.ex fun r_x13 => GL.and fun ok_x13 => ?_)
  rcases r_x13 with _
  refine GL.step rfl (t_mem rfl (m_loadP (i := 0) rfl rfl ag_3 rfl)) ?_;refine GL.rn 1 ?_
  refine GL.nil (?_ : GC _ _ _ _)
  rcases k with _ | k
  ·dsimp only [selV,selB]
   refine GC.region ?_
   skip
   refine GL.rn 2 ?_;refine GL.pure rfl (p_convR (t := 3) (r := (((gt l ((0 : Nat) : Int)).toNat : Nat) : Int)) (by rw [Tryz.underlying3]; simp) Tryz.underlying45 rfl (by rw [cvU (by omega) (by omega)]; omega)) ?_
   refine GL.rn 1 ?_;refine GL.cl Tryz.call66 [] [1] rfl rfl rfl (by exact oput_ct _ b _ (gt l ((0 : Nat) : Int)).toNat n hn hn' (by omega) hx.2) ?_
   rintro _ _ _ ⟨A20,cp20,l20,k20,rfl,rfl,rfl⟩
   refine GL.rn 4 ?_
   refine GL.nil (?_ : GC _ _ _ _)
   refine GC.region ?_;refine GL.pure rfl (p_add rfl rfl (w64 (by omega) (by omega))) ?_;refine GL.rn 1 ?_;refine GL.nil ?_
   exact fun a w h => ⟨(0 + 1),(A20),(cp20),(by omega),⟨by omega,Nat.le_trans (by rw [flZ_take (by omega)]; simpa [flZ] using l20) (Nat.le_max_left _ _),k20⟩,by rw [show flZ n (l.take (0 + 1)) = leN n (gt l ((0 : Nat) : Int)).toNat from by rw [flZ_take (by omega)]; simp [flZ]]; exact h.cut (is := [0]) (js := [1,2]) ⟨rfl,rfl,rfl,rfl,rfl,trivial⟩ rfl rfl⟩
  dsimp only [selV,selB]
  refine GC.region ?_
  skip
  refine GL.freezeB (i := 0) rfl ?_;refine GL.rn 2 ?_;refine GL.pure rfl (p_convR (t := 3) (r := (((gt l ((k + 1 : Nat) : Int)).toNat : Nat) : Int)) (by rw [Tryz.underlying3]; simp) Tryz.underlying45 rfl (by rw [cvU (by omega) (by omega)]; omega)) ?_
  refine GL.rn 1 ?_;refine GL.cl Tryz.call66 [] [0] rfl rfl rfl (by exact oput_ct _ (b ++ flZ n (l.take (k + 1))) _ (gt l ((k + 1 : Nat) : Int)).toNat n hn hn' (by rw [List.length_append,flZ_length,List.length_take,Nat.min_eq_left (by omega)]; omega) hx.2) ?_
  rintro _ _ _ ⟨A20,cp20,l20,k20,rfl,rfl,rfl⟩
  refine GL.rn 4 ?_
  refine GL.nil (?_ : GC _ _ _ _)
  refine GC.region ?_;refine GL.pure rfl (p_add rfl rfl (w64 (by omega) (by omega))) ?_;refine GL.rn 1 ?_;refine GL.nil ?_
  exact fun a w h => ⟨(k + 1 + 1),(A20),(cp20),(by omega),⟨by omega,Nat.le_trans (by rw [flZ_take (by omega),← List.append_assoc]; exact l20) (Nat.le_max_left _ _),k20⟩,by rw [flZ_take (by omega),← List.append_assoc]; exact h.cut (is := [0]) (js := [2,3]) ⟨rfl,rfl,rfl,rfl,rfl,trivial⟩ rfl rfl⟩
 intro h1; try simp only [tst_] at h1
 refine GC.exit (?_ : GC _ _ _ _)
 refine GC.rg 2 ?_
 obtain rfl : k = l.length := by omega
 obtain ⟨j,hj⟩ : ∃ j,l.length = j + 1 := ⟨l.length - 1,by omega⟩
 rw [List.take_length,hj] at *
 rw [if_neg (by omega),Nat.max_zero] at hc1
 refine GC.ret (Fin.b1 6 [0] [] ?_)
 exact ⟨_,_,hc1,hc2,rfl,rfl,rfl⟩
def byI (x : Int) : UInt8 := UInt8.ofNat x.toNat
theorem byI_eq {x : Int} (h : 0 ≤ x) (h' : x < 256) : x = (((byI x).toNat : Nat) : Int) := by
  unfold byI
  have : (UInt8.ofNat x.toNat).toNat = x.toNat := by simp; omega
  rw [this]; omega
theorem cvZ {x : Int} (h : 0 ≤ x) (h' : x < 18446744073709551616) : IntKind.u64.wrap x = ((x.toNat : Nat) : Int) := by rw [cvU h h']; omega
theorem p256_4 : (256 : Nat) ^ 4 = 4294967296 := by decide
theorem p256_8 : (256 : Nat) ^ 8 = 18446744073709551616 := by decide
theorem p256_1 : (256 : Nat) ^ 1 = 256 := by decide
def opB (o : OpD) : List UInt8 := [byI o.kind] ++ flI 4 [o.at_.toNat,o.n.toNat] ++ leN 4 o.data.length ++ o.data ++ leN 4 o.old.length ++ o.old
def resB (r : Res) : List UInt8 := [byI r.code] ++ leN 4 r.data.length ++ r.data
def grpB (g : Grp) : List UInt8 := flZ 8 [g.epoch] ++ flZ 1 [(g.members.length : Int)] ++ flZ 1 g.members
def entB (e : Entry) : List UInt8 := [byI e.kind] ++ flZ 8 [e.num,e.view,e.client,e.serial] ++ (if e.kind = 2 then grpB e.grp else opB e.op)
theorem form_rng {o : OpD} (h : formD o) : 1 ≤ o.kind ∧ o.kind ≤ 5 ∧ 0 ≤ o.at_ ∧ o.at_ ≤ 2147483647 ∧ 0 ≤ o.n ∧ o.n ≤ 2147483647 ∧ o.data.length ≤ 262144 ∧ o.old.length ≤ 4096 := by
  obtain ⟨h1,h2,h3,h4,h5,h6,h7⟩ := h
  refine ⟨?_,?_,h1,h2,h3,h4,h5,h6⟩ <;> unfold bareP at h7 <;> omega
theorem form_ok (o : OpD) (h : formD o) (A : Option Addr) (cp : Nat) (B : Option Addr) (cq : Nat) : Ct Tryz.prog 87 [opD o A cp B cq] [] [] (fun v G Q => v = .int .i64 0 ∧ G = [] ∧ Q = []) := by
  have := form_ct o.kind o.at_ o.n A o.data.length cp B o.old.length cq
  rw [(formE_iff ..).2 h] at this
  exact this
theorem opB_len {o : OpD} (h : formD o) : (opB o).length ≤ 300000 := by
  have := form_rng h
  simp [opB,flI_length,leN_length]; omega
theorem encop_ct (o : OpD) (A : Option Addr) (cp : Nat) (B : Option Addr) (cq : Nat) (hf : formD o) : Ct Tryz.prog 63 [opD o A cp B cq] [] [Pers.row Kd.u8 A o.data,Pers.row Kd.u8 B o.old]
    (fun u G Q => ∃ A' cp',(opB o).length ≤ cp' ∧ cp' ≤ 9223372036854775807 ∧ u = .tuple #[.slice A' (opB o).length cp',.int .i64 0] ∧ G = [rowOf A' cp' (opB o)] ∧ Q = []) := by
 obtain ⟨r1,r2,r3,r4,r5,r6,r7,r8⟩ := form_rng hf
 refine Ct.intro Tryz.func63 rfl rfl rfl (fun c hc => ?_)
 refine GC.sr_ ?_;refine GL.step rfl (t_box rfl rfl rfl) (GL.ex fun b_t1 => ?_);refine GL.rz 2 ?_;refine GC.seq' ?_;refine GC.sr_ ?_;refine GL.ln_ 0 5 ?_;refine GL.cl Tryz.call87 [] [] rfl rfl rfl (by exact form_ok o hf _ _ _ _) ?_
 rintro _ _ _ ⟨rfl,rfl,rfl⟩
 refine GL.rz 1 ?_;refine GC.rg 2 ?_;refine GC.cond_false rfl ?_
 refine GC.skip (?_ : GC _ _ _ _)
 refine GC.rr 1 ?_;refine GL.ld_ 0 ?_;refine GL.reval 14 rfl (congrArg (Value.int .u8) (byI_eq (by omega) (by omega))) ?_;refine GL.step rfl (t_buildSlice rfl Tryz.underlying47 sz_5 ze_5 rfl rfl rfl rfl rfl rfl) (GL.ex fun b_t15 => ?_)
 refine GL.rn 1 ?_;refine GL.ld_ 1 ?_;refine GL.pure rfl (p_convR (t := 3) (r := ((o.at_.toNat : Nat) : Int)) (by rw [Tryz.underlying3]; simp) Tryz.underlying45 rfl (cvZ (by omega) (by omega))) ?_
 refine GL.rn 1 ?_;refine GL.ld_ 1 ?_;refine GL.pure rfl (p_convR (t := 3) (r := ((o.n.toNat : Nat) : Int)) (by rw [Tryz.underlying3]; simp) Tryz.underlying45 rfl (cvZ (by omega) (by omega))) ?_
 refine GL.step rfl (t_buildSlice rfl Tryz.underlying180 sz_45 ze_45 rfl rfl rfl rfl rfl rfl) (GL.ex fun b_t22 => ?_);refine GL.freezeC (enc := u8v) (xs := [byI o.kind]) (h1 := fun _ => rfl) (i := 1) rfl ?_;refine GL.freezeC (enc := uv) (xs := [o.at_.toNat,o.n.toNat]) (h1 := fun _ => rfl) (i := 0) rfl ?_
 refine GL.cl Tryz.call62 [] [1,0] rfl rfl rfl (by exact putall_ct _ [byI o.kind] _ 4 _ [o.at_.toNat,o.n.toNat] _ (by omega) (by omega) (by simp) (by rw [p256_4]; intro x hx; simp at hx; omega)) ?_
 rintro _ _ _ ⟨A23,cp23,l23,k23,rfl,rfl,rfl⟩
 refine GL.rz 5 ?_;refine GC.rr 2 ?_;refine GL.ld_ 1 ?_;refine GL.freezeB (i := 0) rfl ?_;refine GL.cl Tryz.call68 [] [0,3] rfl rfl rfl (by exact otext_ct _ ([byI o.kind] ++ flI 4 [o.at_.toNat,o.n.toNat]) _ _ o.data _ (by simp [flI_length]) (by omega)) ?_
 rintro _ _ _ ⟨A30,cp30,l30,k30,rfl,rfl,rfl⟩
 refine GL.rz 4 ?_;refine GC.rr 2 ?_;refine GL.ld_ 1 ?_;refine GL.freezeB (i := 0) rfl ?_;refine GL.cl Tryz.call68 [] [0,5] rfl rfl rfl (by exact otext_ct _ ([byI o.kind] ++ flI 4 [o.at_.toNat,o.n.toNat] ++ leN 4 o.data.length ++ o.data) _ _ o.old _ (by simp [flI_length,leN_length]; omega) (by omega)) ?_
 rintro _ _ _ ⟨A37,cp37,l37,k37,rfl,rfl,rfl⟩
 refine GL.rz 4 ?_;refine GC.rg 3 ?_;refine GC.ret (Fin.b2 2 3 [0] [] ?_)
 exact ⟨_,_,l37,k37,rfl,rfl,rfl⟩
theorem res_rng {r : Res} (h : resOk r.code r.data.length = true) : 1 ≤ r.code ∧ r.code ≤ 4 ∧ r.data.length ≤ 262144 := by
  simp only [resOk,Bool.or_eq_true,Bool.and_eq_true,decide_eq_true_eq] at h; omega
theorem bres_ok (r : Res) (h : resOk r.code r.data.length = true) (A : Option Addr) (cp : Nat) : Ct Tryz.prog 88 [.agg #[.int .u8 r.code,.slice A r.data.length cp]] [] [] (fun v G Q => v = .int .i64 0 ∧ G = [] ∧ Q = []) := by
  have := bres_ct r.code A r.data.length cp
  rw [if_pos h] at this
  exact this
theorem encres_ct (r : Res) (A : Option Addr) (cp : Nat) (hf : resOk r.code r.data.length = true) : Ct Tryz.prog 64 [.agg #[.int .u8 r.code,.slice A r.data.length cp]] [] [Pers.row Kd.u8 A r.data]
    (fun u G Q => ∃ A' cp',(resB r).length ≤ cp' ∧ cp' ≤ 9223372036854775807 ∧ u = .tuple #[.slice A' (resB r).length cp',.int .i64 0] ∧ G = [rowOf A' cp' (resB r)] ∧ Q = []) := by
 obtain ⟨r1,r2,r3⟩ := res_rng hf
 refine Ct.intro Tryz.func64 rfl rfl rfl (fun c hc => ?_)
 refine GC.sr_ ?_;refine GL.step rfl (t_box rfl rfl rfl) (GL.ex fun b_t1 => ?_);refine GL.rz 2 ?_;refine GC.seq' ?_;refine GC.sr_ ?_;refine GL.ln_ 0 2 ?_;refine GL.cl Tryz.call88 [] [] rfl rfl rfl (by exact bres_ok r hf _ _) ?_
 rintro _ _ _ ⟨rfl,rfl,rfl⟩
 refine GL.rz 1 ?_;refine GC.rg 2 ?_;refine GC.cond_false rfl ?_
 refine GC.skip (?_ : GC _ _ _ _)
 refine GC.rr 1 ?_;refine GL.ld_ 0 ?_;refine GL.reval 11 rfl (congrArg (Value.int .u8) (byI_eq (by omega) (by omega))) ?_;refine GL.step rfl (t_buildSlice rfl Tryz.underlying47 sz_5 ze_5 rfl rfl rfl rfl rfl rfl) (GL.ex fun b_t12 => ?_)
 refine GL.rn 1 ?_;refine GL.ld_ 1 ?_;refine GL.freezeC (enc := u8v) (xs := [byI r.code]) (h1 := fun _ => rfl) (i := 0) rfl ?_;refine GL.cl Tryz.call68 [] [0,1] rfl rfl rfl (by exact otext_ct _ [byI r.code] _ _ r.data _ (by simp) (by omega)) ?_
 rintro _ _ _ ⟨A15,cp15,l15,k15,rfl,rfl,rfl⟩
 refine GL.rz 4 ?_;refine GC.ret (Fin.b2 2 3 [0] [] ?_)
 exact ⟨_,_,l15,k15,rfl,rfl,rfl⟩
theorem resB_len {r : Res} (h : resOk r.code r.data.length = true) : (resB r).length ≤ 300000 := by
  have := res_rng h
  simp [resB,leN_length]; omega
theorem incI_rng : ∀ {l : List Int} {b : Int},incI b l = true → -1 ≤ b → ∀ x ∈ l,0 ≤ x ∧ x < 64
  | [],b,h,hb,x,hx => by cases hx
  | y :: r,b,h,hb,x,hx => by
    simp only [incI,Bool.and_eq_true,decide_eq_true_eq] at h
    obtain ⟨⟨h1,h2⟩,h3⟩ := h
    rcases List.mem_cons.1 hx with rfl | hx
    · omega
    · exact incI_rng h3 (by omega) x hx
theorem grp_rng {g : Grp} (h : groupOk g.epoch g.members = true) : (∀ x ∈ g.members,0 ≤ x ∧ x < 64) ∧ 1 ≤ g.members.length ∧ g.members.length ≤ 9 ∧ 0 ≤ g.epoch ∧ g.epoch ≤ 4611686018427387904 := by
  refine ⟨incI_rng (b := -1) ?_ (by omega),grp_len h⟩
  simp only [groupOk,Bool.and_eq_true] at h
  exact h.2
theorem grpB_len {g : Grp} (h : groupOk g.epoch g.members = true) : (grpB g).length ≤ 100 := by
  have := grp_rng h
  simp [grpB,flZ_length]; omega
theorem mput_nil (n : Nat) (L : Option Addr) (l : List Int) (cl : Nat) (hn : 1 ≤ n) (hn' : n ≤ 8) (hb : 8 * l.length ≤ 10000000000000) (hl : ∀ x ∈ l,0 ≤ x ∧ x.toNat < 256 ^ n) (h0 : l ≠ []) : Ct Tryz.prog 99 [.slice none 0 0,.int .i64 (n : Int),.slice L l.length cl] [] [Pers.row kI L l]
    (fun u G Q => ∃ A' cp',(flZ n l).length ≤ cp' ∧ cp' ≤ 9223372036854775807 ∧ u = .slice A' (flZ n l).length cp' ∧ G = [rowOf A' cp' (flZ n l)] ∧ Q = []) :=
  Ct.free (mput_ct none [] 0 n L l cl hn hn' (by simpa using hb) hl h0) nil8
theorem mpg_ct (A : Option Addr) (b : List UInt8) (cp : Nat) (g : Grp) (B : Option Addr) (cq : Nat) (hg : groupOk g.epoch g.members = true) (hb : b.length ≤ 1000000000000) : Ct Tryz.prog 100 [.slice A b.length cp,grpV g.epoch B g.members.length cq] [] [Pers.row Kd.u8 A b,Pers.row kI B g.members]
    (fun u G Q => ∃ A' cp',(b ++ grpB g).length ≤ cp' ∧ cp' ≤ 9223372036854775807 ∧ u = .slice A' (b ++ grpB g).length cp' ∧ G = [rowOf A' cp' (b ++ grpB g)] ∧ Q = []) := by
 obtain ⟨r1,r2,r3,r4,r5⟩ := grp_rng hg
 have hgm : g.members ≠ [] := fun h => by rw [h] at r2; simp at r2
 have e : b ++ flZ 8 [g.epoch] ++ flZ 1 [(g.members.length : Int)] ++ flZ 1 g.members = b ++ grpB g := by simp [grpB,List.append_assoc]
 rw [← e]
 refine Ct.intro Tryz.func100 rfl rfl rfl (fun c hc => ?_)
 refine GC.sr_ ?_;refine GL.step rfl (t_box rfl rfl rfl) (GL.ex fun b_t3 => ?_);refine GL.rz 1 ?_;refine GC.seq' ?_;refine GC.regionC (m := 14) (is := [0]) (js := [0,1]) wide_ rfl rfl rfl ?_;refine GA.tk 0 [0] [0,1] ?_
 refine GA.tk 1 [0] [0,1] ?_;refine GA.tp 2 rfl [0] [0,1] (i_mem (m_load (i := 0) rfl rfl ag_3 rfl)) ?_;refine GA.tk 5 [0] [0,1] ?_;refine GA.tp 6 rfl [0] [0,1] (i_mem (m_load (i := 0) rfl rfl ag_53 rfl)) ?_;refine GA.tk 7 [0] [0,1] ?_
 refine GA.tk 10 [0] [0,1] ?_;refine GA.tp 11 rfl [0] [0,1] (i_mem (m_load (i := 0) rfl rfl ag_53 rfl)) ?_;refine GA.al [3,8] ?_
 refine GAs.cons (i := 3) rfl rfl (t_buildSlice rfl Tryz.underlying53 sz_3 ze_3 rfl rfl rfl rfl rfl rfl) (by rintro a w ⟨_,h⟩; exact h.me [1] [0,1]) (GA.ex fun b_t8 => ?_) ?_
 ·refine GA.freezeC (enc := iv) (xs := [g.epoch]) (h1 := fun _ => rfl) (i := 0) rfl ?_;refine GA.al [4,8] ?_
  refine GAs.cons (i := 4) rfl rfl (t_call rfl Tryz.call99 rfl (is := []) (js := [1,0]) rfl rfl (by exact mput_ct _ b _ 8 _ [g.epoch] _ (by omega) (by omega) (by simp; omega) (by rw [p256_8]; intro x hx; simp at hx; omega) (by simp))) (by rintro a w ⟨_,_,_,⟨A9,cp9,l9,k9,rfl,rfl,rfl⟩,h⟩; exact h.me [1] [1,2]) (GA.ret ?_) ?_
  ·rintro _ _ _ ⟨A9,cp9,l9,k9,rfl,rfl,rfl⟩
   refine GA.al [8] ?_
   refine GAs.cons (i := 8) rfl rfl (t_buildSlice rfl Tryz.underlying53 sz_3 ze_3 rfl rfl rfl rfl rfl rfl) (by rintro a w ⟨_,h⟩; exact h.me [2] [1,2]) (GA.ex fun b_t13 => ?_) GAs.nil
   refine GA.freezeC (enc := iv) (xs := [(g.members.length : Int)]) (h1 := fun _ => rfl) (i := 0) rfl ?_;refine GA.freezeB (i := 0) rfl ?_;refine GA.al [9] ?_
   refine GAs.cons (i := 9) rfl rfl (t_call rfl Tryz.call99 rfl (is := []) (js := [0,1]) rfl rfl (by exact mput_ct _ (b ++ flZ 8 [g.epoch]) _ 1 _ [(g.members.length : Int)] _ (by omega) (by omega) (by simp [flZ_length]; omega) (by rw [p256_1]; intro x hx; simp at hx; omega) (by simp))) (by rintro a w ⟨_,_,_,⟨A14,cp14,l14,k14,rfl,rfl,rfl⟩,h⟩; exact h.me [1] [3,4]) (GA.ret ?_) GAs.nil
   rintro _ _ _ ⟨A14,cp14,l14,k14,rfl,rfl,rfl⟩
   refine GA.freezeB (i := 0) rfl ?_;refine GA.al [12] ?_
   refine GAs.cons (i := 12) rfl rfl (t_call rfl Tryz.call99 rfl (is := []) (js := [0,5]) rfl rfl (by exact mput_ct _ (b ++ flZ 8 [g.epoch] ++ flZ 1 [(g.members.length : Int)]) _ 1 _ g.members _ (by omega) (by omega) (by simp [flZ_length]; omega) (by rw [p256_1]; intro x hx; have := r1 x hx; omega) hgm)) (by rintro a w ⟨_,_,_,⟨A17,cp17,l17,k17,rfl,rfl,rfl⟩,h⟩; exact h.me [1] [4,5]) (GA.ret ?_) GAs.nil
   rintro _ _ _ ⟨A17,cp17,l17,k17,rfl,rfl,rfl⟩
   refine GA.tk 13 [1] [4,5] ?_
   refine GA.done (by kernel_rfl) (?_ : GC _ _ _ _)
   refine GC.ret (Fin.b1 4 [0] [] ?_)
   exact ⟨_,_,l17,k17,rfl,rfl,rfl⟩
  refine GAs.cons (i := 8) rfl rfl (t_buildSlice rfl Tryz.underlying53 sz_3 ze_3 rfl rfl rfl rfl rfl rfl) (by rintro a w ⟨_,h⟩; exact h.me [1] [1,2]) (GA.ex fun b_t13 => ?_) GAs.nil
  refine GA.al [4] ?_
  refine GAs.cons (i := 4) rfl rfl (t_call rfl Tryz.call99 rfl (is := []) (js := [1,0]) rfl rfl (by exact mput_ct _ b _ 8 _ [g.epoch] _ (by omega) (by omega) (by simp; omega) (by rw [p256_8]; intro x hx; simp at hx; omega) (by simp))) (by rintro a w ⟨_,_,_,⟨A9,cp9,l9,k9,rfl,rfl,rfl⟩,h⟩; exact h.me [2] [1,2]) (GA.ret ?_) GAs.nil
  rintro _ _ _ ⟨A9,cp9,l9,k9,rfl,rfl,rfl⟩
  refine GA.freezeC (enc := iv) (xs := [(g.members.length : Int)]) (h1 := fun _ => rfl) (i := 1) rfl ?_;refine GA.freezeB (i := 0) rfl ?_;refine GA.al [9] ?_
  refine GAs.cons (i := 9) rfl rfl (t_call rfl Tryz.call99 rfl (is := []) (js := [0,1]) rfl rfl (by exact mput_ct _ (b ++ flZ 8 [g.epoch]) _ 1 _ [(g.members.length : Int)] _ (by omega) (by omega) (by simp [flZ_length]; omega) (by rw [p256_1]; intro x hx; simp at hx; omega) (by simp))) (by rintro a w ⟨_,_,_,⟨A14,cp14,l14,k14,rfl,rfl,rfl⟩,h⟩; exact h.me [1] [3,4]) (GA.ret ?_) GAs.nil
  rintro _ _ _ ⟨A14,cp14,l14,k14,rfl,rfl,rfl⟩
  refine GA.freezeB (i := 0) rfl ?_;refine GA.al [12] ?_
  refine GAs.cons (i := 12) rfl rfl (t_call rfl Tryz.call99 rfl (is := []) (js := [0,5]) rfl rfl (by exact mput_ct _ (b ++ flZ 8 [g.epoch] ++ flZ 1 [(g.members.length : Int)]) _ 1 _ g.members _ (by omega) (by omega) (by simp [flZ_length]; omega) (by rw [p256_1]; intro x hx; have := r1 x hx; omega) hgm)) (by rintro a w ⟨_,_,_,⟨A17,cp17,l17,k17,rfl,rfl,rfl⟩,h⟩; exact h.me [1] [4,5]) (GA.ret ?_) GAs.nil
  rintro _ _ _ ⟨A17,cp17,l17,k17,rfl,rfl,rfl⟩
  refine GA.tk 13 [1] [4,5] ?_
  refine GA.done (by kernel_rfl) (?_ : GC _ _ _ _)
  refine GC.ret (Fin.b1 4 [0] [] ?_)
  exact ⟨_,_,l17,k17,rfl,rfl,rfl⟩
 refine GAs.cons (i := 8) rfl rfl (t_buildSlice rfl Tryz.underlying53 sz_3 ze_3 rfl rfl rfl rfl rfl rfl) (by rintro a w ⟨_,h⟩; exact h.me [1] [0,1]) (GA.ex fun b_t13 => ?_) GAs.nil
 refine GA.al [3] ?_
 refine GAs.cons (i := 3) rfl rfl (t_buildSlice rfl Tryz.underlying53 sz_3 ze_3 rfl rfl rfl rfl rfl rfl) (by rintro a w ⟨_,h⟩; exact h.me [2] [0,1]) (GA.ex fun b_t8 => ?_) GAs.nil
 refine GA.freezeC (enc := iv) (xs := [g.epoch]) (h1 := fun _ => rfl) (i := 0) rfl ?_;refine GA.al [4] ?_
 refine GAs.cons (i := 4) rfl rfl (t_call rfl Tryz.call99 rfl (is := []) (js := [1,0]) rfl rfl (by exact mput_ct _ b _ 8 _ [g.epoch] _ (by omega) (by omega) (by simp; omega) (by rw [p256_8]; intro x hx; simp at hx; omega) (by simp))) (by rintro a w ⟨_,_,_,⟨A9,cp9,l9,k9,rfl,rfl,rfl⟩,h⟩; exact h.me [2] [1,2]) (GA.ret ?_) GAs.nil
 rintro _ _ _ ⟨A9,cp9,l9,k9,rfl,rfl,rfl⟩
 refine GA.freezeC (enc := iv) (xs := [(g.members.length : Int)]) (h1 := fun _ => rfl) (i := 1) rfl ?_;refine GA.freezeB (i := 0) rfl ?_;refine GA.al [9] ?_
 refine GAs.cons (i := 9) rfl rfl (t_call rfl Tryz.call99 rfl (is := []) (js := [0,1]) rfl rfl (by exact mput_ct _ (b ++ flZ 8 [g.epoch]) _ 1 _ [(g.members.length : Int)] _ (by omega) (by omega) (by simp [flZ_length]; omega) (by rw [p256_1]; intro x hx; simp at hx; omega) (by simp))) (by rintro a w ⟨_,_,_,⟨A14,cp14,l14,k14,rfl,rfl,rfl⟩,h⟩; exact h.me [1] [3,4]) (GA.ret ?_) GAs.nil
 rintro _ _ _ ⟨A14,cp14,l14,k14,rfl,rfl,rfl⟩
 refine GA.freezeB (i := 0) rfl ?_;refine GA.al [12] ?_
 refine GAs.cons (i := 12) rfl rfl (t_call rfl Tryz.call99 rfl (is := []) (js := [0,5]) rfl rfl (by exact mput_ct _ (b ++ flZ 8 [g.epoch] ++ flZ 1 [(g.members.length : Int)]) _ 1 _ g.members _ (by omega) (by omega) (by simp [flZ_length]; omega) (by rw [p256_1]; intro x hx; have := r1 x hx; omega) hgm)) (by rintro a w ⟨_,_,_,⟨A17,cp17,l17,k17,rfl,rfl,rfl⟩,h⟩; exact h.me [1] [4,5]) (GA.ret ?_) GAs.nil
 rintro _ _ _ ⟨A17,cp17,l17,k17,rfl,rfl,rfl⟩
 refine GA.tk 13 [1] [4,5] ?_
 refine GA.done (by kernel_rfl) (?_ : GC _ _ _ _)
 refine GC.ret (Fin.b1 4 [0] [] ?_)
 exact ⟨_,_,l17,k17,rfl,rfl,rfl⟩
theorem mpg_nil (g : Grp) (B : Option Addr) (cq : Nat) (hg : groupOk g.epoch g.members = true) : Ct Tryz.prog 100 [.slice none 0 0,grpV g.epoch B g.members.length cq] [] [Pers.row kI B g.members]
    (fun u G Q => ∃ A' cp',(grpB g).length ≤ cp' ∧ cp' ≤ 9223372036854775807 ∧ u = .slice A' (grpB g).length cp' ∧ G = [rowOf A' cp' (grpB g)] ∧ Q = []) :=
  Ct.free (mpg_ct none [] 0 g B cq hg (by simp)) nil8
theorem ent_rng {e : Entry} (h : entOk e) : (1 ≤ e.num ∧ e.num ≤ 4611686018427387904) ∧ (1 ≤ e.client ∧ e.client ≤ 4611686018427387904) ∧ (1 ≤ e.serial ∧ e.serial ≤ 4611686018427387904) ∧ (0 ≤ e.view ∧ e.view ≤ 4611686018427387904) ∧ (e.kind = 1 ∨ e.kind = 2) ∧ (e.kind = 2 → groupOk e.grp.epoch e.grp.members = true) ∧ (e.kind ≠ 2 → formD e.op) := by
  obtain ⟨h1,h2,h3,h4,h5⟩ := h
  refine ⟨isNum_in h1,isNum_in h2,isNum_in h3,h4,?_,fun g => ?_,fun g => ?_⟩
  · rcases h5 with h5 | h5 <;> omega
  · rcases h5 with h5 | h5
    · omega
    · exact h5.2.2.1
  · rcases h5 with h5 | h5
    · exact h5.2.1
    · omega
theorem ment_ok (e : Entry) (h : entOk e) (A : Option Addr) (cp : Nat) (B : Option Addr) (cq : Nat) (C : Option Addr) (cr : Nat) (hl : e.grp.members.length ≤ 140737488355328) : Ct Tryz.prog 101 [entV e A cp B cq C cr] [] (entQ e A B C) (fun u G Q => u = .int .i64 0 ∧ G = [] ∧ Q = []) := by
  have := ment_ct e A cp B cq C cr hl
  rw [show entE e = 0 from if_pos h] at this
  exact this
theorem entB_len {e : Entry} (h : entOk e) : (entB e).length ≤ 400000 := by
  have r := ent_rng h
  simp only [entB,List.length_append,flZ_length]
  by_cases h2 : e.kind = 2
  · rw [if_pos h2]; have := grpB_len (r.2.2.2.2.2.1 h2); simp; omega
  · rw [if_neg h2]; have := opB_len (r.2.2.2.2.2.2 h2); simp; omega
theorem encent_ct (e : Entry) (A : Option Addr) (cp : Nat) (B : Option Addr) (cq : Nat) (C : Option Addr) (cr : Nat) (he_ : entOk e) (hl : e.grp.members.length ≤ 140737488355328) : Ct Tryz.prog 67 [entV e A cp B cq C cr] [] (entQ e A B C)
    (fun u G Q => ∃ A' cp',(entB e).length ≤ cp' ∧ cp' ≤ 9223372036854775807 ∧ u = .tuple #[.slice A' (entB e).length cp',.int .i64 0] ∧ G = [rowOf A' cp' (entB e)] ∧ Q = []) := by
 obtain ⟨r1,r2,r3,r4,r5,r6,r7⟩ := ent_rng he_
 refine Ct.intro Tryz.func67 rfl rfl rfl (fun c hc => ?_)
 refine GC.sr_ ?_;refine GL.step rfl (t_box rfl rfl rfl) (GL.ex fun b_t1 => ?_);refine GL.rz 2 ?_;refine GC.seq' ?_;refine GC.sr_ ?_;refine GL.ln_ 0 12 ?_;refine GL.cl Tryz.call101 [] [0,1,2] rfl rfl rfl (by exact ment_ok e he_ _ _ _ _ _ _ hl) ?_
 rintro _ _ _ ⟨rfl,rfl,rfl⟩
 refine GL.rz 1 ?_;refine GC.rg 2 ?_;refine GC.cond_false rfl ?_
 refine GC.skip (?_ : GC _ _ _ _)
 refine GC.rr 1 ?_;refine GL.ld_ 0 ?_;refine GL.reval 14 rfl (congrArg (Value.int .u8) (byI_eq (by omega) (by omega))) ?_;refine GL.step rfl (t_buildSlice rfl Tryz.underlying47 sz_5 ze_5 rfl rfl rfl rfl rfl rfl) (GL.ex fun b_t15 => ?_)
 refine GL.rn 1 ?_;refine GL.ld_ 1 ?_;refine GL.rn 1 ?_;refine GL.ld_ 1 ?_;refine GL.rn 1 ?_;refine GL.ld_ 1 ?_;refine GL.rn 1 ?_;refine GL.ld_ 1 ?_;refine GL.step rfl (t_buildSlice rfl Tryz.underlying53 sz_3 ze_3 rfl rfl rfl rfl rfl rfl) (GL.ex fun b_t24 => ?_)
 refine GL.freezeC (enc := u8v) (xs := [byI e.kind]) (h1 := fun _ => rfl) (i := 1) rfl ?_;refine GL.freezeC (enc := iv) (xs := [e.num,e.view,e.client,e.serial]) (h1 := fun _ => rfl) (i := 0) rfl ?_;refine GL.cl Tryz.call99 [] [1,0] rfl rfl rfl (by exact mput_ct _ [byI e.kind] _ 8 _ [e.num,e.view,e.client,e.serial] _ (by omega) (by omega) (by simp) (by rw [p256_8]; intro x hx; simp at hx; omega) (by simp)) ?_
 rintro _ _ _ ⟨A25,cp25,l25,k25,rfl,rfl,rfl⟩
 refine GL.rz 1 ?_;refine GC.seq' ?_;refine GC.rr 1 ?_;refine GL.ld_ 1 ?_;refine GL.rz 1 ?_;refine GC.co ?_ ?_
 ·intro h1; try simp only [tst_] at h1
  refine GC.rr 2 ?_;refine GL.ln_ 1 2 ?_;refine GL.freezeB (i := 0) rfl ?_;refine GL.cl Tryz.call100 [] [0,5] rfl rfl rfl (by exact mpg_ct _ ([byI e.kind] ++ flZ 8 [e.num,e.view,e.client,e.serial]) _ e.grp _ _ (r6 (by assumption)) (by simp [flZ_length])) ?_
  rintro _ _ _ ⟨A32,cp32,l32,k32,rfl,rfl,rfl⟩
  refine GL.rz 2 ?_;refine GC.ret (Fin.b2 2 3 [0] [] ?_)
  have eb : entB e = [byI e.kind] ++ flZ 8 [e.num,e.view,e.client,e.serial] ++ grpB e.grp := by rw [entB,if_pos (by assumption)]
  rw [eb]
  exact ⟨_,_,l32,k32,rfl,rfl,rfl⟩
 intro h1; try simp only [tst_] at h1
 refine GC.skip (?_ : GC _ _ _ _)
 refine GC.rr 1 ?_;refine GL.ln_ 1 5 ?_;refine GL.cl Tryz.call63 [] [2,3] rfl rfl rfl (by exact encop_ct e.op _ _ _ _ (r7 (by assumption))) ?_
 rintro _ _ _ ⟨A36,cp36,l36,k36,rfl,rfl,rfl⟩
 refine GL.rz 5 ?_;refine GC.rr 2 ?_;refine GL.freezeB (i := 0) rfl ?_;refine GL.step rfl (t_appendS (i := 0) (k := 0) rfl el_47 rfl rfl rfl rfl (by have := opB_len (r7 (by assumption)); simp [flZ_length]; omega) (fun _ => rfl)) (GL.ex fun v41 => ?_)
 refine GL.rowIs (i := 0) (m' := (([byI e.kind] ++ flZ 8 [e.num,e.view,e.client,e.serial] ++ opB e.op)).length) (cs' := (([byI e.kind] ++ flZ 8 [e.num,e.view,e.client,e.serial] ++ opB e.op)).map u8v) rfl (by first | (simp only [List.length_append,List.length_cons,List.length_nil,List.append_assoc]; done) | (simp only [List.length_append,List.length_cons,List.length_nil,List.append_assoc]; omega) | (simp [flZ_length]; done) | (simp [flZ_length]; omega) | rfl) (by first | (simp only [List.map_append,List.map_cons,List.map_nil,List.append_assoc]; done) | (simp [flZ_length]; done) | rfl) rfl ?_
 refine GL.shape (i := 0) rfl (fun A_mp25 c_mp25 e_mp25 l_mp25 k_mp25 => ?_)
 subst e_mp25
 refine GL.rz 3 ?_;refine GC.ret (Fin.b2 2 3 [0] [] ?_)
 have eb : entB e = [byI e.kind] ++ flZ 8 [e.num,e.view,e.client,e.serial] ++ opB e.op := by rw [entB,if_neg (by assumption)]
 rw [eb]
 exact ⟨_,_,l_mp25,k_mp25,rfl,rfl,rfl⟩
def pgB (p : Page) : List UInt8 := flZ 4 [p.at_] ++ flZ 8 [p.ver] ++ leN 4 p.data.length ++ p.data
def rowBy (r : Row) : List UInt8 := flZ 8 [r.client,r.serial] ++ resB r.result
def sttH (s : Stt) : List UInt8 := flZ 8 [s.num] ++ flZ 4 [s.shp.bl,s.shp.sz,(s.pages.length : Int)]
def sttB (s : Stt) : List UInt8 := sttH s ++ s.pages.flatMap pgB ++ [byI (s.rows.length : Int)] ++ s.rows.flatMap rowBy ++ grpB s.grp
theorem fm_take {α β : Type} [Inhabited α] {f : α → List β} {l : List α} {k : Nat} (h : k < l.length) : (l.take (k + 1)).flatMap f = (l.take k).flatMap f ++ f (gt l (k : Int)) := by
  rw [take_gt h,List.flatMap_append]; simp
theorem fm_len {α β : Type} {f : α → List β} {n : Nat} : ∀ {l : List α},(∀ x ∈ l,(f x).length ≤ n) → (l.flatMap f).length ≤ l.length * n
  | [],_ => by simp
  | x :: r,h => by
    have h1 := h x (List.mem_cons_self ..)
    have h2 := fm_len (f := f) (l := r) fun y hy => h y (List.mem_cons_of_mem _ hy)
    rw [List.flatMap_cons,List.length_append,List.length_cons,Nat.succ_mul]; omega
theorem cv8 {x : Int} (h : 0 ≤ x) (h' : x < 256) : IntKind.u8.wrap x = (((byI x).toNat : Nat) : Int) := by
  rw [← byI_eq h h']; simp [IntKind.wrap,IntKind.bits,IntKind.signed]; omega
theorem laid_len {bl sz : Int} : ∀ {l : List Page} {last : Int},laidF bl sz last l = true → last < bl → (l.length : Int) ≤ bl - last - 1
  | [],last,h,hb => by simp; omega
  | p :: r,last,h,hb => by
    by_cases hbad : badP bl sz last p
    · rw [laidF,if_pos hbad] at h; cases h
    · rw [laidF,if_neg hbad] at h
      simp only [badP,not_or] at hbad
      have := laid_len h (by omega)
      rw [List.length_cons]; omega
structure HeldR (s : Stt) : Prop where
  num : 0 ≤ s.num ∧ s.num ≤ 4611686018427387904
  bl : 1 ≤ s.shp.bl ∧ s.shp.bl ≤ 4096
  sz : 1 ≤ s.shp.sz ∧ s.shp.sz ≤ 4096
  pl : s.pages.length ≤ 4096
  rl : s.rows.length ≤ 64
  pg : ∀ p ∈ s.pages,0 ≤ p.at_ ∧ p.at_ ≤ 4096 ∧ 1 ≤ p.ver ∧ p.ver ≤ 4611686018427387904 ∧ p.data.length ≤ 4096
  rw_ : ∀ r ∈ s.rows,(1 ≤ r.client ∧ r.client ≤ 4611686018427387904) ∧ (1 ≤ r.serial ∧ r.serial ≤ 4611686018427387904) ∧ resOk r.result.code r.result.data.length = true
  gr : groupOk s.grp.epoch s.grp.members = true
theorem held_rng {s : Stt} (h : heldOk s) : HeldR s := by
  obtain ⟨h1,h2,h3,h4,h5,h6⟩ := h
  simp only [shapeOk] at h3
  refine ⟨h1,⟨h3.1,h3.2.1⟩,⟨h3.2.2.1,h3.2.2.2⟩,?_,?_,fun p hp => ?_,fun r hr => ?_,h2⟩
  · have := laid_len h4 (by omega); omega
  · simp only [rightF,Bool.and_eq_true,decide_eq_true_eq] at h5; exact h5.1
  · obtain ⟨a,b,c,d,e⟩ := laidF_all h4 (by omega) p hp
    exact ⟨a,by omega,c,d,by omega⟩
  · obtain ⟨j,hj,rfl⟩ := mem_gt hr
    have := (right_at h5 j hj).1
    simp only [rowOk,Bool.and_eq_true] at this
    exact ⟨isNum_in this.1.1,isNum_in this.1.2,this.2⟩
theorem pgB_len {p : Page} (h : p.data.length ≤ 4096) : (pgB p).length ≤ 5000 := by simp [pgB,flZ_length,leN_length]; omega
theorem rowBy_len {r : Row} (h : resOk r.result.code r.result.data.length = true) : (rowBy r).length ≤ 400000 := by
  have := resB_len h; simp [rowBy,flZ_length]; omega
theorem pgs_len {s : Stt} (h : HeldR s) (k : Nat) : ((s.pages.take k).flatMap pgB).length ≤ 20480000 := by
  have := fm_len (f := pgB) (n := 5000) (l := s.pages.take k) fun x hx => pgB_len (h.pg x (List.mem_of_mem_take hx)).2.2.2.2
  have hl := h.pl
  rw [List.length_take] at this
  have : min k s.pages.length * 5000 ≤ 4096 * 5000 := Nat.mul_le_mul_right _ (by omega)
  omega
theorem rws_len {s : Stt} (h : HeldR s) (k : Nat) : ((s.rows.take k).flatMap rowBy).length ≤ 25600000 := by
  have := fm_len (f := rowBy) (n := 400000) (l := s.rows.take k) fun x hx => rowBy_len (h.rw_ x (List.mem_of_mem_take hx)).2.2
  have hl := h.rl
  rw [List.length_take] at this
  have : min k s.rows.length * 400000 ≤ 64 * 400000 := Nat.mul_le_mul_right _ (by omega)
  omega
theorem pgs_all {s : Stt} (h : HeldR s) : (s.pages.flatMap pgB).length ≤ 20480000 := by have := pgs_len h s.pages.length; rwa [List.take_length] at this
theorem rws_all {s : Stt} (h : HeldR s) : (s.rows.flatMap rowBy).length ≤ 25600000 := by have := rws_len h s.rows.length; rwa [List.take_length] at this
theorem sttH_len (s : Stt) : (sttH s).length = 20 := by simp [sttH,flZ_length]
theorem held_ok (s : Stt) (h : heldOk s) (A : Option Addr) (cp : Nat) (B : Option Addr) (cq : Nat) (C : Option Addr) (cr : Nat) (hs : SttLen s) : Ct Tryz.prog 98 [sttV s A cp B cq C cr] [] (sttQ s A B C) (fun u G Q => ∃ x,u = .tuple #[.pointer x,.bool true] ∧ G = [] ∧ Q = []) := by
  have := held_ct s A cp B cq C cr hs
  rw [decide_eq_true h] at this
  exact this
theorem zq42_ {X : Prop} (h : X := by (exact fun a w h => ⟨(A36),(cp36),⟨l36,k36⟩,h.ct [0,0] [3,4,5]⟩)) : X := h
theorem zq43_ {X : Prop} (h : X := by (exact fun a w h => ⟨(A55),(cp55),⟨l55,k55⟩,h.ct [0,0,0,0] (up 4 5)⟩)) : X := h
set_option maxHeartbeats 2000000 in
theorem encstt_all (s : Stt) (A : Option Addr) (cp : Nat) (B : Option Addr) (cq : Nat) (C : Option Addr) (cr : Nat) (hs : SttLen s) (hh : heldOk s) : Ct Tryz.prog 65 [sttV s A cp B cq C cr] [] (sttQ s A B C)
    (fun u G Q => ((sttB s).length ≤ 33554432 ∧ ∃ A' cp',(sttB s).length ≤ cp' ∧ cp' ≤ 9223372036854775807 ∧ u = .tuple #[.slice A' (sttB s).length cp',.int .i64 0] ∧ G = [rowOf A' cp' (sttB s)] ∧ Q = []) ∨ (33554432 < (sttB s).length ∧ u = .tuple #[.slice none 0 0,.int .i64 2] ∧ G = [] ∧ Q = [])) := by
 have hr := held_rng hh
 obtain ⟨n1,b1,s1,pl,rl,pg,rw_,gr⟩ := held_rng hh
 have hH := sttH_len s
 have hpa := pgs_all hr
 have hra := rws_all hr
 have hgl := grpB_len gr
 refine Ct.intro Tryz.func65 rfl rfl rfl (fun c hc => ?_)
 refine GC.sr_ ?_;refine GL.step rfl (t_box rfl rfl rfl) (GL.ex fun b_t1 => ?_);refine GL.rz 2 ?_;refine GC.seq' ?_;refine GC.sr_ ?_;refine GL.ln_ 0 7 ?_;refine GL.cl Tryz.call98 [] [0,1,2] rfl rfl rfl (by exact held_ok s hh _ _ _ _ _ _ hs) ?_
 rintro _ _ _ ⟨x17,rfl,rfl,rfl⟩
 refine GL.rz 5 ?_;refine GC.rg 2 ?_;refine GC.cond_false rfl ?_
 refine GC.skip (?_ : GC _ _ _ _)
 refine GC.joinK2 (ks := [1,2,3]) (is := [0]) (js := [0,1,2]) (fun (A1 : Option Addr) (c1 : Nat) => (sttH s).length ≤ c1 ∧ c1 ≤ 9223372036854775807) (fun (A1 : Option Addr) (c1 : Nat) => [(6,.slice A1 (sttH s).length c1)]) (fun (A1 : Option Addr) (c1 : Nat) => [rowOf A1 c1 (sttH s)]) (fun (A1 : Option Addr) (c1 : Nat) => []) rfl rfl rfl ?_ ?_
 ·refine GC.regionC (m := 16) (is := [0]) (js := [0,1,2]) wide_ rfl rfl rfl ?_;refine GA.tk 0 [0] [0,1,2] ?_;refine GA.tp 1 rfl [0] [0,1,2] (i_mem (m_load (i := 0) rfl rfl ag_3 rfl)) ?_;refine GA.tk 4 [0] [0,1,2] ?_
  refine GA.tk 5 [0] [0,1,2] ?_;refine GA.tp 6 rfl [0] [0,1,2] (i_mem (m_load (i := 0) rfl rfl ag_3 rfl)) ?_;refine GA.tk 7 [0] [0,1,2] ?_;refine GA.tk 8 [0] [0,1,2] ?_;refine GA.tp 9 rfl [0] [0,1,2] (i_mem (m_load (i := 0) rfl rfl ag_3 rfl)) ?_
  refine GA.tk 10 [0] [0,1,2] ?_;refine GA.tp 11 rfl [0] [0,1,2] (i_mem (m_load (i := 0) rfl rfl ag_58 rfl)) ?_;refine GA.tk 12 [0] [0,1,2] ?_;refine GA.al [2,13] ?_
  refine GAs.cons (i := 2) rfl rfl (t_buildSlice rfl Tryz.underlying53 sz_3 ze_3 rfl rfl rfl rfl rfl rfl) (by rintro a w ⟨_,h⟩; exact h.me [1] [0,1,2]) (GA.ex fun b_t24 => ?_) ?_
  ·refine GA.freezeC (enc := iv) (xs := [s.num]) (h1 := fun _ => rfl) (i := 0) rfl ?_;refine GA.al [3,13] ?_
   refine GAs.cons (i := 3) rfl rfl (t_call rfl Tryz.call99 rfl (is := []) (js := [0]) rfl rfl (by exact mput_nil 8 _ [s.num] _ (by omega) (by omega) (by simp) (by rw [p256_8]; intro x hx; simp at hx; omega) (by simp))) (by rintro a w ⟨_,_,_,⟨A25,cp25,l25,k25,rfl,rfl,rfl⟩,h⟩; exact h.me [1] [1,2,3]) (GA.ret ?_) ?_
   ·rintro _ _ _ ⟨A25,cp25,l25,k25,rfl,rfl,rfl⟩
    refine GA.al [13] ?_
    refine GAs.cons (i := 13) rfl rfl (t_buildSlice rfl Tryz.underlying53 sz_3 ze_3 rfl rfl rfl rfl rfl rfl) (by rintro a w ⟨_,h⟩; exact h.me [2] [1,2,3]) (GA.ex fun b_t35 => ?_) GAs.nil
    refine GA.freezeC (enc := iv) (xs := [s.shp.bl,s.shp.sz,(s.pages.length : Int)]) (h1 := fun _ => rfl) (i := 0) rfl ?_;refine GA.freezeB (i := 0) rfl ?_;refine GA.al [14] ?_
    refine GAs.cons (i := 14) rfl rfl (t_call rfl Tryz.call99 rfl (is := []) (js := [0,1]) rfl rfl (by exact mput_ct _ (flZ 8 [s.num]) _ 4 _ [s.shp.bl,s.shp.sz,(s.pages.length : Int)] _ (by omega) (by omega) (by simp [flZ_length]) (by rw [p256_4]; intro x hx; simp at hx; omega) (by simp))) (by rintro a w ⟨_,_,_,⟨A36,cp36,l36,k36,rfl,rfl,rfl⟩,h⟩; exact h.me [1] [3,4,5]) (GA.ret ?_) GAs.nil
    rintro _ _ _ ⟨A36,cp36,l36,k36,rfl,rfl,rfl⟩
    refine GA.tk 15 [1] [3,4,5] ?_;refine GA.done (by kernel_rfl) ?_
    exact zq42_
   refine GAs.cons (i := 13) rfl rfl (t_buildSlice rfl Tryz.underlying53 sz_3 ze_3 rfl rfl rfl rfl rfl rfl) (by rintro a w ⟨_,h⟩; exact h.me [1] [1,2,3]) (GA.ex fun b_t35 => ?_) GAs.nil
   refine GA.al [3] ?_
   refine GAs.cons (i := 3) rfl rfl (t_call rfl Tryz.call99 rfl (is := []) (js := [0]) rfl rfl (by exact mput_nil 8 _ [s.num] _ (by omega) (by omega) (by simp) (by rw [p256_8]; intro x hx; simp at hx; omega) (by simp))) (by rintro a w ⟨_,_,_,⟨A25,cp25,l25,k25,rfl,rfl,rfl⟩,h⟩; exact h.me [2] [1,2,3]) (GA.ret ?_) GAs.nil
   rintro _ _ _ ⟨A25,cp25,l25,k25,rfl,rfl,rfl⟩
   refine GA.freezeC (enc := iv) (xs := [s.shp.bl,s.shp.sz,(s.pages.length : Int)]) (h1 := fun _ => rfl) (i := 1) rfl ?_;refine GA.freezeB (i := 0) rfl ?_;refine GA.al [14] ?_
   refine GAs.cons (i := 14) rfl rfl (t_call rfl Tryz.call99 rfl (is := []) (js := [0,1]) rfl rfl (by exact mput_ct _ (flZ 8 [s.num]) _ 4 _ [s.shp.bl,s.shp.sz,(s.pages.length : Int)] _ (by omega) (by omega) (by simp [flZ_length]) (by rw [p256_4]; intro x hx; simp at hx; omega) (by simp))) (by rintro a w ⟨_,_,_,⟨A36,cp36,l36,k36,rfl,rfl,rfl⟩,h⟩; exact h.me [1] [3,4,5]) (GA.ret ?_) GAs.nil
   rintro _ _ _ ⟨A36,cp36,l36,k36,rfl,rfl,rfl⟩
   refine GA.tk 15 [1] [3,4,5] ?_;refine GA.done (by kernel_rfl) ?_
   exact zq42_
  refine GAs.cons (i := 13) rfl rfl (t_buildSlice rfl Tryz.underlying53 sz_3 ze_3 rfl rfl rfl rfl rfl rfl) (by rintro a w ⟨_,h⟩; exact h.me [1] [0,1,2]) (GA.ex fun b_t35 => ?_) GAs.nil
  refine GA.al [2] ?_
  refine GAs.cons (i := 2) rfl rfl (t_buildSlice rfl Tryz.underlying53 sz_3 ze_3 rfl rfl rfl rfl rfl rfl) (by rintro a w ⟨_,h⟩; exact h.me [2] [0,1,2]) (GA.ex fun b_t24 => ?_) GAs.nil
  refine GA.freezeC (enc := iv) (xs := [s.num]) (h1 := fun _ => rfl) (i := 0) rfl ?_;refine GA.al [3] ?_
  refine GAs.cons (i := 3) rfl rfl (t_call rfl Tryz.call99 rfl (is := []) (js := [0]) rfl rfl (by exact mput_nil 8 _ [s.num] _ (by omega) (by omega) (by simp) (by rw [p256_8]; intro x hx; simp at hx; omega) (by simp))) (by rintro a w ⟨_,_,_,⟨A25,cp25,l25,k25,rfl,rfl,rfl⟩,h⟩; exact h.me [2] [1,2,3]) (GA.ret ?_) GAs.nil
  rintro _ _ _ ⟨A25,cp25,l25,k25,rfl,rfl,rfl⟩
  refine GA.freezeC (enc := iv) (xs := [s.shp.bl,s.shp.sz,(s.pages.length : Int)]) (h1 := fun _ => rfl) (i := 1) rfl ?_;refine GA.freezeB (i := 0) rfl ?_;refine GA.al [14] ?_
  refine GAs.cons (i := 14) rfl rfl (t_call rfl Tryz.call99 rfl (is := []) (js := [0,1]) rfl rfl (by exact mput_ct _ (flZ 8 [s.num]) _ 4 _ [s.shp.bl,s.shp.sz,(s.pages.length : Int)] _ (by omega) (by omega) (by simp [flZ_length]) (by rw [p256_4]; intro x hx; simp at hx; omega) (by simp))) (by rintro a w ⟨_,_,_,⟨A36,cp36,l36,k36,rfl,rfl,rfl⟩,h⟩; exact h.me [1] [3,4,5]) (GA.ret ?_) GAs.nil
  rintro _ _ _ ⟨A36,cp36,l36,k36,rfl,rfl,rfl⟩
  refine GA.tk 15 [1] [3,4,5] ?_;refine GA.done (by kernel_rfl) ?_
  exact zq42_
 intro A1 c1 hj4
 try dsimp only [List.cons_append,List.nil_append] at hj4 ⊢
 refine GC.seq' ?_;refine GC.rr 1 ?_;refine GL.ld_ 1 ?_;refine GL.rz 2 ?_;refine GC.block ?_;refine GC.loopK3 (ks := [1,38,39]) (is := [1]) (js := [0,1,2]) (fun (k : Nat) (A1 : Option Addr) (c1 : Nat) => k ≤ s.pages.length) (fun (k : Nat) (A1 : Option Addr) (c1 : Nat) => [(6,.slice A1 (sttH s ++ (s.pages.take k).flatMap pgB).length c1),(40,.int .i64 (k : Int))]) (fun (k : Nat) (A1 : Option Addr) (c1 : Nat) => [rowOf A1 c1 (sttH s ++ (s.pages.take k).flatMap pgB)]) (fun (k : Nat) (A1 : Option Addr) (c1 : Nat) => []) (fun (k : Nat) (A1 : Option Addr) (c1 : Nat) => s.pages.length - k) (0) (_) (_) rfl rfl rfl (fun a w h => ⟨by omega,by simp only [List.take_zero,List.flatMap_nil,List.append_nil]; exact h.cutK (is := [0,0]) (js := [0,1,2]) (ks := [1,38,39]) ⟨rfl,rfl,trivial⟩ rfl rfl rfl⟩) ?_
 intro k A1 c1 hk
 try dsimp only [List.cons_append,List.nil_append] at hk ⊢
 refine GC.rg 1 ?_;refine GC.seq' ?_;refine GC.co ?_ ?_
 ·intro h1; try simp only [tst_] at h1
  first
  | (exfalso; omega)
  |(skip
    refine GC.skip (?_ : GC _ _ _ _)
    refine GC.seq' ?_;refine GC.block ?_;refine GC.seq' ?_
    have hx := pg _ (gt_elem (l := s.pages) (k := k) (by omega))
    refine GC.region ?_;refine GL.step rfl (t_index (i := 0) rfl rfl rfl rfl Tryz.underlying58 sz_164 (by omega) (gt_ok (by omega) (by omega))) (GL.ex fun p_x42 => GL.ex fun r_x42 => GL.and fun ok_x42 => ?_)
    rcases r_x42 with ⟨_,⟨_,⟨Ax42_0,cpx42_0⟩⟩⟩
    refine GL.step rfl (t_mem rfl (m_loadPN (i := 0) rfl rfl ag_164 (vs := [_,_,_]) sz_164 ⟨rfl,rfl,rfl,trivial⟩)) ?_;refine GL.step rfl (t_alloc rfl ze_164) (GL.ex fun b_t8 => ?_);refine GL.sn_ 0 ?_
    refine GL.nil (?_ : GC _ _ _ _)
    refine GC.joinK2 (ks := [1,6,38,39,40]) (is := [0,1,2]) (js := (up 0 5)) (fun (A2 : Option Addr) (c2 : Nat) => (pgB (gt s.pages (k : Int))).length ≤ c2 ∧ c2 ≤ 9223372036854775807) (fun (A2 : Option Addr) (c2 : Nat) => [(9,.slice A2 (pgB (gt s.pages (k : Int))).length c2)]) (fun (A2 : Option Addr) (c2 : Nat) => [rowOf A2 c2 (pgB (gt s.pages (k : Int)))]) (fun (A2 : Option Addr) (c2 : Nat) => []) rfl rfl rfl ?_ ?_
    ·refine GC.regionC (m := 16) (is := [0,0,0]) (js := (up 0 5)) wide_ rfl rfl rfl ?_;refine GA.tk 0 [0,0,0] (up 0 5) ?_;refine GA.tp 1 rfl [0,0,0] (up 0 5) (i_mem (m_load (i := 0) rfl rfl ag_3 rfl)) ?_;refine GA.tk 4 [0,0,0] (up 0 5) ?_
     refine GA.tp 5 rfl [0,0,0] (up 0 5) (i_mem (m_load (i := 0) rfl rfl ag_3 rfl)) ?_;refine GA.tk 8 [0,0,0] (up 0 5) ?_;refine GA.tp 9 rfl [0,0,0] (up 0 5) (i_mem (m_load (i := 0) rfl rfl ag_47 rfl)) ?_;refine GA.al [2,6] ?_
     refine GAs.cons (i := 2) rfl rfl (t_buildSlice rfl Tryz.underlying53 sz_3 ze_3 rfl rfl rfl rfl rfl rfl) (by rintro a w ⟨_,h⟩; exact h.me [1,1,1] (up 0 5)) (GA.ex fun b_t47 => ?_) ?_
     ·refine GA.freezeC (enc := iv) (xs := [(gt s.pages (k : Int)).at_]) (h1 := fun _ => rfl) (i := 0) rfl ?_;refine GA.al [3,6] ?_
      refine GAs.cons (i := 3) rfl rfl (t_call rfl Tryz.call99 rfl (is := []) (js := [0]) rfl rfl (by exact mput_nil 4 _ [(gt s.pages (k : Int)).at_] _ (by omega) (by omega) (by simp) (by rw [p256_4]; intro x hx; simp at hx; omega) (by simp))) (by rintro a w ⟨_,_,_,⟨A48,cp48,l48,k48,rfl,rfl,rfl⟩,h⟩; exact h.me [1,1,1] (up 1 5)) (GA.ret ?_) ?_
      ·rintro _ _ _ ⟨A48,cp48,l48,k48,rfl,rfl,rfl⟩
       refine GA.al [6] ?_
       refine GAs.cons (i := 6) rfl rfl (t_buildSlice rfl Tryz.underlying53 sz_3 ze_3 rfl rfl rfl rfl rfl rfl) (by rintro a w ⟨_,h⟩; exact h.me [2,2,2] (up 1 5)) (GA.ex fun b_t51 => ?_) GAs.nil
       refine GA.freezeC (enc := iv) (xs := [(gt s.pages (k : Int)).ver]) (h1 := fun _ => rfl) (i := 0) rfl ?_;refine GA.freezeB (i := 0) rfl ?_;refine GA.al [7] ?_
       refine GAs.cons (i := 7) rfl rfl (t_call rfl Tryz.call99 rfl (is := []) (js := [0,1]) rfl rfl (by exact mput_ct _ (flZ 4 [(gt s.pages (k : Int)).at_]) _ 8 _ [(gt s.pages (k : Int)).ver] _ (by omega) (by omega) (by simp [flZ_length]) (by rw [p256_8]; intro x hx; simp at hx; omega) (by simp))) (by rintro a w ⟨_,_,_,⟨A52,cp52,l52,k52,rfl,rfl,rfl⟩,h⟩; exact h.me [1,1,1] (up 3 5)) (GA.ret ?_) GAs.nil
       rintro _ _ _ ⟨A52,cp52,l52,k52,rfl,rfl,rfl⟩
       refine GA.freezeB (i := 0) rfl ?_;refine GA.al [10] ?_
       refine GAs.cons (i := 10) rfl rfl (t_call rfl Tryz.call68 rfl (is := []) (js := [0,5]) rfl rfl (by exact otext_ct _ (flZ 4 [(gt s.pages (k : Int)).at_] ++ flZ 8 [(gt s.pages (k : Int)).ver]) _ _ (gt s.pages (k : Int)).data _ (by simp [flZ_length]) (by omega))) (by rintro a w ⟨_,_,_,⟨A55,cp55,l55,k55,rfl,rfl,rfl⟩,h⟩; exact h.me [1,1,1] (up 4 5)) (GA.ret ?_) GAs.nil
       rintro _ _ _ ⟨A55,cp55,l55,k55,rfl,rfl,rfl⟩
       refine GA.tk 11 [1,1,1] (up 4 5) ?_;refine GA.tk 12 [1,1,1] (up 4 5) ?_;refine GA.tk 13 [1,1,1] (up 4 5) ?_;refine GA.tk 14 [1,1,1] (up 4 5) ?_;refine GA.tk 15 [1,1,1] (up 4 5) ?_;refine GA.done (by kernel_rfl) ?_
       exact zq43_
      refine GAs.cons (i := 6) rfl rfl (t_buildSlice rfl Tryz.underlying53 sz_3 ze_3 rfl rfl rfl rfl rfl rfl) (by rintro a w ⟨_,h⟩; exact h.me [1,1,1] (up 1 5)) (GA.ex fun b_t51 => ?_) GAs.nil
      refine GA.al [3] ?_
      refine GAs.cons (i := 3) rfl rfl (t_call rfl Tryz.call99 rfl (is := []) (js := [0]) rfl rfl (by exact mput_nil 4 _ [(gt s.pages (k : Int)).at_] _ (by omega) (by omega) (by simp) (by rw [p256_4]; intro x hx; simp at hx; omega) (by simp))) (by rintro a w ⟨_,_,_,⟨A48,cp48,l48,k48,rfl,rfl,rfl⟩,h⟩; exact h.me [2,2,2] (up 1 5)) (GA.ret ?_) GAs.nil
      rintro _ _ _ ⟨A48,cp48,l48,k48,rfl,rfl,rfl⟩
      refine GA.freezeC (enc := iv) (xs := [(gt s.pages (k : Int)).ver]) (h1 := fun _ => rfl) (i := 1) rfl ?_;refine GA.freezeB (i := 0) rfl ?_;refine GA.al [7] ?_
      refine GAs.cons (i := 7) rfl rfl (t_call rfl Tryz.call99 rfl (is := []) (js := [0,1]) rfl rfl (by exact mput_ct _ (flZ 4 [(gt s.pages (k : Int)).at_]) _ 8 _ [(gt s.pages (k : Int)).ver] _ (by omega) (by omega) (by simp [flZ_length]) (by rw [p256_8]; intro x hx; simp at hx; omega) (by simp))) (by rintro a w ⟨_,_,_,⟨A52,cp52,l52,k52,rfl,rfl,rfl⟩,h⟩; exact h.me [1,1,1] (up 3 5)) (GA.ret ?_) GAs.nil
      rintro _ _ _ ⟨A52,cp52,l52,k52,rfl,rfl,rfl⟩
      refine GA.freezeB (i := 0) rfl ?_;refine GA.al [10] ?_
      refine GAs.cons (i := 10) rfl rfl (t_call rfl Tryz.call68 rfl (is := []) (js := [0,5]) rfl rfl (by exact otext_ct _ (flZ 4 [(gt s.pages (k : Int)).at_] ++ flZ 8 [(gt s.pages (k : Int)).ver]) _ _ (gt s.pages (k : Int)).data _ (by simp [flZ_length]) (by omega))) (by rintro a w ⟨_,_,_,⟨A55,cp55,l55,k55,rfl,rfl,rfl⟩,h⟩; exact h.me [1,1,1] (up 4 5)) (GA.ret ?_) GAs.nil
      rintro _ _ _ ⟨A55,cp55,l55,k55,rfl,rfl,rfl⟩
      refine GA.tk 11 [1,1,1] (up 4 5) ?_;refine GA.tk 12 [1,1,1] (up 4 5) ?_;refine GA.tk 13 [1,1,1] (up 4 5) ?_;refine GA.tk 14 [1,1,1] (up 4 5) ?_;refine GA.tk 15 [1,1,1] (up 4 5) ?_;refine GA.done (by kernel_rfl) ?_
      exact zq43_
     refine GAs.cons (i := 6) rfl rfl (t_buildSlice rfl Tryz.underlying53 sz_3 ze_3 rfl rfl rfl rfl rfl rfl) (by rintro a w ⟨_,h⟩; exact h.me [1,1,1] (up 0 5)) (GA.ex fun b_t51 => ?_) GAs.nil
     refine GA.al [2] ?_
     refine GAs.cons (i := 2) rfl rfl (t_buildSlice rfl Tryz.underlying53 sz_3 ze_3 rfl rfl rfl rfl rfl rfl) (by rintro a w ⟨_,h⟩; exact h.me [2,2,2] (up 0 5)) (GA.ex fun b_t47 => ?_) GAs.nil
     refine GA.freezeC (enc := iv) (xs := [(gt s.pages (k : Int)).at_]) (h1 := fun _ => rfl) (i := 0) rfl ?_;refine GA.al [3] ?_
     refine GAs.cons (i := 3) rfl rfl (t_call rfl Tryz.call99 rfl (is := []) (js := [0]) rfl rfl (by exact mput_nil 4 _ [(gt s.pages (k : Int)).at_] _ (by omega) (by omega) (by simp) (by rw [p256_4]; intro x hx; simp at hx; omega) (by simp))) (by rintro a w ⟨_,_,_,⟨A48,cp48,l48,k48,rfl,rfl,rfl⟩,h⟩; exact h.me [2,2,2] (up 1 5)) (GA.ret ?_) GAs.nil
     rintro _ _ _ ⟨A48,cp48,l48,k48,rfl,rfl,rfl⟩
     refine GA.freezeC (enc := iv) (xs := [(gt s.pages (k : Int)).ver]) (h1 := fun _ => rfl) (i := 1) rfl ?_;refine GA.freezeB (i := 0) rfl ?_;refine GA.al [7] ?_
     refine GAs.cons (i := 7) rfl rfl (t_call rfl Tryz.call99 rfl (is := []) (js := [0,1]) rfl rfl (by exact mput_ct _ (flZ 4 [(gt s.pages (k : Int)).at_]) _ 8 _ [(gt s.pages (k : Int)).ver] _ (by omega) (by omega) (by simp [flZ_length]) (by rw [p256_8]; intro x hx; simp at hx; omega) (by simp))) (by rintro a w ⟨_,_,_,⟨A52,cp52,l52,k52,rfl,rfl,rfl⟩,h⟩; exact h.me [1,1,1] (up 3 5)) (GA.ret ?_) GAs.nil
     rintro _ _ _ ⟨A52,cp52,l52,k52,rfl,rfl,rfl⟩
     refine GA.freezeB (i := 0) rfl ?_;refine GA.al [10] ?_
     refine GAs.cons (i := 10) rfl rfl (t_call rfl Tryz.call68 rfl (is := []) (js := [0,5]) rfl rfl (by exact otext_ct _ (flZ 4 [(gt s.pages (k : Int)).at_] ++ flZ 8 [(gt s.pages (k : Int)).ver]) _ _ (gt s.pages (k : Int)).data _ (by simp [flZ_length]) (by omega))) (by rintro a w ⟨_,_,_,⟨A55,cp55,l55,k55,rfl,rfl,rfl⟩,h⟩; exact h.me [1,1,1] (up 4 5)) (GA.ret ?_) GAs.nil
     rintro _ _ _ ⟨A55,cp55,l55,k55,rfl,rfl,rfl⟩
     refine GA.tk 11 [1,1,1] (up 4 5) ?_;refine GA.tk 12 [1,1,1] (up 4 5) ?_;refine GA.tk 13 [1,1,1] (up 4 5) ?_;refine GA.tk 14 [1,1,1] (up 4 5) ?_;refine GA.tk 15 [1,1,1] (up 4 5) ?_;refine GA.done (by kernel_rfl) ?_
     exact zq43_
    intro A2 c2 hj8
    try dsimp only [List.cons_append,List.nil_append] at hj8 ⊢
    refine GC.region ?_;refine GL.rn 2 ?_;refine GL.freezeB (i := 0) rfl ?_;refine GL.step rfl (t_appendS (i := 1) (k := 0) rfl el_47 rfl rfl rfl rfl (by (try simp only [List.length_append,List.length_cons,List.length_nil,List.length_map,flZ_length,flI_length,leN_length]); first | omega | (have := pgs_len hr k; have := pgB_len (pg _ (gt_elem (l := s.pages) (k := k) (by omega))).2.2.2.2; omega) | (have := rws_len hr k; have := rowBy_len (rw_ _ (gt_elem (l := s.rows) (k := k) (by omega))).2.2; simp only [rowBy,List.length_append,flZ_length,List.length_cons,List.length_nil] at this; omega)) (fun _ => rfl)) (GL.ex fun v60 => ?_)
    refine GL.rowIs (i := 1) (m' := ((sttH s ++ (s.pages.take k).flatMap pgB ++ pgB (gt s.pages (k : Int)))).length) (cs' := ((sttH s ++ (s.pages.take k).flatMap pgB ++ pgB (gt s.pages (k : Int)))).map u8v) rfl (by first | (simp only [List.length_append,List.length_cons,List.length_nil,List.append_assoc]; done) | (simp only [List.length_append,List.length_cons,List.length_nil,List.append_assoc]; omega) | (simp [rowBy]; done) | (simp [rowBy]; omega) | rfl) (by first | (simp only [List.map_append,List.map_cons,List.map_nil,List.append_assoc]; done) | (simp [rowBy]; done) | rfl) rfl ?_
    refine GL.shape (i := 1) rfl (fun A_b c_b e_b l_b k_b => ?_)
    subst e_b
    refine GL.rn 1 ?_
    refine GL.nil (?_ : GC _ _ _ _)
    refine GC.region ?_;refine GL.pure rfl (p_add rfl rfl (w64 (by omega) (by omega))) ?_;refine GL.rn 1 ?_;refine GL.nil ?_
    exact fun a w h => ⟨(k + 1),(A_b),(c_b),(by omega),by omega,by rw [fm_take (by omega),← List.append_assoc]; exact h.ct [1,1] [3,4,5]⟩)
 intro h1; try simp only [tst_] at h1
 first
 | (exfalso; omega)
 |(skip
   refine GC.exit (?_ : GC _ _ _ _)
   refine GC.seq' ?_
   obtain rfl : k = s.pages.length := by omega
   rw [List.take_length]
   refine GC.region ?_;refine GL.rn 2 ?_;refine GL.ld_ 1 ?_;refine GL.rn 1 ?_;refine GL.pure rfl (p_convR (t := 3) (r := (((byI (s.rows.length : Int)).toNat : Nat) : Int)) (by rw [Tryz.underlying3]; simp) Tryz.underlying5 rfl (cv8 (by omega) (by omega))) ?_
   refine GL.step rfl (t_buildSlice rfl Tryz.underlying47 sz_5 ze_5 rfl rfl rfl rfl rfl rfl) (GL.ex fun b_t67 => ?_);refine GL.step rfl (t_append (i := 1) (k := 0) rfl el_47 rfl rfl rfl rfl rfl (allOne_mem rfl) (by (try simp only [List.length_append,List.length_cons,List.length_nil,List.length_map,flZ_length,flI_length,leN_length]); first | omega | (have := pgs_len hr k; have := pgB_len (pg _ (gt_elem (l := s.pages) (k := k) (by omega))).2.2.2.2; omega) | (have := rws_len hr k; have := rowBy_len (rw_ _ (gt_elem (l := s.rows) (k := k) (by omega))).2.2; simp only [rowBy,List.length_append,flZ_length,List.length_cons,List.length_nil] at this; omega)) (fun _ => rfl)) (GL.ex fun v68 => ?_)
   refine GL.rowIs (i := 1) (m' := ((sttH s ++ s.pages.flatMap pgB ++ [byI (s.rows.length : Int)])).length) (cs' := ((sttH s ++ s.pages.flatMap pgB ++ [byI (s.rows.length : Int)])).map u8v) rfl (by first | (simp only [List.length_append,List.length_cons,List.length_nil,List.append_assoc]; done) | (simp only [List.length_append,List.length_cons,List.length_nil,List.append_assoc]; omega) | (simp [rowBy]; done) | (simp [rowBy]; omega) | rfl) (by first | (simp only [List.map_append,List.map_cons,List.map_nil,List.append_assoc]; done) | (simp [rowBy]; done) | rfl) rfl ?_
   refine GL.shape (i := 1) rfl (fun A_b c_b e_b l_b k_b => ?_)
   subst e_b
   refine GL.rn 1 ?_
   refine GL.nil (?_ : GC _ _ _ _)
   refine GC.seq' ?_;refine GC.rr 1 ?_;refine GL.ld_ 2 ?_;refine GL.rz 2 ?_;refine GC.block ?_;refine GC.loopK3 (ks := [1,70,71]) (is := [0,2]) (js := [0,1,2]) (fun (k : Nat) (A1 : Option Addr) (c1 : Nat) => k ≤ s.rows.length) (fun (k : Nat) (A1 : Option Addr) (c1 : Nat) => [(6,.slice A1 (sttH s ++ s.pages.flatMap pgB ++ [byI (s.rows.length : Int)] ++ (s.rows.take k).flatMap rowBy).length c1),(72,.int .i64 (k : Int))]) (fun (k : Nat) (A1 : Option Addr) (c1 : Nat) => [rowOf A1 c1 (sttH s ++ s.pages.flatMap pgB ++ [byI (s.rows.length : Int)] ++ (s.rows.take k).flatMap rowBy)]) (fun (k : Nat) (A1 : Option Addr) (c1 : Nat) => []) (fun (k : Nat) (A1 : Option Addr) (c1 : Nat) => s.rows.length - k) (0) (_) (_) rfl rfl rfl (fun a w h => ⟨by omega,by simp only [List.take_zero,List.flatMap_nil,List.append_nil]; exact h.cutK (is := [1,0,0]) (js := [0,1,2]) (ks := [1,70,71]) ⟨rfl,rfl,trivial⟩ rfl rfl rfl⟩) ?_
   intro k A1 c1 hk
   try dsimp only [List.cons_append,List.nil_append] at hk ⊢
   refine GC.rg 1 ?_;refine GC.seq' ?_;refine GC.co ?_ ?_
   ·intro h2; try simp only [tst_] at h2
    first
    | (exfalso; omega)
    |(skip
      refine GC.skip (?_ : GC _ _ _ _)
      refine GC.seq' ?_;refine GC.block ?_;refine GC.seq' ?_
      have hx := rw_ _ (gt_elem (l := s.rows) (k := k) (by omega))
      refine GC.region ?_;refine GL.step rfl (t_index (i := 1) rfl rfl rfl rfl Tryz.underlying59 sz_166 (by omega) (gt_ok (by omega) (by omega))) (GL.ex fun p_x74 => GL.ex fun r_x74 => GL.and fun ok_x74 => ?_)
      rcases r_x74 with ⟨_,⟨_,⟨_,⟨Ax74_0,cpx74_0⟩⟩⟩⟩
      refine GL.step rfl (t_mem rfl (m_loadPN (i := 0) rfl rfl ag_166 (vs := [_,_,_,_]) sz_166 ⟨rfl,rfl,rfl,rfl,trivial⟩)) ?_;refine GL.step rfl (t_alloc rfl ze_166) (GL.ex fun b_t12 => ?_);refine GL.sn_ 0 ?_
      refine GL.nil (?_ : GC _ _ _ _)
      refine GC.rr 1 ?_;refine GL.ln_ 0 2 ?_;refine GL.cl Tryz.call64 [] [1] rfl rfl rfl (by exact encres_ct (gt s.rows (k : Int)).result _ _ hx.2.2) ?_
      rintro _ _ _ ⟨A79,cp79,l79,k79,rfl,rfl,rfl⟩
      refine GL.rz 5 ?_;refine GC.region ?_;refine GL.rn 2 ?_;refine GL.ld_ 1 ?_;refine GL.rn 1 ?_;refine GL.ld_ 1 ?_;refine GL.step rfl (t_buildSlice rfl Tryz.underlying53 sz_3 ze_3 rfl rfl rfl rfl rfl rfl) (GL.ex fun b_t87 => ?_)
      refine GL.freezeC (enc := iv) (xs := [(gt s.rows (k : Int)).client,(gt s.rows (k : Int)).serial]) (h1 := fun _ => rfl) (i := 0) rfl ?_;refine GL.cl Tryz.call99 [] [0] rfl rfl rfl (by exact mput_nil 8 _ [(gt s.rows (k : Int)).client,(gt s.rows (k : Int)).serial] _ (by omega) (by omega) (by simp) (by rw [p256_8]; intro x hx; simp at hx; omega) (by simp)) ?_
      rintro _ _ _ ⟨A88,cp88,l88,k88,rfl,rfl,rfl⟩
      refine GL.freezeB (i := 0) rfl ?_;refine GL.step rfl (t_appendS (i := 2) (k := 0) rfl el_47 rfl rfl rfl rfl (by (try simp only [List.length_append,List.length_cons,List.length_nil,List.length_map,flZ_length,flI_length,leN_length]); first | omega | (have := pgs_len hr k; have := pgB_len (pg _ (gt_elem (l := s.pages) (k := k) (by omega))).2.2.2.2; omega) | (have := rws_len hr k; have := rowBy_len (rw_ _ (gt_elem (l := s.rows) (k := k) (by omega))).2.2; simp only [rowBy,List.length_append,flZ_length,List.length_cons,List.length_nil] at this; omega)) (fun _ => rfl)) (GL.ex fun v89 => ?_)
      refine GL.rn 1 ?_;refine GL.freezeB (i := 0) rfl ?_;refine GL.step rfl (t_appendS (i := 1) (k := 0) rfl el_47 rfl rfl rfl rfl (by (try simp only [List.length_append,List.length_cons,List.length_nil,List.length_map,flZ_length,flI_length,leN_length]); first | omega | (have := pgs_len hr k; have := pgB_len (pg _ (gt_elem (l := s.pages) (k := k) (by omega))).2.2.2.2; omega) | (have := rws_len hr k; have := rowBy_len (rw_ _ (gt_elem (l := s.rows) (k := k) (by omega))).2.2; simp only [rowBy,List.length_append,flZ_length,List.length_cons,List.length_nil] at this; omega)) (fun _ => rfl)) (GL.ex fun v91 => ?_)
      refine GL.rowIs (i := 1) (m' := ((sttH s ++ s.pages.flatMap pgB ++ [byI (s.rows.length : Int)] ++ (s.rows.take k).flatMap rowBy ++ rowBy (gt s.rows (k : Int)))).length) (cs' := ((sttH s ++ s.pages.flatMap pgB ++ [byI (s.rows.length : Int)] ++ (s.rows.take k).flatMap rowBy ++ rowBy (gt s.rows (k : Int)))).map u8v) rfl (by first | (simp only [List.length_append,List.length_cons,List.length_nil,List.append_assoc]; done) | (simp only [List.length_append,List.length_cons,List.length_nil,List.append_assoc]; omega) | (simp [rowBy]; done) | (simp [rowBy]; omega) | rfl) (by first | (simp only [List.map_append,List.map_cons,List.map_nil,List.append_assoc]; done) | (simp [rowBy]; done) | rfl) rfl ?_
      refine GL.shape (i := 1) rfl (fun A_b c_b e_b l_b k_b => ?_)
      subst e_b
      refine GL.rn 1 ?_
      refine GL.nil (?_ : GC _ _ _ _)
      refine GC.region ?_;refine GL.pure rfl (p_add rfl rfl (w64 (by omega) (by omega))) ?_;refine GL.rn 1 ?_;refine GL.nil ?_
      exact fun a w h => ⟨(k + 1),(A_b),(c_b),(by omega),by omega,by rw [fm_take (by omega),← List.append_assoc]; exact h.ct [1,1,1] [5,6,7]⟩)
   intro h2; try simp only [tst_] at h2
   first
   | (exfalso; omega)
   |(skip
     refine GC.exit (?_ : GC _ _ _ _)
     refine GC.seq' ?_
     obtain rfl : k = s.rows.length := by omega
     rw [List.take_length]
     refine GC.region ?_;refine GL.rn 2 ?_;refine GL.ln_ 2 2 ?_;refine GL.cl Tryz.call100 [] [2] rfl rfl rfl (by exact mpg_nil s.grp _ _ gr) ?_
     rintro _ _ _ ⟨A96,cp96,l96,k96,rfl,rfl,rfl⟩
     refine GL.freezeB (i := 0) rfl ?_;refine GL.step rfl (t_appendS (i := 0) (k := 0) rfl el_47 rfl rfl rfl rfl (by (try simp only [List.length_append,List.length_cons,List.length_nil,List.length_map,flZ_length,flI_length,leN_length]); first | omega | (have := pgs_len hr k; have := pgB_len (pg _ (gt_elem (l := s.pages) (k := k) (by omega))).2.2.2.2; omega) | (have := rws_len hr k; have := rowBy_len (rw_ _ (gt_elem (l := s.rows) (k := k) (by omega))).2.2; simp only [rowBy,List.length_append,flZ_length,List.length_cons,List.length_nil] at this; omega)) (fun _ => rfl)) (GL.ex fun v97 => ?_)
     refine GL.rowIs (i := 0) (m' := ((sttH s ++ s.pages.flatMap pgB ++ [byI (s.rows.length : Int)] ++ s.rows.flatMap rowBy ++ grpB s.grp)).length) (cs' := ((sttH s ++ s.pages.flatMap pgB ++ [byI (s.rows.length : Int)] ++ s.rows.flatMap rowBy ++ grpB s.grp)).map u8v) rfl (by first | (simp only [List.length_append,List.length_cons,List.length_nil,List.append_assoc]; done) | (simp only [List.length_append,List.length_cons,List.length_nil,List.append_assoc]; omega) | (simp [rowBy]; done) | (simp [rowBy]; omega) | rfl) (by first | (simp only [List.map_append,List.map_cons,List.map_nil,List.append_assoc]; done) | (simp [rowBy]; done) | rfl) rfl ?_
     refine GL.shape (i := 0) rfl (fun A_b c_b e_b l_b k_b => ?_)
     subst e_b
     refine GL.rn 1 ?_
     refine GL.nil (?_ : GC _ _ _ _)
     iterate 2 refine GC.seq' ?_
     have hsb : (sttH s ++ s.pages.flatMap pgB ++ [byI (s.rows.length : Int)] ++ s.rows.flatMap rowBy ++ grpB s.grp).length = (sttB s).length := rfl
     refine GC.region ?_;refine GL.rn 3 ?_
     refine GL.nil (?_ : GC _ _ _ _)
     refine GC.co ?_ ?_
     ·intro h3; try simp only [tst_] at h3
      first
      | (exfalso; omega)
      |(skip
        refine GC.rg 2 ?_;refine GC.ret (Fin.b2 2 3 [] [] ?_)
        exact .inr ⟨by omega,rfl,rfl,rfl⟩)
     intro h3; try simp only [tst_] at h3
     first
     | (exfalso; omega)
     |(skip
       refine GC.skip (?_ : GC _ _ _ _)
       refine GC.rg 3 ?_;refine GC.ret (Fin.b2 2 3 [0] [] ?_)
       exact .inl ⟨by omega,_,_,l_b,k_b,rfl,rfl,rfl⟩)))
theorem encstt_ok (s : Stt) (A : Option Addr) (cp : Nat) (B : Option Addr) (cq : Nat) (C : Option Addr) (cr : Nat) (hs : SttLen s) (hh : heldOk s) (hl : (sttB s).length ≤ 33554432) : Ct Tryz.prog 65 [sttV s A cp B cq C cr] [] (sttQ s A B C)
    (fun u G Q => ∃ A' cp',(sttB s).length ≤ cp' ∧ cp' ≤ 9223372036854775807 ∧ u = .tuple #[.slice A' (sttB s).length cp',.int .i64 0] ∧ G = [rowOf A' cp' (sttB s)] ∧ Q = []) :=
  Ct.mono (encstt_all s A cp B cq C cr hs hh) fun u G Q h => h.elim (fun h => h.2) (fun h => by omega)
theorem encstt_long (s : Stt) (A : Option Addr) (cp : Nat) (B : Option Addr) (cq : Nat) (C : Option Addr) (cr : Nat) (hs : SttLen s) (hh : heldOk s) (hl : 33554432 < (sttB s).length) : Ct Tryz.prog 65 [sttV s A cp B cq C cr] [] (sttQ s A B C)
    (fun u G Q => u = .tuple #[.slice none 0 0,.int .i64 2] ∧ G = [] ∧ Q = []) :=
  Ct.mono (encstt_all s A cp B cq C cr hs hh) fun u G Q h => h.elim (fun h => by omega) (fun h => h.2)
def u64 (x : Int) : Nat := (x % 18446744073709551616).toNat
theorem u64_lt (x : Int) : u64 x < 18446744073709551616 := by unfold u64; omega
theorem cvU64 (x : Int) : IntKind.u64.wrap x = ((u64 x : Nat) : Int) := cvU' x
theorem u64_eq {x : Int} (h : 0 ≤ x) (h' : x < 18446744073709551616) : x = ((u64 x : Nat) : Int) := by unfold u64; omega
theorem partsN_rng (m : Msg) : 0 ≤ partsN m ∧ partsN m < 256 := by
  unfold partsN pbit
  repeat' split
  all_goals omega
theorem flZ1 (l : List Int) (h : ∀ x ∈ l,0 ≤ x ∧ x < 256) : flZ 1 l = l.map byI := by
  unfold flZ
  induction l with
  | nil => rfl
  | cons x r ih =>
    have hx := h x (List.mem_cons_self ..)
    rw [List.flatMap_cons,ih fun y hy => h y (List.mem_cons_of_mem _ hy),List.map_cons]
    have : x.toNat % 256 = x.toNat := by omega
    simp [leN,byI,this]
def pO (m : Msg) : List UInt8 := if m.op = zop then [] else opB m.op
def pR (m : Msg) : List UInt8 := if m.res = rz then [] else resB m.res
def pG (m : Msg) : List UInt8 := if m.grp = zgr then [] else grpB m.grp
def pS (m : Msg) : List UInt8 := if m.stt = zst then [] else sttB m.stt
def hdB (m : Msg) : List UInt8 := [byI m.kind] ++ flI 8 [u64 m.src,u64 m.dst,u64 m.epoch,u64 m.view,u64 m.num,u64 m.commit,u64 m.normal,u64 m.nonce,u64 m.client,u64 m.serial] ++ [byI (partsN m)]
def preB (m : Msg) : List UInt8 := hdB m ++ pO m ++ pR m ++ pG m ++ pS m ++ leN 4 m.log.length
def bodyB (m : Msg) : List UInt8 := preB m ++ m.log.flatMap entB
structure MsgR (m : Msg) : Prop where
  kind : 1 ≤ m.kind ∧ m.kind ≤ 14
  op : ¬ m.op = zop → formD m.op
  res : ¬ m.res = rz → resOk m.res.code m.res.data.length = true
  grp : ¬ m.grp = zgr → groupOk m.grp.epoch m.grp.members = true
  stt : ¬ m.stt = zst → heldOk m.stt
  log : ∀ e ∈ m.log,entOk e
theorem msg_rng {m : Msg} (h : msgOk m) : MsgR m := by
  obtain ⟨h1,h2,h3,h4,h5,⟨g1,g2,g3,g4⟩,h7⟩ := h
  refine ⟨⟨h2,h3⟩,g1.resolve_left,g2.resolve_left,g3.resolve_left,g4.resolve_left,fun e he => ?_⟩
  obtain ⟨j,hj,rfl⟩ := mem_gt he
  exact (h7 j hj).1
theorem hdB_len (m : Msg) : (hdB m).length = 82 := by simp [hdB,flI_length]
theorem pO_len {m : Msg} (h : MsgR m) : (pO m).length ≤ 300000 := by
  unfold pO; split
  · simp
  · exact opB_len (h.op (by assumption))
theorem pR_len {m : Msg} (h : MsgR m) : (pR m).length ≤ 300000 := by
  unfold pR; split
  · simp
  · exact resB_len (h.res (by assumption))
theorem pG_len {m : Msg} (h : MsgR m) : (pG m).length ≤ 100 := by
  unfold pG; split
  · simp
  · exact grpB_len (h.grp (by assumption))
theorem sttB_len {s : Stt} (h : heldOk s) : (sttB s).length ≤ 100000000 := by
  have hr := held_rng h
  have := pgs_all hr
  have := rws_all hr
  have := grpB_len hr.gr
  have := sttH_len s
  simp only [sttB,List.length_append,List.length_cons,List.length_nil]; omega
theorem pS_len {m : Msg} (h : MsgR m) : (pS m).length ≤ 100000000 := by
  unfold pS; split
  · simp
  · exact sttB_len (h.stt (by assumption))
theorem preB_len {m : Msg} (h : MsgR m) : (preB m).length ≤ 200000000 := by
  have := hdB_len m
  have := pO_len h
  have := pR_len h
  have := pG_len h
  have := pS_len h
  simp only [preB,List.length_append,leN_length]; omega
theorem log_len {m : Msg} (h : MsgR m) (k : Nat) : ((m.log.take k).flatMap entB).length ≤ k * 400000 := by
  have := fm_len (f := entB) (n := 400000) (l := m.log.take k) fun x hx => entB_len (h.log x (List.mem_of_mem_take hx))
  rw [List.length_take] at this
  exact Nat.le_trans this (Nat.mul_le_mul_right _ (by omega))
theorem body_ge {m : Msg} {k : Nat} (hk : k ≤ m.log.length) : (preB m).length + ((m.log.take k).flatMap entB).length ≤ (bodyB m).length := by
  have e : m.log.flatMap entB = (m.log.take k).flatMap entB ++ (m.log.drop k).flatMap entB := by rw [← List.flatMap_append,List.take_append_drop]
  rw [bodyB,e]; simp only [List.length_append]; omega
theorem body_ge' {m : Msg} {k : Nat} (hk : k < m.log.length) : (preB m).length + ((m.log.take k).flatMap entB).length + (entB (gt m.log (k : Int))).length ≤ (bodyB m).length := by
  have := body_ge (m := m) (k := k + 1) (by omega)
  rw [fm_take hk,List.length_append] at this
  omega
theorem pS_body (m : Msg) : (pS m).length ≤ (bodyB m).length := by simp only [bodyB,preB,List.length_append]; omega
theorem putall_nil (n : Nat) (L : Option Addr) (l : List Nat) (cl : Nat) (hn : 1 ≤ n) (hn' : n ≤ 8) (hb : 8 * l.length ≤ 100000000000000) (hl : ∀ x ∈ l,x < 256 ^ n) : Ct Tryz.prog 62 [.slice none 0 0,.int .i64 (n : Int),.slice L l.length cl] [] [Pers.row kU L l]
    (fun u G Q => ∃ A' cp',(flI n l).length ≤ cp' ∧ cp' ≤ 9223372036854775807 ∧ u = .tuple #[.slice A' (flI n l).length cp',.int .i64 0] ∧ G = [rowOf A' cp' (flI n l)] ∧ Q = []) :=
  Ct.free (putall_ct none [] 0 n L l cl hn hn' (by simpa using hb) hl) nil8
theorem flI_flZ {x : Int} (h : 0 ≤ x) (h' : x < 18446744073709551616) : flI 8 [u64 x] = flZ 8 [x] := by
  have : u64 x = x.toNat := by unfold u64; omega
  simp [flI,flZ,this]
theorem zq44_ {X : Prop} (h : X := by (exact fun a w h => ⟨(k + 1),(A_b),(c_b),(by omega),by omega,by rw [take_gt (by omega),List.map_append,← List.append_assoc]; exact h.ct [1,1,1,1] (up 1 12)⟩)) : X := h
theorem zq45_ {X : Prop} (h : X := by (exact fun a w h => ⟨(_),(_),trivial,by rw [show pG m = flI 8 [u64 m.grp.epoch] ++ [byI (m.grp.members.length : Int)] ++ (m.grp.members.take m.grp.members.length).map byI from by rw [pG,if_neg (by assumption),grpB,flZ1 [_] (by intro x hx; simp at hx; omega),flZ1 _ (fun x hx => by have := gr.1 x hx; omega),flI_flZ (by omega) (by omega),List.take_length]; rfl]; simp only [← List.append_assoc]; exact h.cut (is := [0,1,1]) (js := (up 2 10)) ⟨rfl,rfl,rfl,trivial⟩ rfl rfl⟩)) : X := h
end Go.Proofs.YtliacpkblicnhaaGreat
