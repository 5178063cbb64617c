/- Texts of this claim, in one: what the law leans on (part 2). -/
import Derived.Test.YtliacpkblicnhaaGreatJ1
set_option linter.unusedVariables false
set_option linter.unusedSimpArgs false
set_option maxRecDepth 100000
namespace Go.Sx
open Go
section
variable {P : Program} {c : Cx} {n : Nat} {env env' : List (Nat × Value)} {G G' Gr : List Own} {Q Q' : List Pers} {d : Nat} {ty : TypeId} {pos : String} {aft : Array Edge} {g : Option (Nat × Bool)} {x y : Operand} {t : TypeId} {a a' : Act} {w w' : World}
theorem CtX.still {f : FuncId} {vs : List Value} {u : Value} (h : ∀ w,(∀ o ∈ G,o.holds w) → (callFunc f vs.toArray).run P w = .ok (.value u) w) : CtX P f vs G [] (fun v G' Q' => v = u ∧ G' = G ∧ Q' = []) :=
  fun w S hh => ⟨u,w,G,[],S,h w hh.own,⟨rfl,rfl,rfl⟩,hh,Fr.refl _ _,fun _ _ _ => Iff.rfl,fun k hk => .inl hk⟩
theorem upd1_eq {l l' : List Value} {o : Nat} {v : Value} (h : upd l o [v] = some l') : l' = l.set o v ∧ o < l.length := by
  obtain ⟨h1,h2⟩ := upd_eq h
  have hlt : o < l.length := h2
  refine ⟨?_,hlt⟩
  rw [h1,List.set_eq_take_append_cons_drop,if_pos hlt]
  simp
theorem setCell_row {b o : Nat} {l l' : List Value} {e : TypeId} {v : Value} (hb : w.heap[b]? = some (.cells l.toArray e (0,0))) (hl : l' = l.set o v) : w.setCell ⟨b,o,none⟩ v = w.setRow b l'.toArray := by
  subst hl
  unfold World.setCell World.setRow
  congr 1
  apply Array.ext_getElem?
  intro i
  rw [Array.getElem?_modify,Array.getElem?_modify]
  by_cases hi : b = i
  · subst hi
    simp [hb]
  · simp [hi]
theorem CtX.turns {f : FuncId} {vs : List Value} {b o : Nat} {l l' : List Value} {e : TypeId} {u v : Value} (hu : upd l o [v] = some l')
    (h : ∀ w,w.cell? ⟨b,o,none⟩ = l[o]? → w.frozen? ⟨b,o,none⟩ = false → (callFunc f vs.toArray).run P w = .ok (.value u) (w.setCell ⟨b,o,none⟩ v)) : CtX P f vs [.cells b l e] [] (fun v G' Q' => v = u ∧ G' = [.cells b l' e] ∧ Q' = []) := by
  intro w S hh
  have hb : w.heap[b]? = some (.cells l.toArray e (0,0)) := hh.own _ (List.mem_singleton.2 rfl)
  obtain ⟨rfl,hlt⟩ := upd1_eq hu
  have hr := h w (by simp [World.cell?,hb]) (by simp [World.frozen?,hb])
  rw [setCell_row hb rfl] at hr
  refine ⟨u,_,[.cells b (l.set o v) e],[],S,hr,⟨rfl,rfl,rfl⟩,⟨fun x hx => ?_,hh.nod,hh.out,fun q hq => by cases hq⟩,Fr.setRow w b _,fun _ _ _ => Iff.rfl,fun k hk => .inl hk⟩
  rcases List.mem_singleton.1 hx with rfl
  exact setRow_heap w b _ _ _ _ hb
theorem x_mark0 {f : FuncId} {fn : Func} (hf : P.funcs[f]? = some fn) (hname : (fn.name == "runtime.NumGoroutine") = false) (hb : fn.body.isNone = true) (hn : Extern.findNext fn = none) (m : Mark)
    (he : Extern.find fn = some (fun _ => do mark m; pure Extern.Race.none_)) : CtX P f [] [] [] (fun v G' Q' => v = .tuple #[] ∧ G' = [] ∧ Q' = []) :=
  CtX.still fun w _ => run_call_mark0 hf hname hb hn m he w
theorem x_marked {f : FuncId} {fn : Func} (hf : P.funcs[f]? = some fn) (hname : (fn.name == "runtime.NumGoroutine") = false) (hb : fn.body.isNone = true) (hn : Extern.findNext fn = none) (m : Addr → Mark)
    (he : Extern.find fn = some (Extern.Race.marked m)) (p : Addr) : CtX P f [.pointer (some p)] [] [] (fun v G' Q' => v = .tuple #[] ∧ G' = [] ∧ Q' = []) :=
  CtX.still fun w _ => run_call_marked hf hname hb hn m he p w
theorem x_aload {f : FuncId} {fn : Func} (hf : P.funcs[f]? = some fn) (hname : (fn.name == "runtime.NumGoroutine") = false) (hb : fn.body.isNone = true) (hn : Extern.findNext fn = none) (k : IntKind)
    (he : Extern.find fn = some (Extern.Atomic.loadT (.int k))) {b o : Nat} {l : List Value} {e : TypeId} {z : Int} (hz : nth l o = some (.int k z)) : CtX P f [.pointer (some ⟨b,o,none⟩)] [.cells b l e] [] (fun v G' Q' => v = .int k z ∧ G' = [.cells b l e] ∧ Q' = []) :=
  CtX.still fun w h => run_call_load hf hname hb hn k he (by
    have hb : w.heap[b]? = some (.cells l.toArray e (0,0)) := h _ (List.mem_singleton.2 rfl)
    rw [nth_eq] at hz
    simp [World.cell?,hb,hz])
theorem x_astore {f : FuncId} {fn : Func} (hf : P.funcs[f]? = some fn) (hname : (fn.name == "runtime.NumGoroutine") = false) (hb : fn.body.isNone = true) (hn : Extern.findNext fn = none) (k : IntKind)
    (he : Extern.find fn = some Extern.Atomic.storeT) {b o : Nat} {l l' : List Value} {e : TypeId} {z : Int} (hu : upd l o [.int k z] = some l') : CtX P f [.pointer (some ⟨b,o,none⟩),.int k z] [.cells b l e] [] (fun v G' Q' => v = .tuple #[] ∧ G' = [.cells b l' e] ∧ Q' = []) :=
  CtX.turns hu fun w hc hz => by
    have hlt := (upd1_eq hu).2
    rw [List.getElem?_eq_getElem hlt] at hc
    exact run_call_store hf hname hb hn he hc hz
theorem x_aadd {f : FuncId} {fn : Func} (hf : P.funcs[f]? = some fn) (hname : (fn.name == "runtime.NumGoroutine") = false) (hb : fn.body.isNone = true) (hn : Extern.findNext fn = none) (k : IntKind)
    (he : Extern.find fn = some (Extern.Atomic.update (Op.intArith .add) k true)) {b o : Nat} {l l' : List Value} {e : TypeId} {z y s : Int} (hc : nth l o = some (.int k z)) (hs : ∀ w,(Op.intArith .add k z y).run P w = .ok (.int k s) w) (hu : upd l o [.int k s] = some l') : CtX P f [.pointer (some ⟨b,o,none⟩),.int k y] [.cells b l e] [] (fun v G' Q' => v = .int k s ∧ G' = [.cells b l' e] ∧ Q' = []) :=
  CtX.turns hu fun w hc' hz => by
    rw [nth_eq] at hc
    rw [hc] at hc'
    exact run_call_add hf hname hb hn k he hc' hz (hs w)
theorem x_cas {f : FuncId} {fn : Func} (hf : P.funcs[f]? = some fn) (hname : (fn.name == "runtime.NumGoroutine") = false) (hb : fn.body.isNone = true) (hn : Extern.findNext fn = none) (k : IntKind)
    (he : Extern.find fn = some (Extern.Atomic.casT (.int k))) {b o : Nat} {l l' : List Value} {e : TypeId} {z y : Int} (hc : nth l o = some (.int k z)) (hu : upd l o [.int k y] = some l') : CtX P f [.pointer (some ⟨b,o,none⟩),.int k z,.int k y] [.cells b l e] [] (fun v G' Q' => v = .bool true ∧ G' = [.cells b l' e] ∧ Q' = []) :=
  CtX.turns hu fun w hc' hz => by
    rw [nth_eq] at hc
    rw [hc] at hc'
    exact run_call_cas_hit hf hname hb hn k he hc' hz
def CtD (P : Program) (f : FuncId) (us : List Value) (G : List Own) (Q : List Pers) (R : Value → List Own → List Pers → Prop) : Prop :=
  ∀ w S,Heap S G Q w → CallsD P f us.toArray .returning w fun e u' w' => u' = .returning ∧ retOf ⟨w,S,keysOf G,[]⟩ R e w'
theorem CtD.intro {f : FuncId} {fn : Func} {code : Code} {args : List Value} {R : Value → List Own → List Pers → Prop} (hf : P.funcs[f]? = some fn) (hb : fn.body = some code) (hn : fn.ntmps = n) (hl : Nat.ble args.length n = true)
    (h : ∀ c : Cx,c.L0 = keysOf G → GC P (Fin P fn c R) code (St c n (enum 0 args) G Q)) : CtD P f args G Q R := by
  intro w S hh
  refine callsD_of_wp hf hb ?_
  have hl := Nat.le_of_ble_eq_true hl
  let c : Cx := ⟨w,S,keysOf G,[]⟩
  refine Code.wp_mono ?_ (h c rfl _ w ⟨S,?_,hh,?_⟩)
  · intro e a w' he
    exact he rfl
  · refine ⟨⟨by simp [hn]; omega,fun i v hi => ?_⟩,rfl⟩
    obtain ⟨k,rfl,hk⟩ := look_enum args 0 i v hi
    rw [Nat.zero_add]
    have hlt : k < args.length := (List.getElem?_eq_some_iff.1 hk).1
    simp only [List.size_toArray]
    rw [Array.getElem?_append_left (by simpa using hlt)]
    simpa using hk
  · exact ⟨Fr.refl _ _,fun _ _ _ => Iff.rfl,fun k hk => .inl hk⟩
abbrev dcall (f : FuncId) (us : List Value) : Deferred := ⟨.fn (.func f) #[],us.toArray⟩
theorem GL.deferN {ops : Array Oper} {X : Exit → Asr} {rest : List Oper} {f : FuncId} {xs : List Operand} {us : List Value} {ts : Array TypeId} (hx : evs env xs = some us)
    (k : GL P ops X rest (St ⟨c.w0,c.S0,c.L0,dcall f us :: c.D⟩ n env G Q)) : GL P ops X (⟨none,.defer { callee := .value (.func f),args := xs.toArray,argTypes := ts },ty,pos,aft,none⟩ :: rest) (St c n env G Q) := by
  intro a w h
  refine wpList_plain rfl fun K hK => ?_
  unfold Oper.wp
  obtain ⟨S,he,hh,hrel⟩ := h
  have hm : xs.toArray.map a.eval = us.toArray := by rw [List.map_toArray,he.toEnv.evals hx]
  have hrun : (execOp a.eval ⟨none,.defer { callee := .value (.func f),args := xs.toArray,argTypes := ts },ty,pos,aft,none⟩).run P w = .ok (.defer (dcall f us)) w := by
    simp [execOp,resolve,Act.eval,Deferred.ofValue,hm]
  rw [hrun,Oper.upon_defer]
  refine hK _ _ (k _ w ⟨S,⟨⟨he.size,he.has⟩,?_⟩,hh,⟨hrel.fr,hrel.old,hrel.key⟩⟩)
  show _ :: a.defers = _
  rw [he.defers]
theorem FinD.pop {f : FuncId} {us : List Value} {D : List Deferred} (hf : Ent P f) {fn : Func} {R : Value → List Own → List Pers → Prop} {is js : List Nat} {G1 : List Own} {Q1 : List Pers} {RC : Value → List Own → List Pers → Prop} (hD : c.D = dcall f us :: D) (hC : CtD P f us G1 Q1 RC) (hsel : sel G is = some (G1,Gr)) (hq : pickQ Q js = some Q1)
    (k : ∀ u G2 Q2 a w,RC u G2 Q2 → St ⟨c.w0,c.S0,c.L0,D⟩ n env (G2 ++ Gr) (Q2 ++ Q) a w → FinD P fn ⟨c.w0,c.S0,c.L0,D⟩ R .ret a w) (h : St c n env G Q a w) : FinD P fn c R .ret a w := by
  obtain ⟨S,he,hh,hrel⟩ := h
  show Leaves P fn a.tmps (retOf c R) a.defers .returning w
  have hd : a.defers = dcall f us :: D := he.defers.trans hD
  rw [hd]
  refine ⟨by simp,.func f,#[],f,us.toArray,rfl,?_,?_⟩
  · have := hf us.toArray w
    simp only [invoke,Array.append_empty,this]
  · have hp' := sel_perm hsel
    have hh1 := hh.perm hp'
    have hrel1 := hrel.perm hp'
    have hin : Heap S G1 Q1 w := hh1.sub (List.sublist_append_left _ _) (pickQ_mem hq)
    refine (hC w S hin).mono ?_
    rintro e u' w' ⟨rfl,u,G2,Q2,S',rfl,hR,h',hfr,hS,hkk⟩
    have he0 : EnvD D n env { a with defers := D } := ⟨⟨he.size,he.has⟩,rfl⟩
    have hst : St ⟨c.w0,c.S0,c.L0,D⟩ n env (G2 ++ Gr) (Q2 ++ Q) { a with defers := D } w' := St.called (c := ⟨c.w0,c.S0,c.L0,D⟩) hh1 ⟨hrel1.fr,hrel1.old,hrel1.key⟩ h' hfr hS hkk he0
    exact k u G2 Q2 _ w' hR hst
theorem t_unsafe {src dst : TypeId} {i b o : Nat} {l : List Value} {e : TypeId} {u : Value} (hd : Nat.blt d n = true) (hi : nthO G i = some (.cells b l e)) (hx : ev env x = some (.pointer (some ⟨b,o,none⟩))) (hn : nth l o = some u) (hs : P.underlying src = some (.pointer t)) (hdst : P.underlying dst = some .unsafePointer) (hsz : (P.info? t).map (fun i => decide (i.size = 0)) = some false) :
    Tr P ⟨some d,.convert src dst x,ty,pos,aft,g⟩ (St c n env G Q) (St c n ((d,.pointer (some ⟨b,o,none⟩)) :: env) G Q) := by
  intro a w h K R hk
  have hb : w.heap[b]? = some (.cells l.toArray e (0,0)) := h.own hi
  rw [nth_eq] at hn
  have hrun : (execOp a.eval ⟨some d,.convert src dst x,ty,pos,aft,g⟩).run P w = .ok (.value (.pointer (some ⟨b,o,none⟩))) w := by
    have := run_convert_to_unsafe (P := P) hs hdst hsz (a := ⟨b,o,none⟩) (v := u) (w := w) (by simp [World.cell?,hb,hn])
    simp only [execOp,h.en.eval hx,this,Sem.run_bind,Result.andThen_ok,Sem.run_pure]
  unfold Oper.wp
  rw [hrun]
  exact hk _ _ (h.keep (Fr.refl _ _) (h.en.put hd _))
end
end Go.Sx
namespace Go.Sx
open Go
abbrev lkV (p : Int × Int) : Value := .agg #[.int .i64 p.1,.int .i64 p.2]
structure LinkKey (P : Program) (kt : TypeId) : Prop where
  wide : (match P.underlying kt with | some (.array _ _) | some (.struct _) => true | _ => false) = true
  check : ∀ (em : Bool) (p : Int × Int) (w : World),(Instr.checkKey em 10000 kt (lkV p)).run P w = .ok () w
  eq : ∀ (p q : Int × Int) (w : World),(Op.equal kt (lkV p) (lkV q)).run P w = .ok (decide (p = q)) w
def LkR : List (Int × Int) → List MapEntry → Prop
  | [],[] => True
  | p :: T,e :: es => e.key = lkV p ∧ e.val = .agg #[] ∧ LkR T es
  | _,_ => False
theorem LkR.snoc {p : Int × Int} {b : Nat} : ∀ {T : List (Int × Int)} {es : List MapEntry},LkR T es → LkR (T ++ [p]) (es ++ [{ key := lkV p,val := .agg #[],born := b }])
  | [],[],_ => ⟨rfl,rfl,trivial⟩
  | q :: T,e :: es,⟨h1,h2,h3⟩ => ⟨h1,h2,LkR.snoc h3⟩
  | [],_ :: _,h => h.elim
  | _ :: _,[],h => h.elim
theorem LkR.get {j : Nat} {p : Int × Int} : ∀ {T : List (Int × Int)} {es : List MapEntry} {j : Nat},LkR T es → T[j]? = some p → ∃ e,es[j]? = some e ∧ e.key = lkV p
  | [],[],_,_,h => by simp at h
  | q :: T,e :: es,0,⟨h1,h2,h3⟩,h => by simp only [List.getElem?_cons_zero,Option.some.injEq] at h; subst h; exact ⟨e,rfl,h1⟩
  | q :: T,e :: es,j + 1,⟨h1,h2,h3⟩,h => by
    obtain ⟨e',h4,h5⟩ := LkR.get (j := j) h3 (by simpa using h)
    exact ⟨e',by simpa using h4,h5⟩
  | [],_ :: _,_,h,_ => h.elim
  | _ :: _,[],_,h,_ => h.elim
theorem LkR.same {p : Int × Int} : ∀ {T : List (Int × Int)} {es : List MapEntry} {j : Nat},LkR T es → T[j]? = some p → LkR T (es.modify j fun e => { e with key := lkV p,val := .agg #[] })
  | [],[],_,_,h => by simp at h
  | q :: T,e :: es,0,⟨h1,h2,h3⟩,h => by simp only [List.getElem?_cons_zero,Option.some.injEq] at h; subst h; exact ⟨rfl,rfl,h3⟩
  | q :: T,e :: es,j + 1,⟨h1,h2,h3⟩,h => ⟨h1,h2,LkR.same (j := j) h3 (by simpa using h)⟩
  | [],_ :: _,_,h,_ => h.elim
  | _ :: _,[],_,h,_ => h.elim
theorem LkR.less : ∀ {T : List (Int × Int)} {es : List MapEntry} (j : Nat),LkR T es → LkR (T.eraseIdx j) (es.eraseIdx j)
  | [],[],_,_ => trivial
  | q :: T,e :: es,0,⟨h1,h2,h3⟩ => h3
  | q :: T,e :: es,j + 1,⟨h1,h2,h3⟩ => ⟨h1,h2,LkR.less j h3⟩
  | [],_ :: _,_,h => h.elim
  | _ :: _,[],_,h => h.elim
theorem LkR.len : ∀ {T : List (Int × Int)} {es : List MapEntry},LkR T es → T.length = es.length
  | [],[],_ => rfl
  | q :: T,e :: es,⟨_,_,h⟩ => by simp [LkR.len h]
  | [],_ :: _,h => h.elim
  | _ :: _,[],h => h.elim
theorem run_findAsking_lk {P : Program} {kt : TypeId} (K : LinkKey P kt) (p : Int × Int) (w : World) : ∀ {T : List (Int × Int)} {es : List MapEntry} (i : Nat),LkR T es →
    (Instr.findAsking kt (lkV p) es i).run P w = .ok (if p ∈ T then some (i + T.idxOf p,.agg #[]) else none) w
  | [],[],i,_ => by simp [Instr.findAsking]
  | q :: T,e :: es,i,⟨h1,h2,h3⟩ => by
    simp only [Instr.findAsking,Sem.run_bind,h1,K.eq,Result.andThen_ok]
    by_cases h : p = q
    · subst h
      simp [h2]
    · have hqp : ¬ q = p := fun e => h e.symm
      have ih := run_findAsking_lk K p w (i + 1) h3
      simp only [h,decide_false,Bool.false_eq_true,if_false,ih,List.mem_cons,false_or]
      by_cases hm : p ∈ T
      · simp only [hm,if_true,List.idxOf_cons,beq_iff_eq,hqp,cond_false]
        have : (q == p) = false := by simpa using hqp
        rw [this]
        simp only [cond_false]
        congr 3
        omega
      · simp [hm]
  | [],_ :: _,_,h => h.elim
  | _ :: _,[],_,h => h.elim
theorem run_findKey_lk {P : Program} {kt : TypeId} (K : LinkKey P kt) (p : Int × Int) (w : World) {T : List (Int × Int)} {es : List MapEntry} (h : LkR T es) :
    (Instr.findKey kt (lkV p) es).run P w = .ok (if p ∈ T then some (T.idxOf p,.agg #[]) else none) w := by
  rw [run_findKey_eq w K.wide,run_findAsking_lk K p w 0 h]
  simp
def lkPut (T : List (Int × Int)) (p : Int × Int) : List (Int × Int) := if p ∈ T then T else T ++ [p]
end Go.Sx
namespace Go.Sx
open Go
section
variable {P : Program} {c : Cx} {n : Nat} {env env' : List (Nat × Value)} {G G' Gr : List Own} {Q Q' : List Pers} {d : Nat} {ty : TypeId} {pos : String} {aft : Array Edge} {g : Option (Nat × Bool)} {x y z : Operand} {t kt et : TypeId} {a a' : Act} {w w' : World}
theorem t_lookupL {i m ck : Nat} {es : Array MapEntry} {T : List (Int × Int)} {p : Int × Int} (K : LinkKey P kt) (hd : Nat.blt d n = true) (hi : nthO G i = some (.blk m (.map es ck))) (hT : LkR T es.toList) (hx : ev env x = some (.map (some m))) (hy : ev env y = some (lkV p))
    (ht : P.underlying t = some (.map kt et)) (hz : zeroB P et = some (.agg #[])) :
    Tr P ⟨some d,.lookup t x y true,ty,pos,aft,g⟩ (St c n env G Q) (St c n ((d,.tuple #[.agg #[],.bool (decide (p ∈ T))]) :: env) G Q) := by
  intro a w h K' R hk'
  have hblk : w.heap[m]? = some (.map es ck) := h.own hi
  have hf := run_findKey_lk (P := P) K p w hT
  have hrun : (execOp a.eval ⟨some d,.lookup t x y true,ty,pos,aft,g⟩).run P w = .ok (.value (.tuple #[.agg #[],.bool (decide (p ∈ T))])) w := by
    by_cases hm : p ∈ T
    · rw [if_pos hm] at hf
      simp only [execOp,h.en.eval hx,h.en.eval hy,Instr.lookup,Sem.run_bind,run_underlying ht,Result.andThen_ok,run_getMap hblk,Sem.run_pure,K.check,hf,if_true,hm,decide_true]
    · rw [if_neg hm] at hf
      simp only [execOp,h.en.eval hx,h.en.eval hy,Instr.lookup,Sem.run_bind,run_underlying ht,Result.andThen_ok,run_getMap hblk,Sem.run_pure,K.check,hf,if_true,hm,decide_false,run_zeroB hz]
  unfold Oper.wp
  rw [hrun]
  exact hk' _ _ (h.keep (Fr.refl _ _) (h.en.put hd _))
theorem t_updateL {i m ck : Nat} {es : Array MapEntry} {T : List (Int × Int)} {p : Int × Int} {GN : Array MapEntry → Nat → List Own} (K : LinkKey P kt) (hi : nthO G i = some (.blk m (.map es ck))) (hT : LkR T es.toList) (hx : ev env x = some (.map (some m))) (hy : ev env y = some (lkV p)) (hv : ev env z = some (.agg #[]))
    (ht : P.underlying t = some (.map kt et)) (hr : ∀ es' ck',repl G i (.blk m (.map es' ck')) = some (GN es' ck')) :
    Tr P ⟨none,.mapUpdate t x y z,ty,pos,aft,g⟩ (St c n env G Q) (fun a w => ∃ es' ck',LkR (lkPut T p) es'.toList ∧ St c n env (GN es' ck') Q a w) := by
  intro a w h K' R hk'
  have hblk : w.heap[m]? = some (.map es ck) := h.own hi
  have hlt : m < w.heap.size := (Array.getElem?_eq_some_iff.1 hblk).1
  have hf := run_findKey_lk (P := P) K p w hT
  have fin : ∀ es' ck',LkR (lkPut T p) es'.toList → (execOp a.eval ⟨none,.mapUpdate t x y z,ty,pos,aft,g⟩).run P w = .ok .skip { w with heap := w.heap.setIfInBounds m (.map es' ck') } → Oper.wp P ⟨none,.mapUpdate t x y z,ty,pos,aft,g⟩ a w K' R := by
    intro es' ck' hm' hrun
    unfold Oper.wp
    rw [hrun]
    refine hk' _ _ ⟨es',ck',hm',h.write hi (hr es' ck') (Fr.setObj w) ?_ (fun k hk => .inl hk) (by simp [Own.keys]) h.en⟩
    show (w.heap.setIfInBounds m _)[m]? = _
    simp [hlt]
  by_cases hm : p ∈ T
  · rw [if_pos hm] at hf
    have hj : T[T.idxOf p]? = some p := by
      rw [List.getElem?_eq_getElem (List.idxOf_lt_length_of_mem hm)]
      simp
    obtain ⟨e,he1,he2⟩ := LkR.get (j := 0) hT hj
    refine fin (es.modify (T.idxOf p) fun e => { e with key := lkV p,val := .agg #[] }) ck ?_ ?_
    · simpa [lkPut,hm] using LkR.same hT hj
    · have hkey : ((es[T.idxOf p]?).map (·.key)).getD (lkV p) = lkV p := by
        rw [← Array.getElem?_toList,he1]
        simp [he2]
      have hstay : (Instr.keyThatStays (lkV p) (lkV p)).run P w = .ok (lkV p) w := by
        simp [Instr.keyThatStays,Instr.sameBits]
      simp only [execOp,h.en.eval hx,h.en.eval hy,h.en.eval hv,Instr.mapUpdate,Sem.run_bind,run_underlying ht,Result.andThen_ok,run_getMap hblk,Sem.run_pure,K.check,hf,hkey,hstay,run_setMap hblk]
  · rw [if_neg hm] at hf
    refine fin (es.push { key := lkV p,val := .agg #[],born := ck }) (ck + 1) ?_ ?_
    · simpa [lkPut,hm] using LkR.snoc (p := p) (b := ck) hT
    · simp only [execOp,h.en.eval hx,h.en.eval hy,h.en.eval hv,Instr.mapUpdate,Sem.run_bind,run_underlying ht,Result.andThen_ok,run_getMap hblk,Sem.run_pure,K.check,hf,run_setMap hblk]
theorem t_deleteL {i m ck : Nat} {es : Array MapEntry} {T : List (Int × Int)} {p : Int × Int} {GN : Array MapEntry → Nat → List Own} (K : LinkKey P kt) (hi : nthO G i = some (.blk m (.map es ck))) (hT : LkR T es.toList) (hx : ev env x = some (.map (some m))) (hy : ev env y = some (lkV p))
    (ht : P.underlying t = some (.map kt et)) (hr : ∀ es' ck',repl G i (.blk m (.map es' ck')) = some (GN es' ck')) :
    Tr P ⟨none,.call { callee := .builtin .delete,args := #[x,y],argTypes := #[t,kt] },ty,pos,aft,g⟩ (St c n env G Q) (fun a w => ∃ es' ck',LkR (T.erase p) es'.toList ∧ St c n env (GN es' ck') Q a w) := by
  intro a w h K' R hk'
  have hblk : w.heap[m]? = some (.map es ck) := h.own hi
  have hlt : m < w.heap.size := (Array.getElem?_eq_some_iff.1 hblk).1
  have hf := run_findKey_lk (P := P) K p w hT
  have fin : ∀ es' ck',LkR (T.erase p) es'.toList → (execOp a.eval ⟨none,.call { callee := .builtin .delete,args := #[x,y],argTypes := #[t,kt] },ty,pos,aft,g⟩).run P w = .ok (.value (.tuple #[])) { w with heap := w.heap.setIfInBounds m (.map es' ck') } → Oper.wp P ⟨none,.call { callee := .builtin .delete,args := #[x,y],argTypes := #[t,kt] },ty,pos,aft,g⟩ a w K' R := by
    intro es' ck' hm' hrun
    unfold Oper.wp
    rw [hrun]
    refine hk' _ _ ⟨es',ck',hm',h.write hi (hr es' ck') (Fr.setObj w) ?_ (fun k hk => .inl hk) (by simp [Own.keys]) h.en⟩
    show (w.heap.setIfInBounds m _)[m]? = _
    simp [hlt]
  by_cases hm : p ∈ T
  · rw [if_pos hm] at hf
    refine fin (es.eraseIdxIfInBounds (T.idxOf p)) ck ?_ ?_
    · have hl := LkR.len hT
      have hjs : T.idxOf p < es.size := by have := List.idxOf_lt_length_of_mem hm; rw [hl] at this; simpa using this
      have hsub : (es.eraseIdxIfInBounds (T.idxOf p)).toList = es.toList.eraseIdx (T.idxOf p) := by
        unfold Array.eraseIdxIfInBounds
        rw [dif_pos hjs]
        simp
      rw [hsub,List.erase_eq_eraseIdx_of_idxOf rfl]
      exact LkR.less _ hT
    · simp [execOp,resolve,invoke,builtin,Builtin.delete_,h.en.eval hx,h.en.eval hy,run_underlying ht,run_getMap hblk,K.check,hf,run_setMap hblk,Result.andThen]
  · rw [if_neg hm] at hf
    refine fin es ck ?_ ?_
    · rw [List.erase_of_not_mem hm]; exact hT
    · simp [execOp,resolve,invoke,builtin,Builtin.delete_,h.en.eval hx,h.en.eval hy,run_underlying ht,run_getMap hblk,K.check,hf,run_setMap hblk,Result.andThen]
end
end Go.Sx
namespace Go.Proofs.YtliacpkblicnhaaGreat
open Go Go.Sx Go.Proofs
abbrev netC (d s z : Int) (P M : Value) (a b : Int) : List Value := [.int .u32 d,.int .i32 s,.int .u32 z,P,M,.int .i64 a,.int .i64 b]
abbrev netB (p : Nat) (d s z : Int) (P M : Value) (a b : Int) : Own := .cells p (netC d s z P M a b) 42
end Go.Proofs.YtliacpkblicnhaaGreat
namespace Go.Proofs.YtliacpkblicnhaaGreat
open Go Go.Sx Go.Proofs
section
variable (p : Nat) (d s z : Int) (P M : Value) (a b : Int)
theorem disable_x : CtX Tryz.prog 197 [] [] [] (fun v G Q => v = .tuple #[] ∧ G = [] ∧ Q = []) := x_mark0 Tryz.func197 (by kernel_rfl) (by kernel_rfl) (by kernel_rfl) .disable (by kernel_rfl)
theorem enable_x : CtX Tryz.prog 199 [] [] [] (fun v G Q => v = .tuple #[] ∧ G = [] ∧ Q = []) := x_mark0 Tryz.func199 (by kernel_rfl) (by kernel_rfl) (by kernel_rfl) .enable (by kernel_rfl)
theorem acquire_x (q : Addr) : CtX Tryz.prog 200 [.pointer (some q)] [] [] (fun v G Q => v = .tuple #[] ∧ G = [] ∧ Q = []) := x_marked Tryz.func200 (by kernel_rfl) (by kernel_rfl) (by kernel_rfl) .acquire (by kernel_rfl) q
theorem release_x (q : Addr) : CtX Tryz.prog 202 [.pointer (some q)] [] [] (fun v G Q => v = .tuple #[] ∧ G = [] ∧ Q = []) := x_marked Tryz.func202 (by kernel_rfl) (by kernel_rfl) (by kernel_rfl) .releaseMerge (by kernel_rfl) q
theorem ldu_x : CtX Tryz.prog 104 [.pointer (some ⟨p,0,none⟩)] [netB p d s z P M a b] [] (fun v G Q => v = .int .u32 d ∧ G = [netB p d s z P M a b] ∧ Q = []) := x_aload Tryz.func104 (by kernel_rfl) (by kernel_rfl) (by kernel_rfl) .u32 (by kernel_rfl) rfl
theorem stu_x (y : Int) : CtX Tryz.prog 160 [.pointer (some ⟨p,0,none⟩),.int .u32 y] [netB p d s z P M a b] [] (fun v G Q => v = .tuple #[] ∧ G = [netB p y s z P M a b] ∧ Q = []) := x_astore Tryz.func160 (by kernel_rfl) (by kernel_rfl) (by kernel_rfl) .u32 (by kernel_rfl) rfl
theorem cas_x : CtX Tryz.prog 198 [.pointer (some ⟨p,1,none⟩),.int .i32 s,.int .i32 1] [netB p d s z P M a b] [] (fun v G Q => v = .bool true ∧ G = [netB p d 1 z P M a b] ∧ Q = []) := x_cas Tryz.func198 (by kernel_rfl) (by kernel_rfl) (by kernel_rfl) .i32 (by kernel_rfl) rfl rfl
theorem add32_x : CtX Tryz.prog 203 [.pointer (some ⟨p,1,none⟩),.int .i32 (-1)] [netB p d 1 z P M a b] [] (fun v G Q => v = .int .i32 0 ∧ G = [netB p d 0 z P M a b] ∧ Q = []) :=
  x_aadd Tryz.func203 (by kernel_rfl) (by kernel_rfl) (by kernel_rfl) .i32 (by kernel_rfl) rfl (fun w => by simp [go_sem]; rfl) rfl
theorem addS_x (ha : -4611686018427387904 ≤ a ∧ a ≤ 4611686018427387904) : CtX Tryz.prog 46 [.pointer (some ⟨p,5,none⟩),.int .i64 1] [netB p d s z P M a b] [] (fun v G Q => v = .int .i64 (a + 1) ∧ G = [netB p d s z P M (a + 1) b] ∧ Q = []) :=
  x_aadd Tryz.func46 (by kernel_rfl) (by kernel_rfl) (by kernel_rfl) .i64 (by kernel_rfl) rfl (fun w => by simp [Op.intArith,w64 (show -9223372036854775808 ≤ a + 1 by omega) (by omega)]) rfl
theorem addL_x (hb : -4611686018427387904 ≤ b ∧ b ≤ 4611686018427387904) : CtX Tryz.prog 46 [.pointer (some ⟨p,6,none⟩),.int .i64 1] [netB p d s z P M a b] [] (fun v G Q => v = .int .i64 (b + 1) ∧ G = [netB p d s z P M a (b + 1)] ∧ Q = []) :=
  x_aadd Tryz.func46 (by kernel_rfl) (by kernel_rfl) (by kernel_rfl) .i64 (by kernel_rfl) rfl (fun w => by simp [Op.intArith,w64 (show -9223372036854775808 ≤ b + 1 by omega) (by omega)]) rfl
theorem ldS_x : CtX Tryz.prog 54 [.pointer (some ⟨p,5,none⟩)] [netB p d s z P M a b] [] (fun v G Q => v = .int .i64 a ∧ G = [netB p d s z P M a b] ∧ Q = []) := x_aload Tryz.func54 (by kernel_rfl) (by kernel_rfl) (by kernel_rfl) .i64 (by kernel_rfl) rfl
theorem ldL_x : CtX Tryz.prog 54 [.pointer (some ⟨p,6,none⟩)] [netB p d s z P M a b] [] (fun v G Q => v = .int .i64 b ∧ G = [netB p d s z P M a b] ∧ Q = []) := x_aload Tryz.func54 (by kernel_rfl) (by kernel_rfl) (by kernel_rfl) .i64 (by kernel_rfl) rfl
theorem addS_ct (ha : -4611686018427387904 ≤ a ∧ a ≤ 4611686018427387904) : Ct Tryz.prog 23 [.pointer (some ⟨p,5,none⟩),.int .i64 1] [netB p d s z P M a b] [] (fun v G Q => v = .int .i64 (a + 1) ∧ G = [netB p d s z P M (a + 1) b] ∧ Q = []) := by
 refine Ct.intro Tryz.func23 rfl rfl rfl (fun c hc => ?_)
 refine GC.rg 1 ?_;refine GC.rr 4 ?_;refine GL.step rfl (t_ext (P := Tryz.prog) (f := 46) rfl rfl (is := [0]) (js := []) rfl rfl (by exact addS_x _ _ _ _ _ _ _ _ ha)) (GL.ret ?_)
 rintro _ _ _ ⟨rfl,rfl,rfl⟩
 refine GL.rz 1 ?_;refine GC.ret (Fin.b1 4 [0] [] ?_)
 exact ⟨rfl,rfl,rfl⟩
theorem addL_ct (hb : -4611686018427387904 ≤ b ∧ b ≤ 4611686018427387904) : Ct Tryz.prog 23 [.pointer (some ⟨p,6,none⟩),.int .i64 1] [netB p d s z P M a b] [] (fun v G Q => v = .int .i64 (b + 1) ∧ G = [netB p d s z P M a (b + 1)] ∧ Q = []) := by
 refine Ct.intro Tryz.func23 rfl rfl rfl (fun c hc => ?_)
 refine GC.rg 1 ?_;refine GC.rr 4 ?_;refine GL.step rfl (t_ext (P := Tryz.prog) (f := 46) rfl rfl (is := [0]) (js := []) rfl rfl (by exact addL_x _ _ _ _ _ _ _ _ hb)) (GL.ret ?_)
 rintro _ _ _ ⟨rfl,rfl,rfl⟩
 refine GL.rz 1 ?_;refine GC.ret (Fin.b1 4 [0] [] ?_)
 exact ⟨rfl,rfl,rfl⟩
theorem ldS_ct : Ct Tryz.prog 33 [.pointer (some ⟨p,5,none⟩)] [netB p d s z P M a b] [] (fun v G Q => v = .int .i64 a ∧ G = [netB p d s z P M a b] ∧ Q = []) := by
 refine Ct.intro Tryz.func33 rfl rfl rfl (fun c hc => ?_)
 refine GC.rg 1 ?_;refine GC.rr 3 ?_;refine GL.step rfl (t_ext (P := Tryz.prog) (f := 54) rfl rfl (is := [0]) (js := []) rfl rfl (by exact ldS_x _ _ _ _ _ _ _ _)) (GL.ret ?_)
 rintro _ _ _ ⟨rfl,rfl,rfl⟩
 refine GL.rz 1 ?_;refine GC.ret (Fin.b1 2 [0] [] ?_)
 exact ⟨rfl,rfl,rfl⟩
theorem ldL_ct : Ct Tryz.prog 33 [.pointer (some ⟨p,6,none⟩)] [netB p d s z P M a b] [] (fun v G Q => v = .int .i64 b ∧ G = [netB p d s z P M a b] ∧ Q = []) := by
 refine Ct.intro Tryz.func33 rfl rfl rfl (fun c hc => ?_)
 refine GC.rg 1 ?_;refine GC.rr 3 ?_;refine GL.step rfl (t_ext (P := Tryz.prog) (f := 54) rfl rfl (is := [0]) (js := []) rfl rfl (by exact ldL_x _ _ _ _ _ _ _ _)) (GL.ret ?_)
 rintro _ _ _ ⟨rfl,rfl,rfl⟩
 refine GL.rz 1 ?_;refine GC.ret (Fin.b1 2 [0] [] ?_)
 exact ⟨rfl,rfl,rfl⟩
theorem bld0_ct : Ct Tryz.prog 70 [.pointer (some ⟨p,0,none⟩)] [netB p 0 s z P M a b] [] (fun v G Q => v = .bool false ∧ G = [netB p 0 s z P M a b] ∧ Q = []) := by
 refine Ct.intro Tryz.func70 rfl rfl rfl (fun c hc => ?_)
 refine GC.rg 1 ?_;refine GC.rr 3 ?_;refine GL.step rfl (t_ext (P := Tryz.prog) (f := 104) rfl rfl (is := [0]) (js := []) rfl rfl (by exact ldu_x _ _ _ _ _ _ _ _)) (GL.ret ?_)
 rintro _ _ _ ⟨rfl,rfl,rfl⟩
 refine GL.rz 2 ?_;refine GC.ret (Fin.b1 2 [0] [] ?_)
 exact ⟨by first | rfl | decide,rfl,rfl⟩
theorem bld1_ct : Ct Tryz.prog 70 [.pointer (some ⟨p,0,none⟩)] [netB p 1 s z P M a b] [] (fun v G Q => v = .bool true ∧ G = [netB p 1 s z P M a b] ∧ Q = []) := by
 refine Ct.intro Tryz.func70 rfl rfl rfl (fun c hc => ?_)
 refine GC.rg 1 ?_;refine GC.rr 3 ?_;refine GL.step rfl (t_ext (P := Tryz.prog) (f := 104) rfl rfl (is := [0]) (js := []) rfl rfl (by exact ldu_x _ _ _ _ _ _ _ _)) (GL.ret ?_)
 rintro _ _ _ ⟨rfl,rfl,rfl⟩
 refine GL.rz 2 ?_;refine GC.ret (Fin.b1 2 [0] [] ?_)
 exact ⟨by first | rfl | decide,rfl,rfl⟩
theorem ilock_ct : Ct Tryz.prog 158 [.pointer (some ⟨p,1,none⟩)] [netB p d 0 z P M a b] [] (fun v G Q => v = .tuple #[] ∧ G = [netB p d 1 z P M a b] ∧ Q = []) := by
 refine Ct.intro Tryz.func158 rfl rfl rfl (fun c hc => ?_)
 refine GC.sr_ ?_;refine GL.step rfl (t_ext (P := Tryz.prog) (f := 197) rfl rfl (is := []) (js := []) rfl rfl (by exact disable_x)) (GL.ret ?_)
 rintro _ _ _ ⟨rfl,rfl,rfl⟩
 refine GL.nl_ ?_;refine GC.seq' ?_;refine GC.rr 3 ?_;refine GL.step rfl (t_ext (P := Tryz.prog) (f := 198) rfl rfl (is := [0]) (js := []) rfl rfl (by exact cas_x p d 0 z P M a b)) (GL.ret ?_)
 rintro _ _ _ ⟨rfl,rfl,rfl⟩
 refine GL.nl_ ?_;refine GC.cond_true rfl ?_;refine GC.seq' ?_;refine GC.cond_true rfl ?_;refine GC.sr_ ?_;refine GL.step rfl (t_ext (P := Tryz.prog) (f := 199) rfl rfl (is := []) (js := []) rfl rfl (by exact enable_x)) (GL.ret ?_)
 rintro _ _ _ ⟨rfl,rfl,rfl⟩
 refine GL.nl_ ?_;refine GC.region ?_;refine GL.rn 1 ?_;refine GL.step rfl (t_unsafe (i := 0) rfl rfl rfl rfl Tryz.underlying277 Tryz.underlying281 (by kernel_rfl)) ?_;refine GL.step rfl (t_ext (P := Tryz.prog) (f := 200) rfl rfl (is := []) (js := []) rfl rfl (by exact acquire_x _)) (GL.ret ?_)
 rintro _ _ _ ⟨rfl,rfl,rfl⟩
 refine GL.nil (?_ : GC _ _ _ _)
 refine GC.ret ?_
 refine fun a w h => Fin.back0 rfl (is := [0]) (js := []) rfl rfl ?_ h
 clear h
 exact ⟨rfl,rfl,rfl⟩
theorem lock_ct : Ct Tryz.prog 105 [.pointer (some ⟨p,1,none⟩)] [netB p d 0 z P M a b] [] (fun v G Q => v = .tuple #[] ∧ G = [netB p d 1 z P M a b] ∧ Q = []) := by
 refine Ct.intro Tryz.func105 rfl rfl rfl (fun c hc => ?_)
 refine GC.region ?_;refine GL.rn 3 ?_;refine GL.cl Tryz.call158 [0] [] rfl rfl rfl (by exact ilock_ct _ _ _ _ _ _ _) ?_
 rintro _ _ _ ⟨rfl,rfl,rfl⟩
 refine GL.nil ?_
 refine fun a w h => Fin.back0 rfl (is := [0]) (js := []) rfl rfl ?_ h
 clear h
 exact ⟨rfl,rfl,rfl⟩
theorem iunlock_ct : Ct Tryz.prog 159 [.pointer (some ⟨p,1,none⟩)] [netB p d 1 z P M a b] [] (fun v G Q => v = .tuple #[] ∧ G = [netB p d 0 z P M a b] ∧ Q = []) := by
 refine Ct.intro Tryz.func159 rfl rfl rfl (fun c hc => ?_)
 refine GC.seq' ?_;refine GC.cond_true rfl ?_;refine GC.rr 3 ?_;refine GL.ld_ 0 ?_;refine GL.nr 1 ?_;refine GL.step rfl (t_unsafe (i := 0) rfl rfl rfl rfl Tryz.underlying277 Tryz.underlying281 (by kernel_rfl)) ?_;refine GL.step rfl (t_ext (P := Tryz.prog) (f := 202) rfl rfl (is := []) (js := []) rfl rfl (by exact release_x _)) (GL.ret ?_)
 rintro _ _ _ ⟨rfl,rfl,rfl⟩
 refine GL.nl_ ?_;refine GC.region ?_;refine GL.step rfl (t_ext (P := Tryz.prog) (f := 197) rfl rfl (is := []) (js := []) rfl rfl (by exact disable_x)) (GL.ret ?_)
 rintro _ _ _ ⟨rfl,rfl,rfl⟩
 refine GL.nil (?_ : GC _ _ _ _)
 refine GC.rr 3 ?_;refine GL.step rfl (t_ext (P := Tryz.prog) (f := 203) rfl rfl (is := [0]) (js := []) rfl rfl (by exact add32_x p d z P M a b)) (GL.ret ?_)
 rintro _ _ _ ⟨rfl,rfl,rfl⟩
 refine GL.rz 1 ?_;refine GC.seq' ?_;refine GC.rg 2 ?_;refine GC.cond_false rfl ?_
 refine GC.skip (?_ : GC _ _ _ _)
 refine GC.region ?_;refine GL.step rfl (t_ext (P := Tryz.prog) (f := 199) rfl rfl (is := []) (js := []) rfl rfl (by exact enable_x)) (GL.ret ?_)
 rintro _ _ _ ⟨rfl,rfl,rfl⟩
 refine GL.nil ?_
 refine fun a w h => Fin.back0 rfl (is := [0]) (js := []) rfl rfl ?_ h
 clear h
 exact ⟨rfl,rfl,rfl⟩
theorem b32_ct : Ct Tryz.prog 161 [.bool true] [] [] (fun v G Q => v = .int .u32 1 ∧ G = [] ∧ Q = []) := by
 refine Ct.intro Tryz.func161 rfl rfl rfl (fun c hc => ?_)
 refine GC.rg 1 ?_;refine GC.seq' ?_;refine GC.rg 1 ?_;refine GC.cond_true rfl ?_;refine GC.rg 1 ?_;refine GC.ret (Fin.b1 2 [] [] ?_)
 exact ⟨rfl,rfl,rfl⟩
end
end Go.Proofs.YtliacpkblicnhaaGreat
namespace Go.Proofs.YtliacpkblicnhaaGreat
open Go Go.Sx Go.Proofs
section
variable (p : Nat) (d s z : Int) (P M : Value) (a b : Int)
theorem storeD : CtD Tryz.prog 107 [.pointer (some ⟨p,0,none⟩),.bool true] [netB p d s z P M a b] [] (fun v G Q => v = .tuple #[] ∧ G = [netB p 1 s z P M a b] ∧ Q = []) := by
  refine CtD.intro Tryz.func107 rfl rfl rfl (fun c hc => ?_)
  refine GC.regionC (m := 6) (is := []) (js := []) wide_ rfl rfl rfl ?_
  refine GA.take 0 rfl (by kernel_rfl) (by kernel_rfl) (by kernel_rfl) rfl (fun a w h => h.mem (is := []) (js := []) rfl rfl) (i_pure (p_move rfl)) ?_
  refine GA.take 1 rfl (by kernel_rfl) (by kernel_rfl) (by kernel_rfl) rfl (fun a w h => h.mem (is := []) (js := []) rfl rfl) (i_pure (p_nilCheck rfl)) ?_
  refine GA.take 2 rfl (by kernel_rfl) (by kernel_rfl) (by kernel_rfl) rfl (fun a w h => h.mem (is := []) (js := []) rfl rfl) (i_pure (p_fieldAddr fo_29_1 rfl)) ?_
  refine GA.take 3 rfl (by kernel_rfl) (by kernel_rfl) (by kernel_rfl) rfl (fun a w h => h.mem (is := []) (js := []) rfl rfl) (i_pure (p_move rfl)) ?_
  refine GA.all (rs := [4]) (by kernel_rfl) (by simp) ?_
  refine GAs.cons (i := 4) rfl rfl (t_call rfl Tryz.call161 rfl (is := []) (js := []) rfl rfl (by exact b32_ct)) (by rintro a w ⟨_,_,_,⟨rfl,rfl,rfl⟩,h⟩; exact h.mem (is := []) (js := []) rfl rfl) (GA.ret ?_) ?_
  · rintro _ _ _ ⟨rfl,rfl,rfl⟩
    refine GA.all (rs := [5]) (by kernel_rfl) (by simp) ?_
    refine GAs.cons (i := 5) rfl rfl (t_ext (P := Tryz.prog) (f := 160) rfl rfl (is := [0]) (js := []) rfl rfl (by exact stu_x _ _ _ _ _ _ _ _ _)) (by rintro a w ⟨_,_,_,⟨rfl,rfl,rfl⟩,h⟩; exact h.mem (is := []) (js := []) rfl rfl) (GA.ret ?_) ?_
    · rintro _ _ _ ⟨rfl,rfl,rfl⟩
      refine GA.done (by kernel_rfl) ?_
      refine fun a w h => Fin.back0 rfl (is := [0]) (js := []) rfl rfl ?_ h
      clear h
      exact ⟨rfl,rfl,rfl⟩
    exact GAs.nil
  exact GAs.nil
theorem unlockD : CtD Tryz.prog 106 [.pointer (some ⟨p,1,none⟩)] [netB p d 1 z P M a b] [] (fun v G Q => v = .tuple #[] ∧ G = [netB p d 0 z P M a b] ∧ Q = []) := by
  refine CtD.intro Tryz.func106 rfl rfl rfl (fun c hc => ?_)
  refine GC.region ?_
  refine GL.pure rfl (p_move rfl) ?_
  refine GL.pure rfl (p_nilCheck rfl) ?_
  refine GL.pure rfl (p_fieldAddr fo_33_1 rfl) ?_
  refine GL.step rfl (t_call rfl Tryz.call159 rfl (is := [0]) (js := []) rfl rfl (by exact iunlock_ct _ _ _ _ _ _ _)) (GL.ret ?_)
  rintro _ _ _ ⟨rfl,rfl,rfl⟩
  refine GL.nil ?_
  refine fun a w h => Fin.back0 rfl (is := [0]) (js := []) rfl rfl ?_ h
  clear h
  exact ⟨rfl,rfl,rfl⟩
abbrev wbx (w p : Nat) : Own := .cells w [.pointer (some ⟨p,0,none⟩)] 87
theorem use1_ct (w : Nat) : Ct Tryz.prog 45 [.pointer (some ⟨w,0,none⟩)] [wbx w p,netB p d s z P M a b] [] (fun v G Q => ∃ m,v = .tuple #[] ∧ G = [.blk m (.map #[] 0),wbx w p,netB p d s z P (.map (some m)) a b] ∧ Q = []) := by
 refine Ct.intro Tryz.func45 rfl rfl rfl (fun c hc => ?_)
 refine GC.region ?_;refine GL.ld_ 0 ?_;refine GL.step rfl (t_makeMap rfl) (GL.ex fun m_t2 => ?_);refine GL.rn 2 ?_;refine GL.so_ 2 ?_;refine GL.nil ?_
 refine fun a w h => Fin.back0 rfl (is := [0,0,0]) (js := []) rfl rfl ?_ h
 clear h
 exact ⟨_,rfl,rfl,rfl⟩
theorem slow_ct (w : Nat) : Ct Tryz.prog 71 [.pointer (some ⟨p,0,none⟩),.func (.func 45) #[] #[.pointer (some ⟨w,0,none⟩)]] [wbx w p,netB p 0 0 z P M a b] [] (fun v G Q => ∃ m,v = .tuple #[] ∧ G = [.blk m (.map #[] 0),wbx w p,netB p 1 0 z P (.map (some m)) a b] ∧ Q = []) := by
 refine Ct.introD Tryz.func71 rfl rfl rfl (fun c hc hcD => ?_)
 refine GC.rr 3 ?_;refine GL.cl Tryz.call105 [1] [] rfl rfl rfl (by exact lock_ct _ _ _ _ _ _ _) ?_
 rintro _ _ _ ⟨rfl,rfl,rfl⟩
 refine GL.nr 3 ?_;refine GL.deferN (f := 106) (us := [_]) rfl ?_;refine GL.nr 3 ?_;refine GL.cl Tryz.call70 [0] [] rfl rfl rfl (by exact bld0_ct _ _ _ _ _ _ _) ?_
 rintro _ _ _ ⟨rfl,rfl,rfl⟩
 refine GL.rz 1 ?_;refine GC.cond_true rfl ?_;refine GC.rr 3 ?_;refine GL.deferN (f := 107) (us := [_,_]) rfl ?_;refine GL.nl_ ?_;refine GC.region ?_;refine GL.rn 1 ?_;refine GL.step rfl (t_callv rfl Tryz.call45 rfl rfl (is := [1,0]) (js := []) rfl rfl (by exact use1_ct _ _ _ _ _ _ _ _ _)) (GL.ret ?_)
 rintro _ _ _ ⟨m20,rfl,rfl,rfl⟩
 refine GL.nil ?_
 refine fun a w h => ?_
 refine (FinD.pop Tryz.call107 (D := dcall 106 [.pointer (some ⟨p,1,none⟩)] :: c.D) rfl (storeD p 0 1 z P _ _ _) (is := [2]) (js := []) rfl rfl (fun u G2 Q2 a w hR h => ?_) h : FinD _ _ _ _ .ret a w)
 obtain ⟨rfl,rfl,rfl⟩ := hR
 refine FinD.pop Tryz.call106 (D := c.D) rfl (unlockD p 1 z P _ _ _) (is := [0]) (js := []) rfl rfl (fun u G2 Q2 a w hR h => ?_) h
 obtain ⟨rfl,rfl,rfl⟩ := hR
 exact FinD.back (c := ⟨c.w0,c.S0,c.L0,c.D⟩) hcD (rs := []) (vs := []) (is := [1,1,0]) (js := []) rfl trivial rfl rfl ⟨_,rfl,rfl,rfl⟩ h
theorem do0_ct (w : Nat) : Ct Tryz.prog 44 [.pointer (some ⟨p,0,none⟩),.func (.func 45) #[] #[.pointer (some ⟨w,0,none⟩)]] [wbx w p,netB p 0 0 z P M a b] [] (fun v G Q => ∃ m,v = .tuple #[] ∧ G = [.blk m (.map #[] 0),wbx w p,netB p 1 0 z P (.map (some m)) a b] ∧ Q = []) := by
 refine Ct.intro Tryz.func44 rfl rfl rfl (fun c hc => ?_)
 refine GC.rr 3 ?_;refine GL.cl Tryz.call70 [1] [] rfl rfl rfl (by exact bld0_ct _ _ _ _ _ _ _) ?_
 rintro _ _ _ ⟨rfl,rfl,rfl⟩
 refine GL.rz 1 ?_;refine GC.cond_true rfl ?_;refine GC.region ?_;refine GL.rn 2 ?_;refine GL.cl Tryz.call71 [1,0] [] rfl rfl rfl (by exact slow_ct _ _ _ _ _ _ _) ?_
 rintro _ _ _ ⟨m11,rfl,rfl,rfl⟩
 refine GL.nil ?_
 refine fun a w h => Fin.back0 rfl (is := [0,0,0]) (js := []) rfl rfl ?_ h
 clear h
 exact ⟨_,rfl,rfl,rfl⟩
theorem do1_ct (w : Nat) : Ct Tryz.prog 44 [.pointer (some ⟨p,0,none⟩),.func (.func 45) #[] #[.pointer (some ⟨w,0,none⟩)]] [wbx w p,netB p 1 s z P M a b] [] (fun v G Q => v = .tuple #[] ∧ G = [wbx w p,netB p 1 s z P M a b] ∧ Q = []) := by
 refine Ct.intro Tryz.func44 rfl rfl rfl (fun c hc => ?_)
 refine GC.rr 3 ?_;refine GL.cl Tryz.call70 [1] [] rfl rfl rfl (by exact bld1_ct _ _ _ _ _ _ _) ?_
 rintro _ _ _ ⟨rfl,rfl,rfl⟩
 refine GL.rz 1 ?_;refine GC.cond_false rfl ?_;refine GC.skip ?_
 refine fun a w h => Fin.back0 rfl (is := [1,0]) (js := []) rfl rfl ?_ h
 clear h
 exact ⟨rfl,rfl,rfl⟩
theorem use0_ct : Ct Tryz.prog 22 [.pointer (some ⟨p,0,none⟩)] [netB p 0 0 z P M a b] [] (fun v G Q => ∃ m,v = .pointer (some ⟨p,0,none⟩) ∧ G = [netB p 1 0 z P (.map (some m)) a b,.blk m (.map #[] 0)] ∧ Q = []) := by
 refine Ct.intro Tryz.func22 rfl rfl rfl (fun c hc => ?_)
 refine GC.sr_ ?_;refine GL.step rfl (t_box rfl rfl rfl) (GL.ex fun b_t1 => ?_);refine GL.rz 1 ?_;refine GC.sr_ ?_;refine GL.ld_ 0 ?_;refine GL.rn 2 ?_;refine GL.pure rfl (p_makeFunc rfl rfl) ?_;refine GL.cl Tryz.call44 [0,0] [] rfl rfl rfl (by exact do0_ct _ _ _ _ _ _ _) ?_
 rintro _ _ _ ⟨m7,rfl,rfl,rfl⟩
 refine GL.nl_ ?_;refine GC.sr_ ?_;refine GL.ld_ 1 ?_;refine GL.rz 1 ?_;refine GC.ret (Fin.b1 2 [2,0] [] ?_)
 exact ⟨_,rfl,rfl,rfl⟩
theorem use1r_ct : Ct Tryz.prog 22 [.pointer (some ⟨p,0,none⟩)] [netB p 1 s z P M a b] [] (fun v G Q => v = .pointer (some ⟨p,0,none⟩) ∧ G = [netB p 1 s z P M a b] ∧ Q = []) := by
 refine Ct.intro Tryz.func22 rfl rfl rfl (fun c hc => ?_)
 refine GC.sr_ ?_;refine GL.step rfl (t_box rfl rfl rfl) (GL.ex fun b_t1 => ?_);refine GL.rz 1 ?_;refine GC.sr_ ?_;refine GL.ld_ 0 ?_;refine GL.rn 2 ?_;refine GL.pure rfl (p_makeFunc rfl rfl) ?_;refine GL.cl Tryz.call44 [0,0] [] rfl rfl rfl (by exact do1_ct _ _ _ _ _ _ _ _) ?_
 rintro _ _ _ ⟨rfl,rfl,rfl⟩
 refine GL.nl_ ?_;refine GC.sr_ ?_;refine GL.ld_ 0 ?_;refine GL.rz 1 ?_;refine GC.ret (Fin.b1 2 [1] [] ?_)
 exact ⟨rfl,rfl,rfl⟩
end
end Go.Proofs.YtliacpkblicnhaaGreat
namespace Go.Sx
open Go
section
variable {P : Program} {c : Cx} {n : Nat} {env : List (Nat × Value)} {G G' : List Own} {Q : List Pers} {d : Nat} {ty : TypeId} {pos : String} {aft : Array Edge} {g : Option (Nat × Bool)} {x y : Operand} {t : TypeId}
theorem t_appendIn {i b o o2 n0 m cp cp2 sz : Nat} {ad : Addr} {l l' news : List Value} {e e' : TypeId} (hd : Nat.blt d n = true) (ht : P.underlying t = some (.slice e)) (hs : sizeB P e = some sz) (hi : nthO G i = some (.cells b l e')) (hx : ev env x = some (.slice (some ⟨b,o,none⟩) n0 cp)) (hy : ev env y = some (.slice (some ad) m cp2))
    (hat : m = 0 ∨ ad = ⟨b,o2,none⟩ ∧ o2 + m * sz ≤ l.length) (hnews : news = (l.drop o2).take (m * sz)) (h1 : ∀ u ∈ news,u.oneCell' = true) (hcp : n0 + m ≤ cp) (hfit : o + n0 * sz + m * sz ≤ l.length) (hl' : laid l (o + n0 * sz) news = l') (hr : repl G i (.cells b l' e') = some G') :
    Tr P ⟨some d,.call { callee := .builtin .append,args := #[x,y],argTypes := #[t,t] },ty,pos,aft,g⟩ (St c n env G Q) (St c n ((d,.slice (some ⟨b,o,none⟩) (n0 + m) cp) :: env) G' Q) := by
  intro a w hst K R hk
  have he := hst.en
  have hb : w.heap[b]? = some (.cells l.toArray e' (0,0)) := hst.own hi
  have hlen : m = 0 ∨ news.length = m * sz := by
    rcases hat with h | ⟨_,h⟩
    · exact .inl h
    · right; rw [hnews,List.length_take,List.length_drop]; omega
  have hload : (loadCells ad (m * sz)).run P w = .ok news.toArray w := by
    rcases hat with h | ⟨rfl,h⟩
    · subst h
      have : news = [] := by rw [hnews]; simp
      subst this
      have := run_loadCells_list (P := P) w ad [] (CellsAt.nil w ad)
      simpa using this
    · have hn : news.length = m * sz := by rw [hnews,List.length_take,List.length_drop]; omega
      rw [← hn]
      exact run_loadCells_list w _ news (cellsAt_blk hb fun j u hj => by
        rw [hnews,List.getElem?_take] at hj
        split at hj
        · rw [List.getElem?_drop] at hj; exact hj
        · cases hj)
  have hnl : news.length ≤ m * sz := by rw [hnews,List.length_take]; omega
  have hstore := run_storeCells_at (P := P) b (o + n0 * sz) e' news 0 l.toArray w hb (by rw [List.size_toArray]; omega) h1
  rw [Nat.add_zero] at hstore
  have hrun0 : (Builtin.append_ #[t,t] ty #[.slice (some ⟨b,o,none⟩) n0 cp,.slice (some ad) m cp2]).run P w = .ok (.slice (some ⟨b,o,none⟩) (n0 + m) cp) (w.setRow b l'.toArray) := by
    simp [Builtin.append_,run_underlying ht,run_sizeB hs,Builtin.lenOf,Builtin.firstCells,hcp,hload,add_lit,hstore,← hl',laid,Result.andThen]
  have hop : (execOp a.eval ⟨some d,.call { callee := .builtin .append,args := #[x,y],argTypes := #[t,t] },ty,pos,aft,g⟩).run P w = .ok (.value (.slice (some ⟨b,o,none⟩) (n0 + m) cp)) (w.setRow b l'.toArray) := by
    simp only [execOp,resolve,invoke,builtin,Sem.run_bind,Sem.run_pure,Result.andThen_ok,List.map_toArray,List.map_cons,List.map_nil,he.eval hx,he.eval hy,hrun0]
  unfold Oper.wp
  rw [hop]
  exact hk _ _ (hst.write hi hr (Fr.setRow w b _) (setRow_heap w b _ _ _ _ hb) (fun k hk => .inl hk) (by simp [Own.keys]) (he.put hd _))
end
end Go.Sx
namespace Go.Proofs.YtliacpkblicnhaaGreat
open Go Go.Sx Go.Proofs
theorem run_eqLink (w : World) (a b c d : Int) : (Op.equalIn 10000 112 (.agg #[.int .i64 a,.int .i64 b]) (.agg #[.int .i64 c,.int .i64 d])).run Tryz.prog w = .ok (decide (a = c) && decide (b = d)) w := by
  have h1 : Tryz.prog.fieldsOf 112 = (match Tryz.prog.underlying 112 with | some (.struct fs) => fs | _ => #[]) := rfl
  rw [run_equalIn_agg w 9999 _ _ _ (by rw [h1,Tryz.underlying112]) (by kernel_rfl),h1,Tryz.underlying112]
  have p1 : ∀ (l : List Value) (v : Value) (o : Nat) (w : World),nth l o = some v → (part 3 l.toArray o).run Tryz.prog w = .ok v w := fun l v o w h => part_one ag_3 h w
  have e0 : ∀ w,(part 3 #[.int .i64 a,.int .i64 b] 0).run Tryz.prog w = .ok (.int .i64 a) w := fun w => p1 [_,_] _ 0 w rfl
  have e1 : ∀ w,(part 3 #[.int .i64 a,.int .i64 b] 1).run Tryz.prog w = .ok (.int .i64 b) w := fun w => p1 [_,_] _ 1 w rfl
  have e2 : ∀ w,(part 3 #[.int .i64 c,.int .i64 d] 0).run Tryz.prog w = .ok (.int .i64 c) w := fun w => p1 [_,_] _ 0 w rfl
  have e3 : ∀ w,(part 3 #[.int .i64 c,.int .i64 d] 1).run Tryz.prog w = .ok (.int .i64 d) w := fun w => p1 [_,_] _ 1 w rfl
  have q : ∀ (x y : Int) (w : World),(Op.equalIn 9999 3 (.int .i64 x) (.int .i64 y)).run Tryz.prog w = .ok (x == y) w := fun x y w => run_equalIn_int w 9998 _ _ _ _ _ Tryz.underlying3
  simp only [Op.eqFields,Sem.run_bind,Sem.run_ite,e0,e1,e2,e3,q,Result.andThen_ok]
  by_cases h : a = c <;> by_cases h' : b = d <;> subst_vars <;> simp [Sem.run_ite,e0,e1,e2,e3,q,Result.andThen, *]
theorem run_checkLink (em : Bool) (w : World) (a b : Int) : (Instr.checkKey em 10000 112 (.agg #[.int .i64 a,.int .i64 b])).run Tryz.prog w = .ok () w := by
  have p1 : ∀ (l : List Value) (v : Value) (o : Nat) (w : World),nth l o = some v → (part 3 l.toArray o).run Tryz.prog w = .ok v w := fun l v o w h => part_one ag_3 h w
  have e0 : ∀ w,(part 3 #[.int .i64 a,.int .i64 b] 0).run Tryz.prog w = .ok (.int .i64 a) w := fun w => p1 [_,_] _ 0 w rfl
  have e1 : ∀ w,(part 3 #[.int .i64 a,.int .i64 b] 1).run Tryz.prog w = .ok (.int .i64 b) w := fun w => p1 [_,_] _ 1 w rfl
  have q : ∀ (n : Nat) (x : Int) (w : World),(Instr.checkKey em (n + 1) 3 (.int .i64 x)).run Tryz.prog w = .ok () w := fun n x w => by
    simp only [Instr.checkKey,Sem.run_bind,run_underlying Tryz.underlying3,Result.andThen_ok]
    rfl
  have key : ∀ n,(Instr.checkKey em (n + 2) 112 (.agg #[.int .i64 a,.int .i64 b])).run Tryz.prog w = .ok () w := fun n => by
    simp only [Instr.checkKey,Sem.run_bind,run_underlying Tryz.underlying112,Result.andThen_ok]
    simp [e0,e1,q,Result.andThen]
  exact key 9998
theorem lkKey : LinkKey Tryz.prog 112 where
  wide := by rw [Tryz.underlying112]
  check := fun em p w => run_checkLink em w p.1 p.2
  eq := fun p q w => by
    have := run_eqLink w p.1 p.2 q.1 q.2
    refine this.trans ?_
    congr 1
    rw [Bool.eq_iff_iff]
    simp [Prod.ext_iff]
theorem lk0 : LkR [] (#[] : Array MapEntry).toList := trivial
end Go.Proofs.YtliacpkblicnhaaGreat
namespace Go.Proofs.YtliacpkblicnhaaGreat
open Go Go.Sx Go.Proofs
section
variable (p : Nat) (z : Int) (P : Value) (a b : Int)
theorem node_ct (i : Int) : Ct Tryz.prog 32 [.int .i64 i] [] [] (fun v G Q => v = .bool (decide (0 ≤ i) && decide (i < 64)) ∧ G = [] ∧ Q = []) := by
 refine Ct.intro Tryz.func32 rfl rfl rfl (fun c hc => ?_)
 refine GC.rg 1 ?_;refine GC.rr 3 ?_;refine GL.sp 5 ?_ ?_
 ·intro h1; try simp only [tst_] at h1
  refine GL.rz 4 ?_;refine GC.ret (Fin.b1 2 [] [] ?_)
  refine ⟨congrArg Value.bool ?_,rfl,rfl⟩
  first | (simp_all; done) | (simp; omega)
 intro h1; try simp only [tst_] at h1
 refine GL.rz 4 ?_;refine GC.ret (Fin.b1 2 [] [] ?_)
 refine ⟨congrArg Value.bool ?_,rfl,rfl⟩
 first | (simp_all; done) | (simp; omega)
theorem is0_ct (i j : Int) : Ct Tryz.prog 20 [.pointer (some ⟨p,0,none⟩),.int .i64 i,.int .i64 j] [netB p 0 0 z P (.map none) a b] [] (fun v G Q => ∃ m,v = .bool false ∧ G = [netB p 1 0 z P (.map (some m)) a b,.blk m (.map #[] 0)] ∧ Q = []) := by
 refine Ct.intro Tryz.func20 rfl rfl rfl (fun c hc => ?_)
 refine GC.rg 1 ?_;refine GC.seq' ?_;refine GC.rr 1 ?_;refine GL.pure rfl (p_pnil_eql Tryz.underlying87 rfl rfl) ?_;refine GL.nl_ ?_;refine GC.cond_false rfl ?_
 refine GC.skip (?_ : GC _ _ _ _)
 refine GC.rr 1 ?_;refine GL.cl Tryz.call22 [0] [] rfl rfl rfl (by exact use0_ct _ _ _ _ _ _) ?_
 rintro _ _ _ ⟨m13,rfl,rfl,rfl⟩
 refine GL.rn 2 ?_;refine GL.ld_ 0 ?_;refine GL.rn 2 ?_;refine GL.pure rfl (p_build ze_112 of_112 rfl rfl) ?_;refine GL.step rfl (t_lookupL (i := 1) (p := (_,_)) lkKey rfl rfl lk0 rfl rfl Tryz.underlying37 (by kernel_rfl)) ?_
 refine GL.rn 3 ?_;refine GL.step rfl (t_alloc rfl ze_24) (GL.ex fun b_t7 => ?_);refine GL.sn_ 0 ?_;refine GL.rz 1 ?_;refine GC.rg 2 ?_;refine GC.ret (Fin.b1 6 [1,1] [] ?_)
 exact ⟨_,by first | rfl | simp,rfl,rfl⟩
theorem is1_ct (s : Int) (m : Nat) (es : Array MapEntry) (ck : Nat) (T : List (Int × Int)) (i j : Int) (hT : LkR T es.toList) : Ct Tryz.prog 20 [.pointer (some ⟨p,0,none⟩),.int .i64 i,.int .i64 j] [netB p 1 s z P (.map (some m)) a b,.blk m (.map es ck)] [] (fun v G Q => v = .bool (decide ((i,j) ∈ T)) ∧ G = [netB p 1 s z P (.map (some m)) a b,.blk m (.map es ck)] ∧ Q = []) := by
 refine Ct.intro Tryz.func20 rfl rfl rfl (fun c hc => ?_)
 refine GC.rg 1 ?_;refine GC.seq' ?_;refine GC.rr 1 ?_;refine GL.pure rfl (p_pnil_eql Tryz.underlying87 rfl rfl) ?_;refine GL.nl_ ?_;refine GC.cond_false rfl ?_
 refine GC.skip (?_ : GC _ _ _ _)
 refine GC.rr 1 ?_;refine GL.cl Tryz.call22 [0] [] rfl rfl rfl (by exact use1r_ct _ _ _ _ _ _ _) ?_
 rintro _ _ _ ⟨rfl,rfl,rfl⟩
 refine GL.rn 2 ?_;refine GL.ld_ 0 ?_;refine GL.rn 2 ?_;refine GL.pure rfl (p_build ze_112 of_112 rfl rfl) ?_;refine GL.step rfl (t_lookupL (i := 1) (p := (_,_)) lkKey rfl rfl hT rfl rfl Tryz.underlying37 (by kernel_rfl)) ?_
 refine GL.rn 3 ?_;refine GL.step rfl (t_alloc rfl ze_24) (GL.ex fun b_t7 => ?_);refine GL.sn_ 0 ?_;refine GL.rz 1 ?_;refine GC.rg 2 ?_;refine GC.ret (Fin.b1 6 [1,1] [] ?_)
 exact ⟨rfl,rfl,rfl⟩
end
end Go.Proofs.YtliacpkblicnhaaGreat
namespace Go.Proofs.YtliacpkblicnhaaGreat
open Go Go.Sx Go.Proofs
section
variable (p : Nat) (z : Int) (P : Value) (a b : Int)
theorem node_ok (i : Int) (h : 0 ≤ i ∧ i < 64) : Ct Tryz.prog 32 [.int .i64 i] [] [] (fun v G Q => v = .bool true ∧ G = [] ∧ Q = []) :=
  Ct.mono (node_ct i) fun u G Q hh => ⟨hh.1.trans (by simp; omega),hh.2⟩
theorem cut0_ct (i j : Int) (on : Bool) (hi : 0 ≤ i ∧ i < 64) (hj : 0 ≤ j ∧ j < 64) : Ct Tryz.prog 14 [.pointer (some ⟨p,0,none⟩),.int .i64 i,.int .i64 j,.bool on] [netB p 0 0 z P (.map none) a b] [] (fun v G Q => ∃ m es ck,LkR (if on then [(i,j)] else []) es.toList ∧ v = .int .i64 0 ∧ G = [netB p 1 0 z P (.map (some m)) a b,.blk m (.map es ck)] ∧ Q = []) := by
 refine Ct.intro Tryz.func14 rfl rfl rfl (fun c hc => ?_)
 refine GC.rg 1 ?_;refine GC.seq' ?_;refine GC.rr 1 ?_;refine GL.pure rfl (p_pnil_eql Tryz.underlying87 rfl rfl) ?_;refine GL.nl_ ?_;refine GC.cond_false rfl ?_
 refine GC.skip (?_ : GC _ _ _ _)
 refine GC.seq' ?_;refine GC.rr 1 ?_;refine GL.cl Tryz.call32 [] [] rfl rfl rfl (by exact node_ok i hi) ?_
 rintro _ _ _ ⟨rfl,rfl,rfl⟩
 refine GL.rn 3 ?_;refine GL.stepG rfl (s := 14) rfl rfl (t_call rfl Tryz.call32 rfl (is := []) (js := []) rfl rfl (by exact node_ok j hj)) (GL.ret ?_)
 rintro _ _ _ ⟨rfl,rfl,rfl⟩
 refine GL.rz 2 ?_;refine GC.cond_false rfl ?_
 refine GC.skip (?_ : GC _ _ _ _)
 refine GC.seq' ?_;refine GC.rg 1 ?_;refine GC.co ?_ ?_
 ·intro h1; try simp only [tst_] at h1
  refine GC.region ?_;refine GL.rn 1 ?_;refine GL.cl Tryz.call22 [0] [] rfl rfl rfl (by exact use0_ct _ _ _ _ _ _) ?_
  rintro _ _ _ ⟨m21,rfl,rfl,rfl⟩
  refine GL.rn 2 ?_;refine GL.ld_ 0 ?_;refine GL.rn 2 ?_;refine GL.pure rfl (p_build ze_112 of_112 rfl rfl) ?_;refine GL.pure rfl (p_build ze_24 of_24 rfl rfl) ?_;refine GL.step rfl (t_updateL (i := 1) (p := (_,_)) lkKey rfl lk0 rfl rfl rfl Tryz.underlying37 (fun _ _ => rfl)) (GL.ex fun es_mu6 => GL.ex fun ck_mu6 => GL.and fun hT_mu6 => ?_)
  refine GL.nil (?_ : GC _ _ _ _)
  refine GC.rg 1 ?_;refine GC.ret (Fin.b1 8 [0,0] [] ?_)
  exact ⟨_,_,_,by subst on; first | exact hT_mu6 | simpa [*] using hT_mu6,rfl,rfl,rfl⟩
 intro h1; try simp only [tst_] at h1
 refine GC.region ?_;refine GL.rn 1 ?_;refine GL.cl Tryz.call22 [0] [] rfl rfl rfl (by exact use0_ct _ _ _ _ _ _) ?_
 rintro _ _ _ ⟨m30,rfl,rfl,rfl⟩
 refine GL.rn 2 ?_;refine GL.ld_ 0 ?_;refine GL.rn 2 ?_;refine GL.pure rfl (p_build ze_112 of_112 rfl rfl) ?_;refine GL.step rfl (t_deleteL (i := 1) (p := (_,_)) lkKey rfl lk0 rfl rfl Tryz.underlying37 (fun _ _ => rfl)) (GL.ex fun es_md7 => GL.ex fun ck_md7 => GL.and fun hT_md7 => ?_)
 refine GL.nil (?_ : GC _ _ _ _)
 refine GC.rg 1 ?_;refine GC.ret (Fin.b1 8 [0,0] [] ?_)
 exact ⟨_,_,_,by simpa [*] using hT_md7,rfl,rfl,rfl⟩
theorem counts_ct (d s : Int) (M : Value) : Ct Tryz.prog 16 [.pointer (some ⟨p,0,none⟩)] [netB p d s z P M a b] [] (fun v G Q => v = .tuple #[.int .i64 a,.int .i64 b] ∧ G = [netB p d s z P M a b] ∧ Q = []) := by
 refine Ct.intro Tryz.func16 rfl rfl rfl (fun c hc => ?_)
 refine GC.rg 2 ?_;refine GC.seq' ?_;refine GC.rr 1 ?_;refine GL.pure rfl (p_pnil_eql Tryz.underlying87 rfl rfl) ?_;refine GL.nl_ ?_;refine GC.cond_false rfl ?_
 refine GC.skip (?_ : GC _ _ _ _)
 refine GC.seq' ?_;refine GC.regionQ wide_ (by kernel_rfl) ?_;refine GQ.rn 3 ?_;refine GQ.step rfl (q_callO Tryz.call33 rfl (is := [0]) (js := []) rfl rfl (by exact ldS_ct _ _ _ _ _ _ _ _)) ?_;refine GQ.rn 3 ?_;refine GQ.step rfl (q_callO Tryz.call33 rfl (is := [0]) (js := []) rfl rfl (by exact ldL_ct _ _ _ _ _ _ _ _)) ?_
 refine GQ.rn 2 ?_
 refine GQ.nil (?_ : GC _ _ _ _)
 refine GC.ret (Fin.b2 2 3 [0] [] ?_)
 exact ⟨rfl,rfl,rfl⟩
theorem len_ct (d s : Int) (M : Value) (A : Option Addr) (k cp : Nat) : Ct Tryz.prog 15 [.pointer (some ⟨p,0,none⟩)] [netB p d s z (.slice A k cp) M a b] [] (fun v G Q => v = .int .i64 k ∧ G = [netB p d s z (.slice A k cp) M a b] ∧ Q = []) := by
 refine Ct.intro Tryz.func15 rfl rfl rfl (fun c hc => ?_)
 refine GC.rg 1 ?_;refine GC.seq' ?_;refine GC.rr 1 ?_;refine GL.pure rfl (p_pnil_eql Tryz.underlying87 rfl rfl) ?_;refine GL.nl_ ?_;refine GC.cond_false rfl ?_
 refine GC.skip (?_ : GC _ _ _ _)
 refine GC.rr 3 ?_;refine GL.ld_ 0 ?_;refine GL.rz 2 ?_;refine GC.ret (Fin.b1 2 [0] [] ?_)
 exact ⟨rfl,rfl,rfl⟩
end
end Go.Proofs.YtliacpkblicnhaaGreat
namespace Go.Proofs.YtliacpkblicnhaaGreat
open Go Go.Sx Go.Proofs
section
variable (p : Nat) (z : Int) (P : Value) (a b : Int)
theorem node_no (i : Int) (h : ¬ (0 ≤ i ∧ i < 64)) : Ct Tryz.prog 32 [.int .i64 i] [] [] (fun v G Q => v = .bool false ∧ G = [] ∧ Q = []) :=
  Ct.mono (node_ct i) fun u G Q hh => ⟨hh.1.trans (by simp; omega),hh.2⟩
theorem cut1_ct (s : Int) (m : Nat) (es : Array MapEntry) (ck : Nat) (T : List (Int × Int)) (i j : Int) (on : Bool) (hT : LkR T es.toList) (hi : 0 ≤ i ∧ i < 64) (hj : 0 ≤ j ∧ j < 64) : Ct Tryz.prog 14 [.pointer (some ⟨p,0,none⟩),.int .i64 i,.int .i64 j,.bool on] [netB p 1 s z P (.map (some m)) a b,.blk m (.map es ck)] [] (fun v G Q => ∃ es ck,LkR (if on then lkPut T (i,j) else T.erase (i,j)) es.toList ∧ v = .int .i64 0 ∧ G = [netB p 1 s z P (.map (some m)) a b,.blk m (.map es ck)] ∧ Q = []) := by
 refine Ct.intro Tryz.func14 rfl rfl rfl (fun c hc => ?_)
 refine GC.rg 1 ?_;refine GC.seq' ?_;refine GC.rr 1 ?_;refine GL.pure rfl (p_pnil_eql Tryz.underlying87 rfl rfl) ?_;refine GL.nl_ ?_;refine GC.cond_false rfl ?_
 refine GC.skip (?_ : GC _ _ _ _)
 refine GC.seq' ?_;refine GC.rr 1 ?_;refine GL.cl Tryz.call32 [] [] rfl rfl rfl (by exact node_ok i hi) ?_
 rintro _ _ _ ⟨rfl,rfl,rfl⟩
 refine GL.rn 3 ?_;refine GL.stepG rfl (s := 14) rfl rfl (t_call rfl Tryz.call32 rfl (is := []) (js := []) rfl rfl (by exact node_ok j hj)) (GL.ret ?_)
 rintro _ _ _ ⟨rfl,rfl,rfl⟩
 refine GL.rz 2 ?_;refine GC.cond_false rfl ?_
 refine GC.skip (?_ : GC _ _ _ _)
 refine GC.seq' ?_;refine GC.rg 1 ?_;refine GC.co ?_ ?_
 ·intro h1; try simp only [tst_] at h1
  refine GC.region ?_;refine GL.rn 1 ?_;refine GL.cl Tryz.call22 [0] [] rfl rfl rfl (by exact use1r_ct _ _ _ _ _ _ _) ?_
  rintro _ _ _ ⟨rfl,rfl,rfl⟩
  refine GL.rn 2 ?_;refine GL.ld_ 0 ?_;refine GL.rn 2 ?_;refine GL.pure rfl (p_build ze_112 of_112 rfl rfl) ?_;refine GL.pure rfl (p_build ze_24 of_24 rfl rfl) ?_;refine GL.step rfl (t_updateL (i := 1) (p := (_,_)) lkKey rfl hT rfl rfl rfl Tryz.underlying37 (fun _ _ => rfl)) (GL.ex fun es_mu6 => GL.ex fun ck_mu6 => GL.and fun hT_mu6 => ?_)
  refine GL.nil (?_ : GC _ _ _ _)
  refine GC.rg 1 ?_;refine GC.ret (Fin.b1 8 [0,0] [] ?_)
  exact ⟨_,_,by subst on; first | exact hT_mu6 | simpa [*] using hT_mu6,rfl,rfl,rfl⟩
 intro h1; try simp only [tst_] at h1
 refine GC.region ?_;refine GL.rn 1 ?_;refine GL.cl Tryz.call22 [0] [] rfl rfl rfl (by exact use1r_ct _ _ _ _ _ _ _) ?_
 rintro _ _ _ ⟨rfl,rfl,rfl⟩
 refine GL.rn 2 ?_;refine GL.ld_ 0 ?_;refine GL.rn 2 ?_;refine GL.pure rfl (p_build ze_112 of_112 rfl rfl) ?_;refine GL.step rfl (t_deleteL (i := 1) (p := (_,_)) lkKey rfl hT rfl rfl Tryz.underlying37 (fun _ _ => rfl)) (GL.ex fun es_md7 => GL.ex fun ck_md7 => GL.and fun hT_md7 => ?_)
 refine GL.nil (?_ : GC _ _ _ _)
 refine GC.rg 1 ?_;refine GC.ret (Fin.b1 8 [0,0] [] ?_)
 exact ⟨_,_,by first | (subst on; exact hT_md7) | simp [*],rfl,rfl,rfl⟩
theorem cutxi_ct (d s : Int) (M : Value) (i j : Int) (on : Bool) (hi : ¬ (0 ≤ i ∧ i < 64)) : Ct Tryz.prog 14 [.pointer (some ⟨p,0,none⟩),.int .i64 i,.int .i64 j,.bool on] [netB p d s z P M a b] [] (fun v G Q => v = .int .i64 1 ∧ G = [netB p d s z P M a b] ∧ Q = []) := by
 refine Ct.intro Tryz.func14 rfl rfl rfl (fun c hc => ?_)
 refine GC.rg 1 ?_;refine GC.seq' ?_;refine GC.rr 1 ?_;refine GL.pure rfl (p_pnil_eql Tryz.underlying87 rfl rfl) ?_;refine GL.nl_ ?_;refine GC.cond_false rfl ?_
 refine GC.skip (?_ : GC _ _ _ _)
 refine GC.seq' ?_;refine GC.rr 1 ?_;refine GL.cl Tryz.call32 [] [] rfl rfl rfl (by exact node_no i hi) ?_
 rintro _ _ _ ⟨rfl,rfl,rfl⟩
 refine GL.rz 6 ?_;refine GC.cond_true rfl ?_;refine GC.rg 1 ?_;refine GC.ret (Fin.b1 8 [0] [] ?_)
 exact ⟨rfl,rfl,rfl⟩
theorem cutxj_ct (d s : Int) (M : Value) (i j : Int) (on : Bool) (hi : 0 ≤ i ∧ i < 64) (hj : ¬ (0 ≤ j ∧ j < 64)) : Ct Tryz.prog 14 [.pointer (some ⟨p,0,none⟩),.int .i64 i,.int .i64 j,.bool on] [netB p d s z P M a b] [] (fun v G Q => v = .int .i64 1 ∧ G = [netB p d s z P M a b] ∧ Q = []) := by
 refine Ct.intro Tryz.func14 rfl rfl rfl (fun c hc => ?_)
 refine GC.rg 1 ?_;refine GC.seq' ?_;refine GC.rr 1 ?_;refine GL.pure rfl (p_pnil_eql Tryz.underlying87 rfl rfl) ?_;refine GL.nl_ ?_;refine GC.cond_false rfl ?_
 refine GC.skip (?_ : GC _ _ _ _)
 refine GC.seq' ?_;refine GC.rr 1 ?_;refine GL.cl Tryz.call32 [] [] rfl rfl rfl (by exact node_ok i hi) ?_
 rintro _ _ _ ⟨rfl,rfl,rfl⟩
 refine GL.rn 3 ?_;refine GL.stepG rfl (s := 14) rfl rfl (t_call rfl Tryz.call32 rfl (is := []) (js := []) rfl rfl (by exact node_no j hj)) (GL.ret ?_)
 rintro _ _ _ ⟨rfl,rfl,rfl⟩
 refine GL.rz 2 ?_;refine GC.cond_true rfl ?_;refine GC.rg 1 ?_;refine GC.ret (Fin.b1 8 [0] [] ?_)
 exact ⟨rfl,rfl,rfl⟩
theorem cutx_ct (d s : Int) (M : Value) (i j : Int) (on : Bool) (h : ¬ ((0 ≤ i ∧ i < 64) ∧ 0 ≤ j ∧ j < 64)) : Ct Tryz.prog 14 [.pointer (some ⟨p,0,none⟩),.int .i64 i,.int .i64 j,.bool on] [netB p d s z P M a b] [] (fun v G Q => v = .int .i64 1 ∧ G = [netB p d s z P M a b] ∧ Q = []) := by
  by_cases hi : 0 ≤ i ∧ i < 64
  · exact cutxj_ct p z P a b d s M i j on hi fun hj => h ⟨hi,hj⟩
  · exact cutxi_ct p z P a b d s M i j on hi
theorem atin_ct (d s : Int) (M : Value) (A : Option Addr) (k cp : Nat) (i : Int) (h0 : 0 ≤ i) (h1 : i < (k : Int)) : Ct Tryz.prog 30 [.pointer (some ⟨p,0,none⟩),.int .i64 i] [netB p d s z (.slice A k cp) M a b] [] (fun v G Q => v = .int .i64 0 ∧ G = [netB p d s z (.slice A k cp) M a b] ∧ Q = []) := by
 refine Ct.intro Tryz.func30 rfl rfl rfl (fun c hc => ?_)
 refine GC.rg 1 ?_;refine GC.seq' ?_;refine GC.block ?_;refine GC.rr 1 ?_;refine GL.pure rfl (p_pnil_eql Tryz.underlying87 rfl rfl) ?_;refine GL.rz 1 ?_;refine GC.cond_false rfl ?_;refine GC.rr 3 ?_;refine GL.sp 11 ?_ ?_
 ·intro h1; try simp only [tst_] at h1
  first
  | (exfalso; omega)
  |(skip
    refine GL.rz 9 ?_;refine GC.cond_true rfl ?_;refine GC.rg 1 ?_;refine GC.ret (Fin.b1 4 [0] [] ?_)
    exact ⟨rfl,rfl,rfl⟩)
 intro h1; try simp only [tst_] at h1
 first
 | (exfalso; omega)
 |(skip
   refine GL.rn 4 ?_;refine GL.dg_ 0 ?_;refine GL.rz 4 ?_;refine GC.co ?_ ?_
   ·intro h2; try simp only [tst_] at h2
    first
    | (exfalso; omega)
    |(skip
      refine GC.rg 1 ?_;refine GC.ret (Fin.b1 4 [0] [] ?_)
      exact ⟨rfl,rfl,rfl⟩)
   intro h2; try simp only [tst_] at h2
   first
   | (exfalso; omega)
   |(skip
     refine GC.skip (?_ : GC _ _ _ _)
     refine GC.rg 1 ?_;refine GC.ret (Fin.b1 4 [0] [] ?_)
     exact ⟨rfl,rfl,rfl⟩))
theorem atout_ct (d s : Int) (M : Value) (A : Option Addr) (k cp : Nat) (i : Int) (h : ¬ (0 ≤ i ∧ i < (k : Int))) : Ct Tryz.prog 30 [.pointer (some ⟨p,0,none⟩),.int .i64 i] [netB p d s z (.slice A k cp) M a b] [] (fun v G Q => v = .int .i64 5 ∧ G = [netB p d s z (.slice A k cp) M a b] ∧ Q = []) := by
 refine Ct.intro Tryz.func30 rfl rfl rfl (fun c hc => ?_)
 refine GC.rg 1 ?_;refine GC.seq' ?_;refine GC.block ?_;refine GC.rr 1 ?_;refine GL.pure rfl (p_pnil_eql Tryz.underlying87 rfl rfl) ?_;refine GL.rz 1 ?_;refine GC.cond_false rfl ?_;refine GC.rr 3 ?_;refine GL.sp 11 ?_ ?_
 ·intro h1; try simp only [tst_] at h1
  first
  | (exfalso; omega)
  |(skip
    refine GL.rz 9 ?_;refine GC.cond_true rfl ?_;refine GC.rg 1 ?_;refine GC.ret (Fin.b1 4 [0] [] ?_)
    exact ⟨rfl,rfl,rfl⟩)
 intro h1; try simp only [tst_] at h1
 first
 | (exfalso; omega)
 |(skip
   refine GL.rn 4 ?_;refine GL.dg_ 0 ?_;refine GL.rz 4 ?_;refine GC.co ?_ ?_
   ·intro h2; try simp only [tst_] at h2
    first
    | (exfalso; omega)
    |(skip
      refine GC.rg 1 ?_;refine GC.ret (Fin.b1 4 [0] [] ?_)
      exact ⟨rfl,rfl,rfl⟩)
   intro h2; try simp only [tst_] at h2
   first
   | (exfalso; omega)
   |(skip
     refine GC.skip (?_ : GC _ _ _ _)
     refine GC.rg 1 ?_;refine GC.ret (Fin.b1 4 [0] [] ?_)
     exact ⟨rfl,rfl,rfl⟩))
end
end Go.Proofs.YtliacpkblicnhaaGreat
namespace Go.Sx
open Go
abbrev oldB (W : World) : Blocks := fun k => k < W.heap.size
def Opens (P : Program) (t : TypeId) {α : Type} (d : Kd α) (B : α → Prop) : Prop :=
  ∀ (H : Type) (enc : TypeId × Value → H) (W : World) (fuel : Nat) (cs : List Value) (x : DataW H × List MemPlace),
    DataW.trod enc P W 0 (fun _ => true) true fuel t cs = some x → (∀ n ∈ x.1.weights P t,n ≤ reachBytes) →
      ∃ a y,B a ∧ d.ok a y ∧ cs = d.cells a y ∧ ∀ q ∈ d.pers a y,q.h W (oldB W)
def OpensF (P : Program) (fs : List Field) (o : Nat) {α : Type} (d : Kd α) (B : α → Prop) : Prop :=
  ∀ (H : Type) (enc : TypeId × Value → H) (W : World) (n : Nat) (cs : List Value) (xs : List (DataW H × List MemPlace)),
    (∀ (i : Nat) (f : Field),fs[i]? = some f → DataW.trod enc P W 0 (fun _ => true) true n f.type ((cs.drop f.offset).take (P.cellsOf f.type)) = xs[i]?) → xs.length = fs.length →
    (∀ k ∈ DataW.weightsEach P (fs.map (·.type)) (xs.map (·.1)),k ≤ reachBytes) → o + d.sz ≤ cs.length →
      ∃ a y,B a ∧ d.ok a y ∧ (cs.drop o).take d.sz = d.cells a y ∧ ∀ q ∈ d.pers a y,q.h W (oldB W)
theorem Opens.int {P : Program} {t : TypeId} {k : IntKind} (ht : P.underlying t = some (.int k)) : Opens P t (Kd.int k) (fun n => (Lit.int k n).wf = true) := by
  intro H enc W fuel cs x h hw
  obtain ⟨n,h1,_,h3⟩ := DataW.trod_int ht h
  exact ⟨n,(),h3,trivial,h1,by intro q hq; cases hq⟩
theorem Opens.bool {P : Program} {t : TypeId} (ht : P.underlying t = some .bool) : Opens P t Kd.bool (fun _ => True) := by
  intro H enc W fuel cs x h hw
  obtain ⟨n,h1,_⟩ := DataW.trod_bool ht h
  exact ⟨n,(),trivial,trivial,h1,by intro q hq; cases hq⟩
theorem u8_of {n : Int} (h : (Lit.int .u8 n).wf = true) : ∃ b : UInt8,n = (b.toNat : Int) := by
  have h2 : 0 ≤ n ∧ n ≤ 255 := by
    simp [Lit.wf,IntKind.min,IntKind.max,IntKind.signed,IntKind.bits] at h
    exact h
  refine ⟨UInt8.ofNat n.toNat,?_⟩
  simp
  omega
theorem Opens.u8 {P : Program} {t : TypeId} (ht : P.underlying t = some (.int .u8)) : Opens P t Kd.u8 (fun _ => True) := by
  intro H enc W fuel cs x h hw
  obtain ⟨n,h1,_,h3⟩ := DataW.trod_int ht h
  obtain ⟨b,rfl⟩ := u8_of h3
  exact ⟨b,(),trivial,trivial,h1,by intro q hq; cases hq⟩
theorem OpensF.one {P : Program} {f : Field} {α : Type} {d : Kd α} {B : α → Prop} (h : Opens P f.type d B) (hs : P.cellsOf f.type = d.sz) : OpensF P [f] f.offset d B := by
  intro H enc W n cs xs hx hl hw ho
  match xs,hl with
  | [x],_ =>
    have h0 := hx 0 f rfl
    obtain ⟨a,y,h1,h2,h3,h4⟩ := h H enc W n _ x h0 (fun k hk => hw k (by simp [DataW.weightsEach]; exact hk))
    exact ⟨a,y,h1,h2,by rw [← hs]; exact h3,h4⟩
theorem OpensF.cons {P : Program} {f : Field} {fs : List Field} {α β : Type} {d : Kd α} {e : Kd β} {B : α → Prop} {C : β → Prop} {o : Nat} (h : Opens P f.type d B) (hs : P.cellsOf f.type = d.sz) (ho : f.offset + d.sz = o) (hr : OpensF P fs o e C) :
    OpensF P (f :: fs) f.offset (Kd.pair d e) (fun x => B x.1 ∧ C x.2) := by
  intro H enc W n cs xs hx hl hw hle
  match xs,hl with
  | x :: xs,hl =>
    have h0 := hx 0 f rfl
    have hle' : f.offset + (d.sz + e.sz) ≤ cs.length := hle
    obtain ⟨a,y,h1,h2,h3,h4⟩ := h H enc W n _ x h0 (fun k hk => hw k (by simp only [List.map_cons,DataW.weightsEach,List.mem_append]; exact .inl hk))
    obtain ⟨b,z,g1,g2,g3,g4⟩ := hr H enc W n cs xs (fun i g hg => hx (i + 1) g hg) (by simpa using hl) (fun k hk => hw k (by simp only [List.map_cons,DataW.weightsEach,List.mem_append]; exact .inr hk)) (by omega)
    refine ⟨(a,b),(y,z),⟨h1,g1⟩,⟨h2,g2⟩,?_,fun q hq => ?_⟩
    · show (cs.drop f.offset).take (d.sz + e.sz) = d.cells a y ++ e.cells b z
      rw [← h3,← g3,hs,← ho,List.take_add,List.drop_drop]
    · rcases List.mem_append.1 hq with hq | hq
      · exact h4 q hq
      · exact g4 q hq
theorem Opens.struct {P : Program} {t : TypeId} {fs : Array Field} {α β : Type} {d : Kd α} {B : α → Prop} (ht : P.underlying t = some (.struct fs)) (h : OpensF P fs.toList 0 d B) (hs : P.cellsOf t = d.sz) (f : β → α) (g : α → β) (hfg : ∀ a,f (g a) = a) :
    Opens P t (Kd.iso d f) (fun b => B (f b)) := by
  intro H enc W fuel cs x hx hw
  obtain ⟨xs,n,rfl,rfl,hl,hlen,hf⟩ := DataW.trod_struct ht hx
  obtain ⟨a,y,h1,h2,h3,h4⟩ := h H enc W n cs xs (fun i f hi => hf i f (by simpa using hi)) (by simpa using hlen) (by simpa [DataW.weights,ht] using hw) (by omega)
  refine ⟨g a,y,?_,?_,?_,?_⟩
  · show B (f (g a))
    rw [hfg]; exact h1
  · show d.ok (f (g a)) y
    rw [hfg]; exact h2
  · show cs = d.cells (f (g a)) y
    rw [hfg,← h3,List.drop_zero,List.take_of_length_le (by omega)]
  · show ∀ q ∈ d.pers (f (g a)) y,_
    rw [hfg]; exact h4
theorem choose_list {α : Type} {p : Nat → α → Prop} : ∀ (n : Nat),(∀ i,i < n → ∃ a,p i a) → ∃ l : List α,l.length = n ∧ ∀ i a,l[i]? = some a → p i a
  | 0,_ => ⟨[],rfl,by simp⟩
  | n + 1,h => by
    obtain ⟨l,hl,hp⟩ := choose_list n (fun i hi => h i (by omega))
    obtain ⟨a,ha⟩ := h n (by omega)
    refine ⟨l ++ [a],by simp [hl],fun i b hb => ?_⟩
    by_cases hi : i < n
    · rw [List.getElem?_append_left (by omega)] at hb
      exact hp i b hb
    · have hi2 : i < (l ++ [a]).length := (List.getElem?_eq_some_iff.1 hb).1
      simp [hl] at hi2
      obtain rfl : i = n := by omega
      rw [List.getElem?_append_right (by omega)] at hb
      simp [hl] at hb
      subst hb; exact ha
theorem weights_mem_all {H : Type} {P : Program} {e : TypeId} : ∀ {l : List (DataW H)} {d : DataW H},d ∈ l → ∀ n ∈ d.weights P e,n ∈ DataW.weightsAll P e l
  | d0 :: r,d,hd,n,hn => by
    simp only [DataW.weightsAll,List.mem_append]
    rcases List.mem_cons.1 hd with rfl | hd
    · exact .inl hn
    · exact .inr (weights_mem_all hd n hn)
theorem Opens.slice {P : Program} {t e : TypeId} {α : Type} {d : Kd α} {B : α → Prop} (ht : P.underlying t = some (.slice e)) (h : Opens P e d B) (hs : P.cellsOf e = d.sz) (hpos : 0 < d.sz) {N : Nat} (hN : P.bytesOf e = N) :
    Opens P t (Kd.slice d) (fun xs => xs.length * N ≤ 140737488351232 ∧ ∀ x ∈ xs,B x) := by
  intro H enc W fuel cs x hx hw
  rcases DataW.trod_slice ht hx with ⟨rfl,rfl⟩ | ⟨a,len,cap,elems,rest,n,rfl,rfl,rfl,hb,hl,hm,hlen,hel,hsp,_⟩
  · exact ⟨[],(none,0),⟨by simp,by simp⟩,⟨by simp,by simp⟩,rfl,fun q hq => by rw [List.mem_singleton.1 hq]; exact .inl rfl⟩
  · have hwe : ∀ d ∈ elems.map (·.1),∀ n ∈ d.weights P e,n ≤ reachBytes := fun d hd n hn => hw n (by
      simp only [DataW.weights,ht,List.mem_cons,List.mem_append]
      exact .inr (.inl (weights_mem_all hd n hn)))
    have hsz : (elems.length + rest.length) * N ≤ reachBytes := hw _ (by simp only [DataW.weights,ht,List.mem_cons,List.length_map,hN]; exact .inl trivial)
    have each : ∀ i,i < len → ∃ u : α,B u ∧ ∃ y,d.ok u y ∧ W.cells? 0 (a.add (i * P.cellsOf e)) (P.cellsOf e) = some (d.cells u y) ∧ ∀ q ∈ d.pers u y,q.h W (oldB W) := by
      intro i hi
      have h1 := hel i hi
      obtain ⟨x,hx⟩ : ∃ x,elems[i]? = some x := ⟨elems[i]'(by omega),List.getElem?_eq_getElem (by omega)⟩
      rw [hx,Option.bind_eq_some_iff] at h1
      obtain ⟨cs,hcs,hr⟩ := h1
      obtain ⟨u,y,k1,k2,rfl,k4⟩ := h H enc W n cs x hr (hwe _ (List.mem_map.2 ⟨x,List.mem_of_getElem? hx,rfl⟩))
      exact ⟨u,k1,y,k2,hcs,k4⟩
    obtain ⟨xs,hxl,hxs⟩ := choose_list len each
    refine ⟨xs,(some a,cap),⟨?_,fun x hx => ?_⟩,⟨by rw [hxl]; exact hl,hm⟩,by rw [← hxl]; rfl,fun q hq => ?_⟩
    · refine Nat.le_trans (Nat.mul_le_mul_right _ ?_) hsz
      omega
    · obtain ⟨i,hi⟩ := List.getElem?_of_mem hx
      exact (hxs i x hi).1
    · rw [List.mem_singleton.1 hq]
      match xs,hxl,hxs with
      | [],_,_ => exact .inl rfl
      | x0 :: r,hxl,hxs =>
        right
        have hlt : a.block < W.heap.size := by
          obtain ⟨_,y,_,hc,_⟩ := hxs 0 x0 rfl
          have := World.cells?_block hc (by omega)
          rwa [add_block] at this
        refine ⟨a,rfl,hlt,hlt,fun i x hi => ?_⟩
        obtain ⟨_,y,hok,hc,hp⟩ := hxs i x hi
        refine ⟨d.cells x y,⟨y,hok,rfl,hp⟩,fun j u hj => ?_⟩
        obtain ⟨_,hlc,hcell⟩ := World.cells?_some hc
        have hj2 : j < P.cellsOf e := by
          have := (List.getElem?_eq_some_iff.1 hj).1
          rw [d.len] at this
          omega
        rw [← hs,hcell j hj2,hj]
theorem Opens.arg {P : Program} {t : TypeId} {α : Type} {d : Kd α} {B : α → Prop} (ho : Opens P t d B) {H : Type} {enc : TypeId × Value → H} {W : World} {v : Value} {x : DataW H} {p : List MemPlace} (h : DataW.Trod enc P W 0 (fun _ => true) true t v x p)
    {ts : List TypeId} {ds : List (DataW H)} (hsz : (DataW.weightsEach P ts ds).all (· ≤ reachBytes) = true) (j : Nat) (h1 : ts[j]? = some t) (h2 : ds[j]? = some x) :
    (∃ a y,B a ∧ d.ok a y ∧ v.cells.toList = d.cells a y ∧ ∀ q ∈ d.pers a y,q.h W (oldB W)) ∧ ∀ x ∈ p,x.block < W.heap.size := by
  obtain ⟨fuel,hf⟩ := h
  refine ⟨ho H enc W fuel _ _ hf (fun n hn => ?_),DataW.trod_lt _ _ _ _ hf⟩
  have := List.all_eq_true.1 hsz _ (DataW.weights_mem_each h1 h2 n hn)
  simpa using this
theorem cells_slice {v : Value} {a : Option Addr} {l c : Nat} (hv : ∃ a l c,v = .slice a l c) (h : v.cells.toList = [.slice a l c]) : v = .slice a l c := by
  obtain ⟨_,_,_,rfl⟩ := hv
  simpa [Value.cells] using h
theorem cells_int {v : Value} {k : IntKind} {n : Int} (hv : ∃ n,v = .int k n) (h : v.cells.toList = [.int k n]) : v = .int k n := by
  obtain ⟨_,rfl⟩ := hv
  simpa [Value.cells] using h
theorem cells_bool {v : Value} {b : Bool} (hv : ∃ b,v = .bool b) (h : v.cells.toList = [.bool b]) : v = .bool b := by
  obtain ⟨_,rfl⟩ := hv
  simpa [Value.cells] using h
theorem cells_agg {v : Value} {l : List Value} {n : Nat} (hv : ∃ cs,v = .agg cs ∧ cs.size = n) (h : v.cells.toList = l) : v = .agg l.toArray := by
  obtain ⟨cs,rfl,_⟩ := hv
  simp [Value.cells] at h
  subst h; rfl
theorem Ct.law {P : Program} {f : FuncId} {args : List Value} {Q : List Pers} (h : Ct P f args [] Q (fun v G Q => v = .bool true ∧ G = [] ∧ Q = [])) (W : World) (hq : ∀ q ∈ Q,q.h W (oldB W)) :
    Calls P f args.toArray W fun e W' => e = .returned (.bool true) ∧ RowKit.Below W.heap.size W W' := by
  refine (h W (oldB W) ⟨by simp,by simp [keysOf],by simp [keysOf],hq⟩).mono fun e W' ⟨v,G',Q',S',he,⟨hv,_,_⟩,_,hfr,_⟩ => ?_
  subst hv
  exact ⟨he,hfr.below⟩
end Go.Sx
namespace Go.Proofs.YtliacpkblicnhaaGreat
open Go Go.Sx Go.Proofs
def okRes (r : Res) : Prop := ((Lit.int .u8 r.code).wf = true) ∧ ((r.data.length * 1 ≤ 140737488351232 ∧ ∀ y ∈ r.data,True))
theorem opensRes : Opens Tryz.prog 52 kRes okRes := Opens.struct Tryz.underlying52 (OpensF.cons (Opens.int Tryz.underlying50) (by kernel_rfl) rfl (OpensF.one (Opens.slice Tryz.underlying47 (Opens.u8 Tryz.underlying5) (by kernel_rfl) (by decide) (by kernel_rfl : Program.bytesOf Tryz.prog 5 = 1)) (by kernel_rfl))) (by kernel_rfl) (fun r : Res => (r.code,r.data)) (fun p => (⟨p.1,p.2⟩ : Res)) (fun _ => rfl)
structure Shp where
  bl : Int
  sz : Int
  deriving Inhabited,DecidableEq
def kShp : Kd Shp := Kd.iso (Kd.pair (Kd.int .i64) (Kd.int .i64)) (fun r => (r.bl,r.sz))
def okShp (r : Shp) : Prop := ((Lit.int .i64 r.bl).wf = true) ∧ ((Lit.int .i64 r.sz).wf = true)
theorem opensShp : Opens Tryz.prog 57 kShp okShp := Opens.struct Tryz.underlying57 (OpensF.cons (Opens.int Tryz.underlying3) (by kernel_rfl) rfl (OpensF.one (Opens.int Tryz.underlying3) (by kernel_rfl))) (by kernel_rfl) (fun r : Shp => (r.bl,r.sz)) (fun p => (⟨p.1,p.2⟩ : Shp)) (fun _ => rfl)
structure OpD where
  kind : Int
  at_ : Int
  n : Int
  data : List UInt8
  old : List UInt8
  deriving Inhabited,DecidableEq
def kOpD : Kd OpD := Kd.iso (Kd.pair (Kd.int .u8) (Kd.pair (Kd.int .i64) (Kd.pair (Kd.int .i64) (Kd.pair kBytes (kBytes))))) (fun r => (r.kind,r.at_,r.n,r.data,r.old))
def okOpD (r : OpD) : Prop := ((Lit.int .u8 r.kind).wf = true) ∧ ((Lit.int .i64 r.at_).wf = true) ∧ ((Lit.int .i64 r.n).wf = true) ∧ ((r.data.length * 1 ≤ 140737488351232 ∧ ∀ y ∈ r.data,True)) ∧ ((r.old.length * 1 ≤ 140737488351232 ∧ ∀ y ∈ r.old,True))
theorem opensOpD : Opens Tryz.prog 49 kOpD okOpD := Opens.struct Tryz.underlying49 (OpensF.cons (Opens.int Tryz.underlying46) (by kernel_rfl) rfl (OpensF.cons (Opens.int Tryz.underlying3) (by kernel_rfl) rfl (OpensF.cons (Opens.int Tryz.underlying3) (by kernel_rfl) rfl (OpensF.cons (Opens.slice Tryz.underlying47 (Opens.u8 Tryz.underlying5) (by kernel_rfl) (by decide) (by kernel_rfl : Program.bytesOf Tryz.prog 5 = 1)) (by kernel_rfl) rfl (OpensF.one (Opens.slice Tryz.underlying47 (Opens.u8 Tryz.underlying5) (by kernel_rfl) (by decide) (by kernel_rfl : Program.bytesOf Tryz.prog 5 = 1)) (by kernel_rfl)))))) (by kernel_rfl) (fun r : OpD => (r.kind,r.at_,r.n,r.data,r.old)) (fun p => (⟨p.1,p.2.1,p.2.2.1,p.2.2.2.1,p.2.2.2.2⟩ : OpD)) (fun _ => rfl)
structure Page where
  at_ : Int
  ver : Int
  data : List UInt8
  deriving Inhabited,DecidableEq
def kPage : Kd Page := Kd.iso (Kd.pair (Kd.int .i64) (Kd.pair (Kd.int .i64) (kBytes))) (fun r => (r.at_,r.ver,r.data))
def okPage (r : Page) : Prop := ((Lit.int .i64 r.at_).wf = true) ∧ ((Lit.int .i64 r.ver).wf = true) ∧ ((r.data.length * 1 ≤ 140737488351232 ∧ ∀ y ∈ r.data,True))
theorem opensPage : Opens Tryz.prog 164 kPage okPage := Opens.struct Tryz.underlying164 (OpensF.cons (Opens.int Tryz.underlying3) (by kernel_rfl) rfl (OpensF.cons (Opens.int Tryz.underlying3) (by kernel_rfl) rfl (OpensF.one (Opens.slice Tryz.underlying47 (Opens.u8 Tryz.underlying5) (by kernel_rfl) (by decide) (by kernel_rfl : Program.bytesOf Tryz.prog 5 = 1)) (by kernel_rfl)))) (by kernel_rfl) (fun r : Page => (r.at_,r.ver,r.data)) (fun p => (⟨p.1,p.2.1,p.2.2⟩ : Page)) (fun _ => rfl)
def rz : Res := ⟨0,[]⟩
def shapeOk (bl sz : Int) : Prop := 1 ≤ bl ∧ bl ≤ 4096 ∧ 1 ≤ sz ∧ sz ≤ 4096
instance (bl sz : Int) : Decidable (shapeOk bl sz) := by unfold shapeOk; infer_instance
def shapeE (bl sz : Int) : Int := if shapeOk bl sz then 0 else 40
def bareP (kind a n : Int) (dl ol : Nat) : Prop := (kind = 4 ∧ a = 0 ∧ n = 0 ∧ dl = 0 ∧ ol = 0) ∨ ((kind = 1 ∨ kind = 3) ∧ dl = 0 ∧ ol = 0) ∨ (kind = 2 ∧ ol = 0) ∨ (kind = 5 ∧ n = 0)
instance (kind a n : Int) (dl ol : Nat) : Decidable (bareP kind a n dl ol) := by unfold bareP; infer_instance
def formP (kind a n : Int) (dl ol : Nat) : Prop := 0 ≤ a ∧ a ≤ 2147483647 ∧ 0 ≤ n ∧ n ≤ 2147483647 ∧ dl ≤ 262144 ∧ ol ≤ 4096 ∧ bareP kind a n dl ol
instance (kind a n : Int) (dl ol : Nat) : Decidable (formP kind a n dl ol) := by unfold formP; infer_instance
def formE (kind a n : Int) (dl ol : Nat) : Int := if formP kind a n dl ol then 0 else 41
abbrev shpV (bl sz : Int) : Value := .agg #[.int .i64 bl,.int .i64 sz]
abbrev opV (kind a n : Int) (A : Option Addr) (dl cp : Nat) (B : Option Addr) (ol cq : Nat) : Value := .agg #[.int .u8 kind,.int .i64 a,.int .i64 n,.slice A dl cp,.slice B ol cq]
theorem zq1_ {X : Prop} (h : X := by (refine ⟨congrArg (Value.int .i64) ?_,rfl,rfl⟩; unfold shapeE; first | rw [if_pos (by unfold shapeOk; omega)] | rw [if_neg (by unfold shapeOk; omega)])) : X := h
theorem shape_ct (bl sz : Int) : Ct Tryz.prog 211 [shpV bl sz] [] [] (fun v G Q => v = .int .i64 (shapeE bl sz) ∧ G = [] ∧ Q = []) := by
 refine Ct.intro Tryz.func211 rfl rfl rfl (fun c hc => ?_)
 refine GC.sr_ ?_;refine GL.step rfl (t_box rfl rfl rfl) (GL.ex fun b_t1 => ?_);refine GL.rz 1 ?_;refine GC.seq' ?_;refine GC.rr 1 ?_;refine GL.ld_ 0 ?_;refine GL.rn 2 ?_;refine GL.sp 6 ?_ ?_
 ·intro h1; try simp only [tst_] at h1
  refine GL.rz 14 ?_;refine GC.cond_true rfl ?_;refine GC.rg 1 ?_;refine GC.ret (Fin.b1 2 [] [] ?_)
  exact zq1_
 intro h1; try simp only [tst_] at h1
 refine GL.rn 1 ?_;refine GL.dg_ 0 ?_;refine GL.rn 3 ?_;refine GL.sp 11 ?_ ?_
 ·intro h2; try simp only [tst_] at h2
  refine GL.rz 9 ?_;refine GC.cond_true rfl ?_;refine GC.rg 1 ?_;refine GC.ret (Fin.b1 2 [] [] ?_)
  exact zq1_
 intro h2; try simp only [tst_] at h2
 refine GL.rn 1 ?_;refine GL.dg_ 0 ?_;refine GL.rn 3 ?_;refine GL.sp 16 ?_ ?_
 ·intro h3; try simp only [tst_] at h3
  refine GL.rz 4 ?_;refine GC.cond_true rfl ?_;refine GC.rg 1 ?_;refine GC.ret (Fin.b1 2 [] [] ?_)
  exact zq1_
 intro h3; try simp only [tst_] at h3
 refine GL.rn 1 ?_;refine GL.dg_ 0 ?_;refine GL.rz 2 ?_;refine GC.co ?_ ?_
 ·intro h4; try simp only [tst_] at h4
  refine GC.rg 1 ?_;refine GC.ret (Fin.b1 2 [] [] ?_)
  exact zq1_
 intro h4; try simp only [tst_] at h4
 refine GC.skip (?_ : GC _ _ _ _)
 refine GC.rg 1 ?_;refine GC.ret (Fin.b1 2 [] [] ?_)
 exact zq1_
theorem zq2_ {X : Prop} (h : X := by (refine ⟨congrArg Value.bool ?_,rfl,rfl⟩; first | exact decide_eq_decide.2 (by unfold bareP; omega) | exact (decide_eq_true (by unfold bareP; omega)).symm | exact (decide_eq_false (by unfold bareP; omega)).symm)) : X := h
theorem bare_ct (kind a_ n : Int) (A : Option Addr) (dl cp : Nat) (B : Option Addr) (ol cq : Nat) : Ct Tryz.prog 143 [opV kind a_ n A dl cp B ol cq] [] [] (fun v G Q => v = .bool (decide (bareP kind a_ n dl ol)) ∧ G = [] ∧ Q = []) := by
 refine Ct.intro Tryz.func143 rfl rfl rfl (fun c hc => ?_)
 refine GC.sr_ ?_;refine GL.step rfl (t_box rfl rfl rfl) (GL.ex fun b_t1 => ?_);refine GL.rz 1 ?_;refine GC.seq' ?_;refine GC.regionQ wide_ (by kernel_rfl) ?_;refine GQ.rn 1 ?_;refine GQ.step rfl (q_mem (m_load (i := 0) rfl rfl ag_47 rfl)) ?_
 refine GQ.rn 3 ?_;refine GQ.step rfl (q_mem (m_load (i := 0) rfl rfl ag_47 rfl)) ?_;refine GQ.rn 4 ?_
 refine GQ.nil (?_ : GC _ _ _ _)
 refine GC.seq' ?_;refine GC.rr 1 ?_;refine GL.ld_ 0 ?_;refine GL.nl_ ?_;refine GC.block ?_;refine GC.seq' ?_;refine GC.block ?_;refine GC.seq' ?_;refine GC.block ?_;refine GC.seq' ?_
 iterate 2 refine GC.block ?_
 refine GC.seq' ?_;refine GC.block ?_
 iterate 2 refine GC.seq' ?_
 refine GC.rg 2 ?_;refine GC.co ?_ ?_
 ·intro h1; try simp only [tst_] at h1
  refine GC.exit (?_ : GC _ _ _ _)
  refine GC.rr 1 ?_;refine GL.ld_ 0 ?_;refine GL.rn 2 ?_;refine GL.sp 28 ?_ ?_
  ·intro h2; try simp only [tst_] at h2
   refine GL.rz 4 ?_;refine GC.cond_true rfl ?_;refine GC.rg 1 ?_;refine GC.ret (Fin.b1 2 [] [] ?_)
   exact zq2_
  intro h2; try simp only [tst_] at h2
  refine GL.rn 1 ?_;refine GL.dg_ 0 ?_;refine GL.rz 2 ?_;refine GC.co ?_ ?_
  ·intro h3; try simp only [tst_] at h3
   refine GC.rg 1 ?_;refine GC.ret (Fin.b1 2 [] [] ?_)
   exact zq2_
  intro h3; try simp only [tst_] at h3
  refine GC.skip (?_ : GC _ _ _ _)
  refine GC.seq' ?_;refine GC.rr 2 ?_;refine GL.sp 34 ?_ ?_
  ·intro h4; try simp only [tst_] at h4
   refine GL.rz 3 ?_;refine GC.ret (Fin.b1 2 [] [] ?_)
   exact zq2_
  intro h4; try simp only [tst_] at h4
  refine GL.rz 3 ?_;refine GC.ret (Fin.b1 2 [] [] ?_)
  exact zq2_
 intro h1; try simp only [tst_] at h1
 refine GC.skip (?_ : GC _ _ _ _)
 refine GC.seq' ?_;refine GC.rg 2 ?_;refine GC.co ?_ ?_
 ·intro h5; try simp only [tst_] at h5
  refine GC.exit (?_ : GC _ _ _ _)
  refine GC.seq' ?_;refine GC.rr 2 ?_;refine GL.sp 34 ?_ ?_
  ·intro h6; try simp only [tst_] at h6
   refine GL.rz 3 ?_;refine GC.ret (Fin.b1 2 [] [] ?_)
   exact zq2_
  intro h6; try simp only [tst_] at h6
  refine GL.rz 3 ?_;refine GC.ret (Fin.b1 2 [] [] ?_)
  exact zq2_
 intro h5; try simp only [tst_] at h5
 refine GC.skip (?_ : GC _ _ _ _)
 refine GC.seq' ?_;refine GC.rg 2 ?_;refine GC.co ?_ ?_
 ·intro h7; try simp only [tst_] at h7
  refine GC.exit (?_ : GC _ _ _ _)
  refine GC.seq' ?_;refine GC.rr 2 ?_;refine GL.sp 34 ?_ ?_
  ·intro h8; try simp only [tst_] at h8
   refine GL.rz 3 ?_;refine GC.ret (Fin.b1 2 [] [] ?_)
   exact zq2_
  intro h8; try simp only [tst_] at h8
  refine GL.rz 3 ?_;refine GC.ret (Fin.b1 2 [] [] ?_)
  exact zq2_
 intro h7; try simp only [tst_] at h7
 refine GC.skip (?_ : GC _ _ _ _)
 refine GC.seq' ?_;refine GC.rg 2 ?_;refine GC.co ?_ ?_
 ·intro h9; try simp only [tst_] at h9
  refine GC.exit (?_ : GC _ _ _ _)
  refine GC.seq' ?_;refine GC.rg 2 ?_;refine GC.ret (Fin.b1 2 [] [] ?_)
  exact zq2_
 intro h9; try simp only [tst_] at h9
 refine GC.skip (?_ : GC _ _ _ _)
 refine GC.rg 2 ?_;refine GC.co ?_ ?_
 ·intro h10; try simp only [tst_] at h10
  refine GC.exit (?_ : GC _ _ _ _)
  refine GC.seq' ?_;refine GC.rr 1 ?_;refine GL.ld_ 0 ?_;refine GL.rz 2 ?_;refine GC.ret (Fin.b1 2 [] [] ?_)
  exact zq2_
 intro h10; try simp only [tst_] at h10
 refine GC.skip (?_ : GC _ _ _ _)
 refine GC.exit (?_ : GC _ _ _ _)
 refine GC.rg 1 ?_;refine GC.ret (Fin.b1 2 [] [] ?_)
 exact zq2_
theorem zq3_ {X : Prop} (h : X := by (refine ⟨congrArg (Value.int .i64) ?_,rfl,rfl⟩; unfold formE; first | rw [if_pos (by simp only [formP,bareP] at *; omega)] | rw [if_neg (by simp only [formP,bareP] at *; omega)])) : X := h
theorem form_ct (kind a_ n : Int) (A : Option Addr) (dl cp : Nat) (B : Option Addr) (ol cq : Nat) : Ct Tryz.prog 87 [opV kind a_ n A dl cp B ol cq] [] [] (fun v G Q => v = .int .i64 (formE kind a_ n dl ol) ∧ G = [] ∧ Q = []) := by
 refine Ct.intro Tryz.func87 rfl rfl rfl (fun c hc => ?_)
 refine GC.sr_ ?_;refine GL.step rfl (t_box rfl rfl rfl) (GL.ex fun b_t1 => ?_);refine GL.rz 1 ?_;refine GC.seq' ?_;refine GC.rr 1 ?_;refine GL.ld_ 0 ?_;refine GL.rn 1 ?_;refine GL.ld_ 0 ?_;refine GL.pure rfl (p_min2 rfl rfl) ?_
 refine GL.rn 2 ?_;refine GL.sp 9 ?_ ?_
 ·intro h1; try simp only [tst_] at h1
  refine GL.rz 24 ?_;refine GC.cond_true rfl ?_;refine GC.rg 1 ?_;refine GC.ret (Fin.b1 2 [] [] ?_)
  exact zq3_
 intro h1; try simp only [tst_] at h1
 refine GL.rn 1 ?_;refine GL.dg_ 0 ?_;refine GL.rn 1 ?_;refine GL.dg_ 0 ?_;refine GL.pureG (s := 9) rfl rfl rfl (p_max2 rfl rfl) ?_;refine GL.rn 3 ?_;refine GL.sp 17 ?_ ?_
 ·intro h2; try simp only [tst_] at h2
  refine GL.rz 16 ?_;refine GC.cond_true rfl ?_;refine GC.rg 1 ?_;refine GC.ret (Fin.b1 2 [] [] ?_)
  exact zq3_
 intro h2; try simp only [tst_] at h2
 refine GL.rn 1 ?_;refine GL.dg_ 0 ?_;refine GL.rn 4 ?_;refine GL.sp 23 ?_ ?_
 ·intro h3; try simp only [tst_] at h3
  refine GL.rz 10 ?_;refine GC.cond_true rfl ?_;refine GC.rg 1 ?_;refine GC.ret (Fin.b1 2 [] [] ?_)
  exact zq3_
 intro h3; try simp only [tst_] at h3
 refine GL.rn 1 ?_;refine GL.dg_ 0 ?_;refine GL.rn 4 ?_;refine GL.sp 29 ?_ ?_
 ·intro h4; try simp only [tst_] at h4
  refine GL.rz 4 ?_;refine GC.cond_true rfl ?_;refine GC.rg 1 ?_;refine GC.ret (Fin.b1 2 [] [] ?_)
  exact zq3_
 intro h4; try simp only [tst_] at h4
 refine GL.lg_ 0 5 ?_;refine GL.stepG rfl (s := 29) rfl rfl (t_call rfl Tryz.call143 rfl (is := []) (js := []) rfl rfl (by exact bare_ct _ _ _ _ _ _ _ _ _)) (GL.ret ?_)
 rintro _ _ _ ⟨rfl,rfl,rfl⟩
 refine GL.rz 2 ?_;refine GC.co ?_ ?_
 ·intro h5; try simp only [tst_] at h5
  refine GC.rg 1 ?_;refine GC.ret (Fin.b1 2 [] [] ?_)
  exact zq3_
 intro h5; try simp only [tst_] at h5
 refine GC.skip (?_ : GC _ _ _ _)
 refine GC.rg 1 ?_;refine GC.ret (Fin.b1 2 [] [] ?_)
 exact zq3_
theorem shape_eq (bl sz e : Int) (h : shapeE bl sz = e) : Ct Tryz.prog 211 [shpV bl sz] [] [] (fun v G Q => v = .int .i64 e ∧ G = [] ∧ Q = []) := h ▸ shape_ct bl sz
theorem mulB {x a y b : Int} (h0 : 0 ≤ x) (h1 : x ≤ a) (h2 : 0 ≤ y) (h3 : y ≤ b) : 0 ≤ x * y ∧ x * y ≤ a * b :=
  ⟨Int.mul_nonneg h0 h2,Int.mul_le_mul h1 h3 h2 (by omega)⟩
theorem formE_iff (k a n : Int) (x y : Nat) : (formE k a n x y = 0) ↔ formP k a n x y := by unfold formE; split <;> simp [*]
theorem clone_ct (A : Option Addr) (xs : List UInt8) (cp : Nat) (hx : xs.length ≤ 140737488355328) : Ct Tryz.prog 40 [.slice A xs.length cp] [] [Pers.row Kd.u8 A xs]
    (fun v G Q => ∃ A' cp',xs.length ≤ cp' ∧ cp' ≤ 9223372036854775807 ∧ v = .slice A' xs.length cp' ∧ G = [.row (.slice A' xs.length cp') 5 1 xs.length (xs.map u8v)] ∧ Q = []) := by
 cases A with
 | none =>
   refine Ct.pure (fun w S h => row_none (h.per _ (List.mem_singleton.2 rfl))) fun hx0 => ?_
   subst hx0
   refine Ct.intro Tryz.func40 rfl rfl rfl (fun c hc => ?_)
   refine GC.rg 1 ?_;refine GC.seq' ?_;refine GC.rr 1 ?_;refine GL.pure rfl (p_slnil_eql Tryz.underlying47 rfl rfl) ?_;refine GL.nl_ ?_;refine GC.cond_true rfl ?_;refine GC.rg 1 ?_;refine GC.nilrow 5 1 ?_;refine GC.ret (Fin.b1 2 [0] [] ?_)
   exact ⟨_,_,by simp,by simp,rfl,rfl,rfl⟩
 | some a =>
   refine Ct.intro Tryz.func40 rfl rfl rfl (fun c hc => ?_)
   refine GC.rg 1 ?_;refine GC.seq' ?_;refine GC.rr 1 ?_;refine GL.pure rfl (p_slnil_eql Tryz.underlying47 rfl rfl) ?_;refine GL.nl_ ?_;refine GC.cond_false rfl ?_
   refine GC.skip (?_ : GC _ _ _ _)
   refine GC.sr_ ?_;refine GL.step rfl (t_buildSlice rfl Tryz.underlying47 sz_5 ze_5 rfl rfl rfl rfl rfl rfl) (GL.ex fun b_t5 => ?_);refine GL.rn 1 ?_;refine GL.torow (i := 0) (m := 0) (sz := 1) rfl rfl (by decide) rfl ?_
   refine GL.step rfl (t_appendS (i := 0) (k := 0) rfl el_47 rfl rfl rfl rfl (by simp; omega) (fun _ => rfl)) (GL.ex fun v7 => ?_);refine GL.rz 1 ?_;refine GC.shape (i := 0) rfl (fun A1 c1 e1 l1 l2 => ?_)
   subst e1
   simp only [Nat.zero_add,List.nil_append] at l1 ⊢
   refine GC.ret (Fin.b1 2 [0] [] ?_)
   exact ⟨_,_,l1,l2,rfl,rfl,rfl⟩
theorem str_eq (x y : List UInt8) : ((⟨x.toArray⟩ : ByteArray) = ⟨y.toArray⟩) = (x = y) := by
  simp
theorem equal_ct (A : Option Addr) (xs : List UInt8) (cp : Nat) (B : Option Addr) (ys : List UInt8) (cq : Nat) : Ct Tryz.prog 50 [.slice A xs.length cp,.slice B ys.length cq] [] [Pers.row Kd.u8 A xs,Pers.row Kd.u8 B ys]
    (fun v G Q => v = .bool (decide (xs = ys)) ∧ G = [] ∧ Q = []) := by
 refine Ct.intro Tryz.func50 rfl rfl rfl (fun c hc => ?_)
 refine GC.rg 1 ?_;refine GC.rr 1 ?_;refine GL.step rfl (t_mem rfl (m_str (i := 0) rfl rfl Tryz.underlying47 Tryz.underlying5 Tryz.underlying9)) ?_;refine GL.rn 1 ?_;refine GL.step rfl (t_mem rfl (m_str (i := 1) rfl rfl Tryz.underlying47 Tryz.underlying5 Tryz.underlying9)) ?_
 refine GL.pure rfl (p_seql rfl rfl) ?_;refine GL.rz 1 ?_;refine GC.ret (Fin.b1 4 [] [] ?_)
 refine ⟨congrArg Value.bool ?_,rfl,rfl⟩; simp
def sameRes (r s : Res) : Bool := decide (r.code = s.code) && decide (r.data = s.data)
theorem same_ct (r s : Res) (A B : Option Addr) (cp cq : Nat) : Ct Tryz.prog 26 [.agg #[.int .u8 r.code,.slice A r.data.length cp],.agg #[.int .u8 s.code,.slice B s.data.length cq]] [] [Pers.row Kd.u8 A r.data,Pers.row Kd.u8 B s.data]
    (fun v G Q => v = .bool (sameRes r s) ∧ G = [] ∧ Q = []) := by
 refine Ct.intro Tryz.func26 rfl rfl rfl (fun c hc => ?_)
 refine GC.sr_ ?_;refine GL.step rfl (t_box rfl rfl rfl) (GL.ex fun b_t2 => ?_);refine GL.step rfl (t_box rfl rfl rfl) (GL.ex fun b_t3 => ?_);refine GL.rz 1 ?_;refine GC.rr 1 ?_;refine GL.ld_ 1 ?_;refine GL.rn 1 ?_
 refine GL.ld_ 0 ?_;refine GL.rn 2 ?_;refine GL.sp 10 ?_ ?_
 ·intro h1; try simp only [tst_] at h1
  refine GL.rn 1 ?_;refine GL.dg_ 1 ?_;refine GL.stepG rfl (s := 10) rfl rfl (t_mem rfl (m_str (i := 0) rfl rfl Tryz.underlying47 Tryz.underlying5 Tryz.underlying9)) ?_;refine GL.rn 1 ?_;refine GL.dg_ 0 ?_;refine GL.stepG rfl (s := 10) rfl rfl (t_mem rfl (m_str (i := 1) rfl rfl Tryz.underlying47 Tryz.underlying5 Tryz.underlying9)) ?_
  refine GL.pureG (s := 10) rfl rfl rfl (p_seql rfl rfl) ?_;refine GL.rz 2 ?_;refine GC.ret (Fin.b1 4 [] [] ?_)
  refine ⟨congrArg Value.bool ?_,rfl,rfl⟩; simp [sameRes, *]
 intro h1; try simp only [tst_] at h1
 refine GL.rz 9 ?_;refine GC.ret (Fin.b1 4 [] [] ?_)
 refine ⟨congrArg Value.bool ?_,rfl,rfl⟩; simp [sameRes, *]
structure Vol where
  bl : Int
  sz : Int
  b : List UInt8
  vs : List Int
  last : Int
  deriving Inhabited,DecidableEq
structure VolOk (v : Vol) : Prop where
  shp : shapeOk v.bl v.sz
  lb : v.b.length = (v.bl * v.sz).toNat
  lv : v.vs.length = v.bl.toNat
  ver : ∀ x ∈ v.vs,0 ≤ x ∧ x ≤ 4611686018427387904
  last : 0 ≤ v.last ∧ v.last ≤ 4611686018427387904
abbrev volG (p pb pv : Nat) (v : Vol) : List Own := [.cells p [.int .i64 v.bl,.int .i64 v.sz,.slice (some ⟨pb,0,none⟩) (v.bl * v.sz).toNat (v.bl * v.sz).toNat,.slice (some ⟨pv,0,none⟩) v.bl.toNat v.bl.toNat,.int .i64 v.last] 287,
  .cells pb (v.b.map u8v) 5,.cells pv (v.vs.map (Value.int .i64)) 3]
def newV (bl sz : Int) : Vol := ⟨bl,sz,List.replicate (bl * sz).toNat 0,List.replicate bl.toNat 0,0⟩
theorem newV_ok {bl sz : Int} (h : shapeOk bl sz) : VolOk (newV bl sz) := ⟨h,by simp [newV],by simp [newV],fun x hx => by rw [List.eq_of_mem_replicate hx]; decide,by simp [newV]⟩
theorem atB {bl sz i n : Int} (hs : shapeOk bl sz) (h0 : 0 ≤ i) (h1 : 1 ≤ n) (h2 : i + n ≤ bl) : 0 ≤ i * sz ∧ i * sz + 1 ≤ (i + n) * sz ∧ (i + n) * sz ≤ bl * sz ∧ bl * sz ≤ 16777216 := by
  obtain ⟨s1,s2,s3,s4⟩ := hs
  refine ⟨Int.mul_nonneg h0 (by omega),?_,Int.mul_le_mul_of_nonneg_right h2 (by omega),(mulB (a := 4096) (b := 4096) (by omega) s2 (by omega) s4).2⟩
  rw [Int.add_mul]
  have : 1 * 1 ≤ n * sz := Int.mul_le_mul h1 s3 (by omega) (by omega)
  omega
theorem mulS {bl sz : Int} (hs : shapeOk bl sz) : 0 ≤ bl * sz ∧ bl * sz ≤ 16777216 ∧ 1 ≤ bl * sz := by
  obtain ⟨s1,s2,s3,s4⟩ := hs
  have := mulB (x := bl) (a := 4096) (y := sz) (b := 4096) (by omega) s2 (by omega) s4
  have h1 : 1 * 1 ≤ bl * sz := Int.mul_le_mul s1 s3 (by omega) (by omega)
  omega
theorem made_ct (p pb pv : Nat) (v : Vol) : Ct Tryz.prog 212 [.pointer (some ⟨p,0,none⟩)] (volG p pb pv v) [] (fun u G Q => u = .bool true ∧ G = volG p pb pv v ∧ Q = []) := by
 refine Ct.intro Tryz.func212 rfl rfl rfl (fun c hc => ?_)
 refine GC.rg 1 ?_;refine GC.rr 1 ?_;refine GL.pure rfl (p_pnil_neq Tryz.underlying219 rfl rfl) ?_;refine GL.rn 4 ?_;refine GL.dg_ 0 ?_;refine GL.pureG (s := 5) rfl rfl rfl (p_slnil_neq Tryz.underlying47 rfl rfl) ?_
 refine GL.rz 2 ?_;refine GC.ret (Fin.b1 2 [0,0,0] [] ?_)
 exact ⟨rfl,rfl,rfl⟩
theorem laid_step {vs : List Int} {i k : Nat} {num : Int} (h : i + k < vs.length) : (laid vs i (List.replicate k num)).set (i + k) num = laid vs i (List.replicate (k + 1) num) := by
  apply List.ext_getElem?
  intro j
  simp only [laid,List.length_replicate]
  rw [List.getElem?_set]
  have hl : (List.take i vs ++ List.replicate k num ++ List.drop (i + k) vs).length = vs.length := by simp; omega
  by_cases hj : i + k = j
  · subst hj
    rw [if_pos rfl,if_pos (by omega)]
    simp [List.getElem?_append,List.getElem?_replicate,show min i vs.length = i by omega]
  · rw [if_neg hj]
    simp only [List.getElem?_append,List.getElem?_replicate,List.length_append,List.length_take,List.length_replicate,show min i vs.length = i by omega,List.getElem?_drop]
    by_cases h1 : j < i
    · simp [h1,show j < i + k by omega,show j < i + (k + 1) by omega]
    · by_cases h2 : j < i + k
      · simp [h1,h2,show j < i + (k + 1) by omega,show j - i < k by omega,show j - i < k + 1 by omega]
      · simp [h1,h2,show ¬ j < i + (k + 1) by omega]
        congr 1
        omega
theorem laid_nil {α : Type} (vs : List α) (i : Nat) : laid vs i [] = vs := by simp [laid]
theorem at_ct (p pb pv : Nat) (v : Vol) (i n : Int) (hv : VolOk v) (h0 : 0 ≤ i) (h1 : 1 ≤ n) (h2 : i + n ≤ v.bl) : Ct Tryz.prog 214 [.pointer (some ⟨p,0,none⟩),.int .i64 i,.int .i64 n] (volG p pb pv v) []
    (fun u G Q => u = .slice (some ⟨pb,(i * v.sz).toNat,none⟩) (seg v.b (i * v.sz).toNat ((i + n) * v.sz).toNat).length (((i + n) * v.sz).toNat - (i * v.sz).toNat) ∧ G = volG p pb pv v ∧ Q = []) := by
 have hb := atB hv.shp h0 h1 h2
 have hs := hv.shp
 have hl := hv.lb
 simp only [shapeOk] at hs
 refine Ct.intro Tryz.func214 rfl rfl rfl (fun c hc => ?_)
 refine GC.rg 1 ?_;refine GC.seq' ?_;refine GC.regionQ wide_ (by kernel_rfl) ?_;refine GQ.rn 5 ?_;refine GQ.step rfl (q_mem (m_load (i := 0) rfl rfl ag_3 rfl)) ?_;refine GQ.step rfl (q_pure (p_mul rfl rfl (w64 (by omega) (by omega)))) ?_
 refine GQ.rn 2 ?_;refine GQ.step rfl (q_pure (p_add rfl rfl (w64 (by omega) (by omega)))) ?_;refine GQ.rn 4 ?_;refine GQ.step rfl (q_mem (m_load (i := 0) rfl rfl ag_3 rfl)) ?_;refine GQ.step rfl (q_pure (p_mul rfl rfl (w64 (by omega) (by omega)))) ?_
 refine GQ.rn 2 ?_
 refine GQ.nil (?_ : GC _ _ _ _)
 refine GC.rr 3 ?_;refine GL.ld_ 0 ?_;refine GL.rn 3 ?_;refine GL.pure rfl (p_cut_lhm rfl rfl rfl rfl Tryz.underlying47 sz_5 (by omega) (by omega) (by omega) (by omega) (seg_length (xs := v.b) (by omega)).symm rfl (slA_blk (by omega))) ?_
 refine GL.rz 1 ?_;refine GC.ret (Fin.b1 6 [0,0,0] [] ?_)
 exact ⟨by rw [Nat.zero_add,Nat.mul_one]; rfl,rfl,rfl⟩
theorem stamp_ct (p pb pv : Nat) (v : Vol) (i n num : Int) (hv : VolOk v) (h0 : 0 ≤ i) (h1 : 1 ≤ n) (h2 : i + n ≤ v.bl) : Ct Tryz.prog 215 [.pointer (some ⟨p,0,none⟩),.int .i64 i,.int .i64 n,.int .i64 num] (volG p pb pv v) []
    (fun u G Q => u = .tuple #[] ∧ G = volG p pb pv { v with vs := laid v.vs i.toNat (List.replicate n.toNat num) } ∧ Q = []) := by
 have hs := hv.shp
 have hl := hv.lv
 simp only [shapeOk] at hs
 refine Ct.intro Tryz.func215 rfl rfl rfl (fun c hc => ?_)
 refine GC.rg 2 ?_;refine GC.block ?_;refine GC.imp (fun a w h => (⟨by simp; omega,by rw [List.replicate_zero,laid_nil]; exact h.ct [0,0,0] []⟩ : (fun (k : Nat) (a : Act) (w : World) => (k : Int) ≤ n ∧ St c 23 [(0,.pointer (some ⟨p,0,none⟩)),(1,.int .i64 i),(3,.int .i64 num),(9,.int .i64 n),(10,.int .i64 (k : Int))] [.cells p [.int .i64 v.bl,.int .i64 v.sz,.slice (some ⟨pb,0,none⟩) (v.bl * v.sz).toNat (v.bl * v.sz).toNat,.slice (some ⟨pv,0,none⟩) v.bl.toNat v.bl.toNat,.int .i64 v.last] 287,.cells pb (v.b.map u8v) 5,.cells pv ((laid v.vs i.toNat (List.replicate k num)).map (Value.int .i64)) 3] [] a w) 0 a w)) (GC.loop (fun (k : Nat) (a : Act) (w : World) => (k : Int) ≤ n ∧ St c 23 [(0,.pointer (some ⟨p,0,none⟩)),(1,.int .i64 i),(3,.int .i64 num),(9,.int .i64 n),(10,.int .i64 (k : Int))] [.cells p [.int .i64 v.bl,.int .i64 v.sz,.slice (some ⟨pb,0,none⟩) (v.bl * v.sz).toNat (v.bl * v.sz).toNat,.slice (some ⟨pv,0,none⟩) v.bl.toNat v.bl.toNat,.int .i64 v.last] 287,.cells pb (v.b.map u8v) 5,.cells pv ((laid v.vs i.toNat (List.replicate k num)).map (Value.int .i64)) 3] [] a w) (fun k => n.toNat - k) 0 ?_)
 intro k
 refine GC.and fun hk => ?_;refine GC.rg 1 ?_;refine GC.seq' ?_;refine GC.co ?_ ?_
 ·intro h1; try simp only [tst_] at h1
  refine GC.skip (?_ : GC _ _ _ _)
  refine GC.seq' ?_;refine GC.block ?_;refine GC.rg 2 ?_;refine GC.region ?_;refine GL.rn 3 ?_;refine GL.ld_ 0 ?_;refine GL.rn 2 ?_;refine GL.pure rfl (p_add rfl rfl (w64 (by (first | omega | (rw [laid_length (by simp; omega)]; omega))) (by (first | omega | (rw [laid_length (by simp; omega)]; omega))))) ?_
  refine GL.rn 1 ?_;refine GL.pure rfl (p_indexB rfl rfl Tryz.underlying53 sz_3 (by (first | omega | (rw [laid_length (by simp; omega)]; omega))) (by (first | omega | (rw [laid_length (by simp; omega)]; omega)))) ?_
  refine GL.step rfl (t_store (i := 2) rfl rfl rfl rfl sz_3 rfl (upd_map _ (by (first | omega | (rw [laid_length (by simp; omega)]; omega))) (by (first | omega | (rw [laid_length (by simp; omega)]; omega)))) rfl) ?_
  refine GL.nil (?_ : GC _ _ _ _)
  refine GC.region ?_;refine GL.pure rfl (p_add rfl rfl (w64 (by (first | omega | (rw [laid_length (by simp; omega)]; omega))) (by (first | omega | (rw [laid_length (by simp; omega)]; omega))))) ?_
  refine GL.rn 1 ?_;refine GL.nil ?_
  exact fun a w h => ⟨(k + 1),(by omega),(by omega),by rw [← laid_step (by omega),show i.toNat + k = (i + (k : Int)).toNat by omega]; exact h.ct [0,0,0] []⟩
 intro h1; try simp only [tst_] at h1
 refine GC.exit ?_
 refine fun a w h => Fin.back0 rfl (is := [0,0,0]) (js := []) rfl rfl ?_ h
 clear h
 obtain rfl : n.toNat = k := by omega
 exact ⟨rfl,rfl,rfl⟩
theorem new_bad (bl sz : Int) (h : ¬ shapeOk bl sz) : Ct Tryz.prog 190 [shpV bl sz] [] [] (fun v G Q => v = .tuple #[.pointer none,.int .i64 40] ∧ G = [] ∧ Q = []) := by
 have he : shapeE bl sz = 40 := by simp [shapeE,h]
 refine Ct.intro Tryz.func190 rfl rfl rfl (fun c hc => ?_)
 refine GC.sr_ ?_;refine GL.step rfl (t_box rfl rfl rfl) (GL.ex fun b_t1 => ?_);refine GL.rz 2 ?_;refine GC.seq' ?_;refine GC.sr_ ?_;refine GL.ln_ 0 2 ?_;refine GL.cl Tryz.call211 [] [] rfl rfl rfl (by exact shape_eq _ _ _ he) ?_
 rintro _ _ _ ⟨rfl,rfl,rfl⟩
 refine GL.rz 1 ?_;refine GC.rg 2 ?_;refine GC.cond_true rfl ?_;refine GC.rg 3 ?_;refine GC.ret (Fin.b2 2 3 [] [] ?_)
 exact ⟨rfl,rfl,rfl⟩
theorem new_ok (bl sz : Int) (h : shapeOk bl sz) : Ct Tryz.prog 190 [shpV bl sz] [] [] (fun v G Q => ∃ p pb pv,v = .tuple #[.pointer (some ⟨p,0,none⟩),.int .i64 0] ∧ G = volG p pb pv (newV bl sz) ∧ Q = []) := by
 have he : shapeE bl sz = 0 := by simp [shapeE,h]
 have hm := mulS h
 have hs := h
 simp only [shapeOk] at hs
 refine Ct.intro Tryz.func190 rfl rfl rfl (fun c hc => ?_)
 refine GC.sr_ ?_;refine GL.step rfl (t_box rfl rfl rfl) (GL.ex fun b_t1 => ?_);refine GL.rz 2 ?_;refine GC.seq' ?_;refine GC.sr_ ?_;refine GL.ln_ 0 2 ?_;refine GL.cl Tryz.call211 [] [] rfl rfl rfl (by exact shape_eq _ _ _ he) ?_
 rintro _ _ _ ⟨rfl,rfl,rfl⟩
 refine GL.rz 1 ?_;refine GC.rg 2 ?_;refine GC.cond_false rfl ?_
 refine GC.skip (?_ : GC _ _ _ _)
 refine GC.seq' ?_;refine GC.regionM (m := 14) (M := fun a w => ∃ p : Nat,∃ pb : Nat,∃ pv : Nat,St c 22 [(2,.pointer (some ⟨p,0,none⟩)),(3,.int .i64 0)] [.cells p [.int .i64 bl,.int .i64 sz,.slice (some ⟨pb,0,none⟩) (bl * sz).toNat (bl * sz).toNat,.slice (some ⟨pv,0,none⟩) bl.toNat bl.toNat,.int .i64 0] 287,.cells pb ((List.replicate (bl * sz).toNat 0).map u8v) 5,.cells pv ((List.replicate bl.toNat 0).map (Value.int .i64)) 3] [] a w) (is := [0]) (js := []) wide_ rfl rfl rfl ?_ ?_
 ·refine GA.tp 0 rfl [0] [] (i_mem (m_loadN (i := 0) rfl rfl ag_57 (vs := [_,_]) sz_57 ⟨rfl,rfl,trivial⟩)) ?_;refine GA.tk 1 [0] [] ?_;refine GA.tp 2 rfl [0] [] (i_mem (m_load (i := 0) rfl rfl ag_3 rfl)) ?_;refine GA.tk 3 [0] [] ?_
  refine GA.tp 4 rfl [0] [] (i_mem (m_load (i := 0) rfl rfl ag_3 rfl)) ?_;refine GA.tp 5 rfl [0] [] (i_pure (p_mul rfl rfl (w64 (by omega) (by omega)))) ?_;refine GA.tk 7 [0] [] ?_;refine GA.tp 8 rfl [0] [] (i_mem (m_load (i := 0) rfl rfl ag_3 rfl)) ?_
  refine GA.al [6,9] ?_
  refine GAs.cons (i := 6) rfl rfl (t_make rfl el_47 rfl rfl (by omega) (by omega)) (by rintro a w ⟨_,h⟩; exact h.me [1] []) (GA.ex fun b_t16 => ?_) ?_
  ·rw [reps_u8]
   refine GA.al [9] ?_
   refine GAs.cons (i := 9) rfl rfl (t_make rfl el_53 rfl rfl (by omega) (by omega)) (by rintro a w ⟨_,h⟩; exact h.me [2] []) (GA.ex fun b_t19 => ?_) GAs.nil
   rw [reps_i64]
   refine GA.tp 10 rfl [2] [] (i_pure (p_build ze_287 of_287 rfl rfl)) ?_;refine GA.al [11] ?_
   refine GAs.cons (i := 11) rfl rfl (t_box rfl rfl rfl) (by rintro a w ⟨_,h⟩; exact h.me [3] []) (GA.ex fun b_t21 => ?_) GAs.nil
   refine GA.tk 12 [3] [] ?_;refine GA.tk 13 [3] [] ?_
   exact GA.done (by kernel_rfl) (fun a w h => ⟨b_t21,b_t16,b_t19,h.ct [0,1,0] []⟩)
  refine GAs.cons (i := 9) rfl rfl (t_make rfl el_53 rfl rfl (by omega) (by omega)) (by rintro a w ⟨_,h⟩; exact h.me [1] []) (GA.ex fun b_t19 => ?_) GAs.nil
  rw [reps_i64]
  refine GA.al [6] ?_
  refine GAs.cons (i := 6) rfl rfl (t_make rfl el_47 rfl rfl (by omega) (by omega)) (by rintro a w ⟨_,h⟩; exact h.me [2] []) (GA.ex fun b_t16 => ?_) GAs.nil
  rw [reps_u8]
  refine GA.tp 10 rfl [2] [] (i_pure (p_build ze_287 of_287 rfl rfl)) ?_;refine GA.al [11] ?_
  refine GAs.cons (i := 11) rfl rfl (t_box rfl rfl rfl) (by rintro a w ⟨_,h⟩; exact h.me [3] []) (GA.ex fun b_t21 => ?_) GAs.nil
  refine GA.tk 12 [3] [] ?_;refine GA.tk 13 [3] [] ?_
  exact GA.done (by kernel_rfl) (fun a w h => ⟨b_t21,b_t16,b_t19,h.ct [0,0,0] []⟩)
 refine (?_ : GC _ _ _ _)
 refine GC.ex fun p => GC.ex fun pb => GC.ex fun pv => ?_;refine GC.ret (Fin.b2 2 3 [0,0,0] [] ?_)
 exact ⟨p,pb,pv,rfl,rfl,rfl⟩
def pc (v : Vol) (a n : Int) : List UInt8 := seg v.b (a * v.sz).toNat ((a + n) * v.sz).toNat
theorem VolOk.last' {v : Vol} (h : VolOk v) {num : Int} (h0 : 0 ≤ num) (h1 : num ≤ 4611686018427387904) : VolOk { v with last := num } := ⟨h.shp,h.lb,h.lv,h.ver,h0,h1⟩
theorem VolOk.setb {v : Vol} (h : VolOk v) {o : Nat} {ys : List UInt8} (hf : o + ys.length ≤ v.b.length) : VolOk { v with b := laid v.b o ys } := ⟨h.shp,by rw [laid_length hf]; exact h.lb,h.lv,h.ver,h.last⟩
theorem mem_laid {α : Type} {xs ys : List α} {o : Nat} {x : α} (h : x ∈ laid xs o ys) : x ∈ xs ∨ x ∈ ys := by
  unfold laid at h
  simp only [List.mem_append] at h
  rcases h with (h | h) | h
  · exact .inl (List.mem_of_mem_take h)
  · exact .inr h
  · exact .inl (List.mem_of_mem_drop h)
theorem VolOk.setv {v : Vol} (h : VolOk v) {o k : Nat} {num : Int} (hf : o + k ≤ v.vs.length) (h0 : 0 ≤ num) (h1 : num ≤ 4611686018427387904) : VolOk { v with vs := laid v.vs o (List.replicate k num) } :=
  ⟨h.shp,h.lb,by rw [laid_length (by simpa using hf)]; exact h.lv,fun x hx => by
    rcases mem_laid hx with hx | hx
    · exact h.ver x hx
    · rw [List.eq_of_mem_replicate hx]; exact ⟨h0,h1⟩,h.last⟩
abbrev resV (r : Res) (A : Option Addr) (cp : Nat) (e : Int) : Value := .tuple #[.agg #[.int .u8 r.code,.slice A r.data.length cp],.int .i64 e]
def badP (bl sz last : Int) (p : Page) : Prop := p.at_ ≤ last ∨ bl ≤ p.at_ ∨ p.ver < 1 ∨ 4611686018427387904 < p.ver ∨ (p.data.length : Int) ≠ sz
instance (bl sz last : Int) (p : Page) : Decidable (badP bl sz last p) := by unfold badP; infer_instance
def laidF (bl sz : Int) : Int → List Page → Bool
  | _,[] => true
  | last,p :: r => if badP bl sz last p then false else laidF bl sz p.at_ r
theorem drop_gt {α : Type} [Inhabited α] {l : List α} {k : Nat} (h : k < l.length) : l.drop k = gt l (k : Int) :: l.drop (k + 1) := by
  have := gt_ok (xs := l) (i := (k : Int)) (by omega) (by omega)
  rw [List.drop_eq_getElem_cons h]
  congr 1
  have h2 : l[k]? = some l[k] := List.getElem?_eq_getElem h
  simp only [Int.toNat_natCast] at this
  rw [h2] at this
  exact Option.some.inj this
theorem laidF_bad {bl sz last : Int} {l : List Page} {k : Nat} (h : k < l.length) (hb : badP bl sz last (gt l (k : Int))) : laidF bl sz last (l.drop k) = false := by rw [drop_gt h,laidF,if_pos hb]
theorem laidF_ok {bl sz last : Int} {l : List Page} {k : Nat} (h : k < l.length) (hb : ¬ badP bl sz last (gt l (k : Int))) : laidF bl sz last (l.drop k) = laidF bl sz (gt l (k : Int)).at_ (l.drop (k + 1)) := by rw [drop_gt h,laidF,if_neg hb]
theorem laidF_end {bl sz last : Int} {l : List Page} {k : Nat} (h : l.length ≤ k) : laidF bl sz last (l.drop k) = true := by rw [List.drop_of_length_le h]; rfl
abbrev pageV (pg : Page) (A : Option Addr) (cp : Nat) : Value := .agg #[.int .i64 pg.at_,.int .i64 pg.ver,.slice A pg.data.length cp]
abbrev capG (q wb p : Nat) (last : Int) : List Own := [.cells q [.int .i64 last] 3,.cells wb [.pointer (some ⟨p,0,none⟩)] 219]
theorem zq5_ {X : Prop} (h : X := by (refine ⟨congrArg Value.bool ?_,rfl,rfl⟩; first | exact decide_eq_decide.2 (by unfold badP; omega) | exact (decide_eq_true (by unfold badP; omega)).symm | exact (decide_eq_false (by unfold badP; omega)).symm)) : X := h
theorem laidc_ct (q wb p pb pv : Nat) (v : Vol) (last : Int) (pg : Page) (A : Option Addr) (cp : Nat) : Ct Tryz.prog 226 [pageV pg A cp,.pointer (some ⟨q,0,none⟩),.pointer (some ⟨wb,0,none⟩)] (capG q wb p last ++ volG p pb pv v) []
    (fun u G Q => u = .bool (decide (badP v.bl v.sz last pg)) ∧ G = capG q wb p pg.at_ ++ volG p pb pv v ∧ Q = []) := by
 refine Ct.intro Tryz.func226 rfl rfl rfl (fun c hc => ?_)
 refine GC.sr_ ?_;refine GL.step rfl (t_box rfl rfl rfl) (GL.ex fun b_t3 => ?_);refine GL.rz 1 ?_;refine GC.seq' ?_;refine GC.regionQ wide_ (by kernel_rfl) ?_;refine GQ.rn 1 ?_;refine GQ.step rfl (q_mem (m_load (i := 0) rfl rfl ag_3 rfl)) ?_
 refine GQ.step rfl (q_mem (m_load (i := 1) rfl rfl ag_3 rfl)) ?_;refine GQ.rn 2 ?_;refine GQ.split (i := 10) rfl (fun h1 => ?_) (fun h1 => ?_)
 ·try simp only [tst_] at h1
  refine GQ.rn 31 ?_
  refine GQ.nil (?_ : GC _ _ _ _)
  refine GC.rr 1 ?_;refine GL.ld_ 0 ?_;refine GL.so_ 1 ?_;refine GL.nr 2 ?_;refine GL.nl_ ?_;refine GC.ret (Fin.b1 4 [1,1,1,1,1] [] ?_)
  exact zq5_
 try simp only [tst_] at h1
 refine GQ.rn 1 ?_;refine GQ.stepG (s := 10) rfl rfl rfl (q_mem (m_load (i := 0) rfl rfl ag_3 rfl)) ?_;refine GQ.stepG (s := 10) rfl rfl rfl (q_mem (m_load (i := 2) rfl rfl ag_219 rfl)) ?_;refine GQ.rn 3 ?_;refine GQ.stepG (s := 10) rfl rfl rfl (q_mem (m_load (i := 3) rfl rfl ag_3 rfl)) ?_
 refine GQ.rn 3 ?_;refine GQ.split (i := 20) rfl (fun h2 => ?_) (fun h2 => ?_)
 ·try simp only [tst_] at h2
  refine GQ.rn 21 ?_
  refine GQ.nil (?_ : GC _ _ _ _)
  refine GC.rr 1 ?_;refine GL.ld_ 0 ?_;refine GL.so_ 1 ?_;refine GL.nr 2 ?_;refine GL.nl_ ?_;refine GC.ret (Fin.b1 4 [1,1,1,1,1] [] ?_)
  exact zq5_
 try simp only [tst_] at h2
 refine GQ.rn 1 ?_;refine GQ.stepG (s := 20) rfl rfl rfl (q_mem (m_load (i := 0) rfl rfl ag_3 rfl)) ?_;refine GQ.rn 3 ?_;refine GQ.split (i := 25) rfl (fun h3 => ?_) (fun h3 => ?_)
 ·try simp only [tst_] at h3
  refine GQ.rn 16 ?_
  refine GQ.nil (?_ : GC _ _ _ _)
  refine GC.rr 1 ?_;refine GL.ld_ 0 ?_;refine GL.so_ 1 ?_;refine GL.nr 2 ?_;refine GL.nl_ ?_;refine GC.ret (Fin.b1 4 [1,1,1,1,1] [] ?_)
  exact zq5_
 try simp only [tst_] at h3
 refine GQ.rn 1 ?_;refine GQ.stepG (s := 25) rfl rfl rfl (q_mem (m_load (i := 0) rfl rfl ag_3 rfl)) ?_;refine GQ.rn 3 ?_;refine GQ.split (i := 30) rfl (fun h4 => ?_) (fun h4 => ?_)
 ·try simp only [tst_] at h4
  refine GQ.rn 11 ?_
  refine GQ.nil (?_ : GC _ _ _ _)
  refine GC.rr 1 ?_;refine GL.ld_ 0 ?_;refine GL.so_ 1 ?_;refine GL.nr 2 ?_;refine GL.nl_ ?_;refine GC.ret (Fin.b1 4 [1,1,1,1,1] [] ?_)
  exact zq5_
 try simp only [tst_] at h4
 refine GQ.rn 1 ?_;refine GQ.stepG (s := 30) rfl rfl rfl (q_mem (m_load (i := 0) rfl rfl ag_47 rfl)) ?_;refine GQ.rn 1 ?_;refine GQ.stepG (s := 30) rfl rfl rfl (q_mem (m_load (i := 2) rfl rfl ag_219 rfl)) ?_;refine GQ.rn 3 ?_
 refine GQ.stepG (s := 30) rfl rfl rfl (q_mem (m_load (i := 3) rfl rfl ag_3 rfl)) ?_;refine GQ.rn 3 ?_
 refine GQ.nil (?_ : GC _ _ _ _)
 refine GC.rr 1 ?_;refine GL.ld_ 0 ?_;refine GL.so_ 1 ?_;refine GL.nr 2 ?_;refine GL.nl_ ?_;refine GC.ret (Fin.b1 4 [1,1,1,1,1] [] ?_)
 exact zq5_
theorem index_ct (q wb p pb pv : Nat) (v : Vol) (A : Option Addr) (l : List Page) (cp : Nat) (hl : l.length ≤ 140737488355328) : Ct Tryz.prog 194 [.slice A l.length cp,.func (.func 226) #[] #[.pointer (some ⟨q,0,none⟩),.pointer (some ⟨wb,0,none⟩)]] (capG q wb p (-1) ++ volG p pb pv v) [Pers.row kPage A l]
    (fun u G Q => ∃ r la,(0 ≤ r ↔ laidF v.bl v.sz (-1) l = false) ∧ u = .int .i64 r ∧ G = capG q wb p la ++ volG p pb pv v ∧ Q = []) := by
 refine Ct.intro Tryz.func194 rfl rfl rfl (fun c hc => ?_)
 refine GC.rg 1 ?_;refine GC.seq' ?_;refine GC.rg 3 ?_;refine GC.block ?_;refine GC.imp (fun a w h => (⟨⟨by simp,rfl⟩,h.ct (zs 5) [0]⟩ : (fun (y : Nat × Int) (a : Act) (w : World) => (y.1 ≤ l.length ∧ laidF v.bl v.sz (-1) l = laidF v.bl v.sz y.2 (l.drop y.1)) ∧ St c 19 [(0,.slice A l.length cp),(1,.func (.func 226) #[] #[.pointer (some ⟨q,0,none⟩),.pointer (some ⟨wb,0,none⟩)]),(7,.int .i64 (l.length : Int)),(8,.int .i64 (y.1 : Int))] [.cells q [.int .i64 y.2] 3,.cells wb [.pointer (some ⟨p,0,none⟩)] 219,.cells p [.int .i64 v.bl,.int .i64 v.sz,.slice (some ⟨pb,0,none⟩) (v.bl * v.sz).toNat (v.bl * v.sz).toNat,.slice (some ⟨pv,0,none⟩) v.bl.toNat v.bl.toNat,.int .i64 v.last] 287,.cells pb (v.b.map u8v) 5,.cells pv (v.vs.map (Value.int .i64)) 3] [Pers.row kPage A l] a w) (0,-1) a w)) (GC.loop (fun (y : Nat × Int) (a : Act) (w : World) => (y.1 ≤ l.length ∧ laidF v.bl v.sz (-1) l = laidF v.bl v.sz y.2 (l.drop y.1)) ∧ St c 19 [(0,.slice A l.length cp),(1,.func (.func 226) #[] #[.pointer (some ⟨q,0,none⟩),.pointer (some ⟨wb,0,none⟩)]),(7,.int .i64 (l.length : Int)),(8,.int .i64 (y.1 : Int))] [.cells q [.int .i64 y.2] 3,.cells wb [.pointer (some ⟨p,0,none⟩)] 219,.cells p [.int .i64 v.bl,.int .i64 v.sz,.slice (some ⟨pb,0,none⟩) (v.bl * v.sz).toNat (v.bl * v.sz).toNat,.slice (some ⟨pv,0,none⟩) v.bl.toNat v.bl.toNat,.int .i64 v.last] 287,.cells pb (v.b.map u8v) 5,.cells pv (v.vs.map (Value.int .i64)) 3] [Pers.row kPage A l] a w) (fun y => l.length - y.1) (0,-1) ?_)
 intro y
 refine GC.and fun hk => ?_
 obtain ⟨k,last⟩ := y
 dsimp only at hk ⊢
 obtain ⟨hk,he⟩ := hk
 refine GC.rg 1 ?_;refine GC.seq' ?_;refine GC.co ?_ ?_
 ·intro h1; try simp only [tst_] at h1
  refine GC.skip (?_ : GC _ _ _ _)
  refine GC.seq' ?_;refine GC.block ?_;refine GC.rg 2 ?_;refine GC.rr 3 ?_;refine GL.step rfl (t_index (i := 0) rfl rfl rfl rfl Tryz.underlying58 sz_164 (by omega) (gt_ok (by omega) (by omega))) (GL.ex fun p_x14 => GL.ex fun r_x14 => GL.and fun ok_x14 => ?_)
  rcases r_x14 with ⟨_,⟨_,⟨Ax14_0,cpx14_0⟩⟩⟩
  refine GL.step rfl (t_mem rfl (m_loadPN (i := 0) rfl rfl ag_164 (vs := [_,_,_]) sz_164 ⟨rfl,rfl,rfl,trivial⟩)) ?_;refine GL.step rfl (t_callv rfl Tryz.call226 rfl rfl (is := (zs 5)) (js := []) rfl rfl (by exact laidc_ct _ _ _ _ _ _ _ (gt l (k : Int)) _ _)) (GL.ret ?_)
  rintro _ _ _ ⟨rfl,rfl,rfl⟩
  refine GL.nl_ ?_;refine GC.co ?_ ?_
  ·intro h2; try simp only [tst_] at h2
   refine GC.rg 2 ?_;refine GC.ret (Fin.b1 4 (zs 5) [] ?_)
   exact ⟨_,_,⟨fun _ => by rw [he]; exact laidF_bad (by omega) (by simpa using h2),fun _ => by omega⟩,rfl,rfl,rfl⟩
  intro h2; try simp only [tst_] at h2
  refine GC.skip (?_ : GC _ _ _ _)
  refine GC.region ?_;refine GL.pure rfl (p_add rfl rfl (w64 (by omega) (by omega))) ?_;refine GL.rn 1 ?_;refine GL.nil ?_
  exact fun a w h => ⟨(k + 1,(gt l (k : Int)).at_),(by simp only; omega),⟨by simp only; omega,by simp only; rw [he]; exact laidF_ok (by omega) (by simpa using h2)⟩,h.ct (zs 5) [2]⟩
 intro h1; try simp only [tst_] at h1
 refine GC.exit (?_ : GC _ _ _ _)
 refine GC.rg 1 ?_;refine GC.ret (Fin.b1 4 (zs 5) [] ?_)
 exact ⟨_,_,⟨fun g => by omega,fun g => by rw [he,laidF_end (by omega)] at g; cases g⟩,rfl,rfl,rfl⟩
theorem contains_ct (q wb p pb pv : Nat) (v : Vol) (A : Option Addr) (l : List Page) (cp : Nat) (hl : l.length ≤ 140737488355328) : Ct Tryz.prog 153 [.slice A l.length cp,.func (.func 226) #[] #[.pointer (some ⟨q,0,none⟩),.pointer (some ⟨wb,0,none⟩)]] (capG q wb p (-1) ++ volG p pb pv v) [Pers.row kPage A l]
    (fun u G Q => ∃ la,u = .bool (!laidF v.bl v.sz (-1) l) ∧ G = capG q wb p la ++ volG p pb pv v ∧ Q = []) := by
 refine Ct.intro Tryz.func153 rfl rfl rfl (fun c hc => ?_)
 refine GC.rg 1 ?_;refine GC.rr 2 ?_;refine GL.cl Tryz.call194 (zs 5) [0] rfl rfl rfl (by exact index_ct _ _ _ _ _ v _ _ _ hl) ?_
 rintro _ _ _ ⟨r7,la7,hr7,rfl,rfl,rfl⟩
 refine GL.rz 2 ?_;refine GC.ret (Fin.b1 4 (zs 5) [] ?_)
 refine ⟨_,congrArg Value.bool ?_,rfl,rfl⟩
 cases hb : laidF v.bl v.sz (-1) l
 ·exact decide_eq_true (hr7.2 hb)
 exact decide_eq_false (fun g => by have := hr7.1 g; rw [hb] at this; cases this)
theorem laid_ct (p pb pv : Nat) (v : Vol) (A : Option Addr) (l : List Page) (cp : Nat) (hl : l.length ≤ 140737488355328) : Ct Tryz.prog 213 [.pointer (some ⟨p,0,none⟩),.slice A l.length cp] (volG p pb pv v) [Pers.row kPage A l]
    (fun u G Q => u = .bool (laidF v.bl v.sz (-1) l) ∧ G = volG p pb pv v ∧ Q = []) := by
 refine Ct.intro Tryz.func213 rfl rfl rfl (fun c hc => ?_)
 refine GC.sr_ ?_;refine GL.step rfl (t_box rfl rfl rfl) (GL.ex fun b_t2 => ?_);refine GL.rz 1 ?_;refine GC.sr_ ?_;refine GL.step rfl (t_alloc rfl ze_3) (GL.ex fun b_t5 => ?_);refine GL.so_ 0 ?_;refine GL.nr 1 ?_;refine GL.pure rfl (p_makeFunc rfl rfl) ?_
 refine GL.cl Tryz.call153 (zs 5) [0] rfl rfl rfl (by exact contains_ct _ _ _ _ _ v _ _ _ hl) ?_
 rintro _ _ _ ⟨la8,rfl,rfl,rfl⟩
 refine GL.rz 2 ?_;refine GC.ret (Fin.b1 4 [2,2,2] [] ?_)
 exact ⟨by rw [Bool.not_not]; rfl,rfl,rfl⟩
def put1 (v : Vol) (p : Page) : Vol := { v with b := laid v.b (p.at_ * v.sz).toNat p.data,vs := laid v.vs p.at_.toNat [p.ver],last := max v.last p.ver }
def putF (v : Vol) : List Page → Vol
  | [] => v
  | p :: r => putF (put1 v p) r
def patchF (v : Vol) (l : List Page) : Int × Vol := if laidF v.bl v.sz (-1) l = true then (0,putF v l) else (50,v)
def pageOk (bl sz : Int) (p : Page) : Prop := 0 ≤ p.at_ ∧ p.at_ < bl ∧ 1 ≤ p.ver ∧ p.ver ≤ 4611686018427387904 ∧ (p.data.length : Int) = sz
theorem laidF_all {bl sz : Int} : ∀ {l : List Page} {last : Int},laidF bl sz last l = true → -1 ≤ last → ∀ p ∈ l,pageOk bl sz p
  | [],_,_,_,p,hp => by cases hp
  | q :: r,last,h,hl,p,hp => by
    rw [laidF] at h
    split at h
    · cases h
    · rename_i hb
      simp only [badP] at hb
      rcases List.mem_cons.1 hp with rfl | hp
      · simp only [pageOk]; omega
      · exact laidF_all h (by omega) p hp
theorem put1_ok {v : Vol} (h : VolOk v) {p : Page} (hp : pageOk v.bl v.sz p) : VolOk (put1 v p) := by
  obtain ⟨h0,h1,h2,h3,h4⟩ := hp
  have hB := atB h.shp h0 (n := 1) (by omega) (by omega)
  have e1 : (p.at_ + 1) * v.sz = p.at_ * v.sz + v.sz := by rw [Int.add_mul,Int.one_mul]
  have hl := h.lb
  have hv := h.lv
  have hla := h.last
  exact (((h.last' (num := max v.last p.ver) (by omega) (by omega)).setb (o := (p.at_ * v.sz).toNat) (ys := p.data) (by show _ ≤ v.b.length; omega)).setv (o := p.at_.toNat) (k := 1) (num := p.ver) (by show _ ≤ v.vs.length; omega) (by omega) h3)
theorem gt_mem {α : Type} [Inhabited α] {l : List α} {k : Nat} (h : k < l.length) : gt l (k : Int) ∈ l := by
  have := gt_ok (xs := l) (i := (k : Int)) (by omega) (by omega)
  exact List.mem_of_getElem? this
theorem putF_step {v u : Vol} {l : List Page} {k : Nat} (hk : k < l.length) (h : putF v l = putF u (l.drop k)) : putF v l = putF (put1 u (gt l (k : Int))) (l.drop (k + 1)) := by
  rw [h,drop_gt hk]; rfl
theorem patch_ct (p pb pv : Nat) (v : Vol) (A : Option Addr) (l : List Page) (cp : Nat) (hv : VolOk v) (hl : l.length ≤ 140737488355328) : Ct Tryz.prog 191 [.pointer (some ⟨p,0,none⟩),.slice A l.length cp] (volG p pb pv v) [Pers.row kPage A l]
    (fun u G Q => u = .int .i64 (patchF v l).1 ∧ G = volG p pb pv (patchF v l).2 ∧ Q = []) := by
 refine Ct.intro Tryz.func191 rfl rfl rfl (fun c hc => ?_)
 refine GC.rg 1 ?_;refine GC.seq' ?_;refine GC.rr 1 ?_;refine GL.cl Tryz.call212 [0,0,0] [] rfl rfl rfl (by exact made_ct _ _ _ v) ?_
 rintro _ _ _ ⟨rfl,rfl,rfl⟩
 refine GL.rz 1 ?_;refine GC.cond_false rfl ?_
 refine GC.skip (?_ : GC _ _ _ _)
 refine GC.seq' ?_;refine GC.rr 2 ?_;refine GL.cl Tryz.call213 [0,0,0] [0] rfl rfl rfl (by exact laid_ct _ _ _ v _ _ _ hl) ?_
 rintro _ _ _ ⟨rfl,rfl,rfl⟩
 refine GL.rz 1 ?_;refine GC.co ?_ ?_
 ·intro h1; try simp only [tst_] at h1
  refine GC.rg 1 ?_;refine GC.ret (Fin.b1 4 [0,0,0] [] ?_)
  have e : patchF v l = (50,v) := by simp [patchF,h1]
  rw [e]; exact ⟨rfl,rfl,rfl⟩
 intro h1; try simp only [tst_] at h1
 refine GC.skip (?_ : GC _ _ _ _)
 refine GC.seq' ?_;refine GC.sr_ ?_
 have hall := laidF_all h1 (by omega)
 refine GL.rz 3 ?_;refine GC.block ?_;refine GC.imp (fun a w h => (⟨⟨by simp,rfl,hv,rfl,rfl⟩,h.ct [0,0,0] [0]⟩ : (fun (y : Nat × Vol) (a : Act) (w : World) => (y.1 ≤ l.length ∧ putF v l = putF y.2 (l.drop y.1) ∧ VolOk y.2 ∧ y.2.bl = v.bl ∧ y.2.sz = v.sz) ∧ St c 44 [(0,.pointer (some ⟨p,0,none⟩)),(14,.slice A l.length cp),(15,.int .i64 (l.length : Int)),(16,.int .i64 (y.1 : Int))] [.cells p [.int .i64 y.2.bl,.int .i64 y.2.sz,.slice (some ⟨pb,0,none⟩) (y.2.bl * y.2.sz).toNat (y.2.bl * y.2.sz).toNat,.slice (some ⟨pv,0,none⟩) y.2.bl.toNat y.2.bl.toNat,.int .i64 y.2.last] 287,.cells pb (y.2.b.map u8v) 5,.cells pv (y.2.vs.map (Value.int .i64)) 3] [Pers.row kPage A l] a w) (0,v) a w)) (GC.loop (fun (y : Nat × Vol) (a : Act) (w : World) => (y.1 ≤ l.length ∧ putF v l = putF y.2 (l.drop y.1) ∧ VolOk y.2 ∧ y.2.bl = v.bl ∧ y.2.sz = v.sz) ∧ St c 44 [(0,.pointer (some ⟨p,0,none⟩)),(14,.slice A l.length cp),(15,.int .i64 (l.length : Int)),(16,.int .i64 (y.1 : Int))] [.cells p [.int .i64 y.2.bl,.int .i64 y.2.sz,.slice (some ⟨pb,0,none⟩) (y.2.bl * y.2.sz).toNat (y.2.bl * y.2.sz).toNat,.slice (some ⟨pv,0,none⟩) y.2.bl.toNat y.2.bl.toNat,.int .i64 y.2.last] 287,.cells pb (y.2.b.map u8v) 5,.cells pv (y.2.vs.map (Value.int .i64)) 3] [Pers.row kPage A l] a w) (fun y => l.length - y.1) (0,v) ?_)
 intro y
 refine GC.and fun hk => ?_
 obtain ⟨k,u⟩ := y
 dsimp only at hk ⊢
 obtain ⟨hk,hput,hu,hbl,hsz⟩ := hk
 refine GC.rg 1 ?_;refine GC.seq' ?_;refine GC.co ?_ ?_
 ·intro h2; try simp only [tst_] at h2
  refine GC.skip (?_ : GC _ _ _ _)
  refine GC.seq' ?_;refine GC.block ?_;refine GC.sr_ ?_
  have hp := hall _ (gt_mem (l := l) (k := k) (by omega))
  rw [← hbl,← hsz] at hp
  have hp2 := hp
  obtain ⟨q0,q1,q2,q3,q4⟩ := hp
  have hB := atB hu.shp q0 (n := 1) (by omega) (by omega)
  have e1 : ((gt l (k : Int)).at_ + 1) * u.sz = (gt l (k : Int)).at_ * u.sz + u.sz := by rw [Int.add_mul,Int.one_mul]
  have hlb := hu.lb
  have hsh := hu.shp
  simp only [shapeOk] at hsh
  have hv2 := hu.setb (o := ((gt l (k : Int)).at_ * u.sz).toNat) (ys := (gt l (k : Int)).data) (by omega)
  refine GL.step rfl (t_index (i := 0) rfl rfl rfl rfl Tryz.underlying58 sz_164 (by (first | omega | (rw [seg_length (by omega)]; omega) | (dsimp only; rw [seg_length (by omega)]; omega) | (dsimp only; omega))) (gt_ok (by (first | omega | (rw [seg_length (by omega)]; omega) | (dsimp only; rw [seg_length (by omega)]; omega) | (dsimp only; omega))) (by (first | omega | (rw [seg_length (by omega)]; omega) | (dsimp only; rw [seg_length (by omega)]; omega) | (dsimp only; omega))))) (GL.ex fun p_x18 => GL.ex fun r_x18 => GL.and fun ok_x18 => ?_)
  rcases r_x18 with ⟨_,⟨_,⟨Ax18_0,cpx18_0⟩⟩⟩
  refine GL.step rfl (t_mem rfl (m_loadPN (i := 0) rfl rfl ag_164 (vs := [_,_,_]) sz_164 ⟨rfl,rfl,rfl,trivial⟩)) ?_;refine GL.step rfl (t_alloc rfl ze_164) (GL.ex fun b_t6 => ?_);refine GL.sn_ 0 ?_;refine GL.nl_ ?_
  refine GC.seq' ?_;refine GC.regionM (m := 7) (M := fun a w => St c 44 [(0,.pointer (some ⟨p,0,none⟩)),(6,.pointer (some ⟨b_t6,0,none⟩)),(14,.slice A l.length cp),(15,.int .i64 (l.length : Int)),(16,.int .i64 (k : Int))] [.cells p [.int .i64 u.bl,.int .i64 u.sz,.slice (some ⟨pb,0,none⟩) (u.bl * u.sz).toNat (u.bl * u.sz).toNat,.slice (some ⟨pv,0,none⟩) u.bl.toNat u.bl.toNat,.int .i64 u.last] 287,.cells pb ((laid u.b ((gt l (k : Int)).at_ * u.sz).toNat (gt l (k : Int)).data).map u8v) 5,.cells pv (u.vs.map (Value.int .i64)) 3,.cells b_t6 [.int .i64 (gt l (k : Int)).at_,.int .i64 (gt l (k : Int)).ver,.slice Ax18_0 (gt l (k : Int)).data.length cpx18_0] 164] [Pers.row kPage A l] a w) (is := [0,0,1]) (js := [0,1,2]) wide_ rfl rfl rfl ?_ ?_
  ·refine GA.tk 0 [0,0,1] [0,1,2] ?_;refine GA.tk 1 [0,0,1] [0,1,2] ?_;refine GA.tp 2 rfl [0,0,1] [0,1,2] (i_mem (m_load (i := 0) rfl rfl ag_3 rfl)) ?_;refine GA.tk 4 [0,0,1] [0,1,2] ?_;refine GA.tp 5 rfl [0,0,1] [0,1,2] (i_mem (m_load (i := 0) rfl rfl ag_47 rfl)) ?_
   refine GA.al [3] ?_
   refine GAs.cons (i := 3) rfl rfl (t_call rfl Tryz.call214 rfl (is := [1,1,1]) (js := []) rfl rfl (by exact at_ct _ _ _ u (gt l (k : Int)).at_ 1 hu (by omega) (by omega) (by omega))) (by rintro a w ⟨_,_,_,⟨rfl,rfl,rfl⟩,h⟩; exact h.me [3,0,1] [0,1,2]) (GA.ret ?_) GAs.nil
   rintro _ _ _ ⟨rfl,rfl,rfl⟩
   refine GA.al [6] ?_
   refine GAs.cons (i := 6) rfl rfl (t_copyB (i := 1) (k := 1) rfl rfl rfl rfl rfl Tryz.underlying47 sz_5 (by (first | omega | (rw [seg_length (by omega)]; omega) | (dsimp only; rw [seg_length (by omega)]; omega) | (dsimp only; omega))) (by simp; (first | omega | (rw [seg_length (by omega)]; omega) | (dsimp only; rw [seg_length (by omega)]; omega) | (dsimp only; omega))) (laid_map _ _ _ _).symm rfl) (by rintro a w h; exact h.me [3,0,1] [0,1,2]) ?_ GAs.nil
   exact GA.done (by kernel_rfl) (fun a w h => h.ct [0,0,0,0] [2])
  refine (?_ : GC _ _ _ _)
  refine GC.rr 2 ?_;refine GL.ld_ 3 ?_;refine GL.rn 1 ?_;refine GL.ld_ 3 ?_;refine GL.cl Tryz.call215 [0,0,0] [] rfl rfl rfl (by exact stamp_ct _ _ _ _ (gt l (k : Int)).at_ 1 (gt l (k : Int)).ver hv2 (by omega) (by omega) (by show _ ≤ u.bl; omega)) ?_
  rintro _ _ _ ⟨rfl,rfl,rfl⟩
  refine GL.nl_ ?_;refine GC.regionM (m := 11) (M := fun a w => St c 44 [(0,.pointer (some ⟨p,0,none⟩)),(14,.slice A l.length cp),(15,.int .i64 (l.length : Int)),(16,.int .i64 (k : Int))] [.cells p [.int .i64 u.bl,.int .i64 u.sz,.slice (some ⟨pb,0,none⟩) (u.bl * u.sz).toNat (u.bl * u.sz).toNat,.slice (some ⟨pv,0,none⟩) u.bl.toNat u.bl.toNat,.int .i64 (max u.last (gt l (k : Int)).ver)] 287,.cells pb ((laid u.b ((gt l (k : Int)).at_ * u.sz).toNat (gt l (k : Int)).data).map u8v) 5,.cells pv ((laid u.vs (gt l (k : Int)).at_.toNat [(gt l (k : Int)).ver]).map (Value.int .i64)) 3] [Pers.row kPage A l] a w) (is := [1,1,1]) (js := [0]) wide_ rfl rfl rfl ?_ ?_
  ·refine GA.tk 0 [1,1,1] [0] ?_;refine GA.tk 1 [1,1,1] [0] ?_;refine GA.tk 2 [1,1,1] [0] ?_;refine GA.tk 3 [1,1,1] [0] ?_;refine GA.tk 5 [1,1,1] [0] ?_;refine GA.tp 6 rfl [1,1,1] [0] (i_mem (m_load (i := 2) rfl rfl ag_3 rfl)) ?_
   refine GA.al [4] ?_
   refine GAs.cons (i := 4) rfl rfl (t_mem rfl (m_load (i := 0) rfl rfl ag_3 rfl)) (by rintro a w h; exact h.me [1,1,1] [0]) ?_ GAs.nil
   refine GA.tp 7 rfl [1,1,1] [0] (i_pure (p_max2 rfl rfl)) ?_;refine GA.tk 8 [1,1,1] [0] ?_;refine GA.tk 9 [1,1,1] [0] ?_;refine GA.al [10] ?_
   refine GAs.cons (i := 10) rfl rfl (t_store (i := 0) rfl rfl rfl rfl sz_3 rfl rfl rfl) (by rintro a w h; exact h.me [1,1,1] [0]) ?_ GAs.nil
   exact GA.done (by kernel_rfl) (fun a w h => h.ct [0,0,0] [0])
  refine (?_ : GC _ _ _ _)
  refine GC.region ?_;refine GL.pure rfl (p_add rfl rfl (w64 (by (first | omega | (rw [seg_length (by omega)]; omega) | (dsimp only; rw [seg_length (by omega)]; omega) | (dsimp only; omega))) (by (first | omega | (rw [seg_length (by omega)]; omega) | (dsimp only; rw [seg_length (by omega)]; omega) | (dsimp only; omega))))) ?_
  refine GL.rn 1 ?_;refine GL.nil ?_
  exact fun a w h => ⟨(k + 1,put1 u (gt l (k : Int))),(by simp only; omega),⟨by simp only; omega,putF_step (by omega) hput,put1_ok hu hp2,hbl,hsz⟩,h.ct [0,0,0] [0]⟩
 intro h2; try simp only [tst_] at h2
 refine GC.exit (?_ : GC _ _ _ _)
 refine GC.rg 1 ?_;refine GC.ret (Fin.b1 4 [0,0,0] [] ?_)
 have e : patchF v l = (0,u) := by rw [List.drop_of_length_le (by omega)] at hput; simp only [patchF,h1,if_true]; rw [hput]; rfl
 rw [e]; exact ⟨rfl,rfl,rfl⟩
def loadV (bl sz : Int) (l : List Page) : Vol := putF (newV bl sz) l
theorem patch_yes {bl sz : Int} {l : List Page} (hl : laidF bl sz (-1) l = true) : patchF (newV bl sz) l = (0,loadV bl sz l) := by
  unfold patchF; rw [if_pos (show laidF (newV bl sz).bl (newV bl sz).sz (-1) l = true from hl)]; rfl
theorem patch_no {v : Vol} {l : List Page} (hl : laidF v.bl v.sz (-1) l = false) : patchF v l = (50,v) := by
  unfold patchF; rw [if_neg (by rw [hl]; simp)]
theorem patch_eq (p pb pv : Nat) (v : Vol) (A : Option Addr) (l : List Page) (cp : Nat) (hv : VolOk v) (hl : l.length ≤ 140737488355328) (e : Int) (v' : Vol) (h : patchF v l = (e,v')) : Ct Tryz.prog 191 [.pointer (some ⟨p,0,none⟩),.slice A l.length cp] (volG p pb pv v) [Pers.row kPage A l]
    (fun u G Q => u = .int .i64 e ∧ G = volG p pb pv v' ∧ Q = []) := by
  have := patch_ct p pb pv v A l cp hv hl
  rw [h] at this; exact this
theorem load_bad (bl sz : Int) (A : Option Addr) (l : List Page) (cp : Nat) (h : ¬ shapeOk bl sz) : Ct Tryz.prog 151 [shpV bl sz,.slice A l.length cp] [] [Pers.row kPage A l] (fun v G Q => v = .tuple #[.pointer none,.int .i64 40] ∧ G = [] ∧ Q = []) := by
 refine Ct.intro Tryz.func151 rfl rfl rfl (fun c hc => ?_)
 refine GC.sr_ ?_;refine GL.step rfl (t_box rfl rfl rfl) (GL.ex fun b_t2 => ?_);refine GL.rz 2 ?_;refine GC.sr_ ?_;refine GL.ln_ 0 2 ?_;refine GL.cl Tryz.call190 [] [] rfl rfl rfl (by exact new_bad _ _ h) ?_
 rintro _ _ _ ⟨rfl,rfl,rfl⟩
 refine GL.rz 5 ?_;refine GC.seq' ?_;refine GC.rg 2 ?_;refine GC.cond_false rfl ?_
 refine GC.skip (?_ : GC _ _ _ _)
 refine GC.seq' ?_;refine GC.rg 2 ?_;refine GC.cond_true rfl ?_;refine GC.rg 3 ?_;refine GC.ret (Fin.b2 4 5 [] [] ?_)
 exact ⟨rfl,rfl,rfl⟩
theorem load_no (bl sz : Int) (A : Option Addr) (l : List Page) (cp : Nat) (h : shapeOk bl sz) (hl : l.length ≤ 140737488355328) (hn : laidF bl sz (-1) l = false) : Ct Tryz.prog 151 [shpV bl sz,.slice A l.length cp] [] [Pers.row kPage A l] (fun v G Q => v = .tuple #[.pointer none,.int .i64 50] ∧ G = [] ∧ Q = []) := by
 refine Ct.intro Tryz.func151 rfl rfl rfl (fun c hc => ?_)
 refine GC.sr_ ?_;refine GL.step rfl (t_box rfl rfl rfl) (GL.ex fun b_t2 => ?_);refine GL.rz 2 ?_;refine GC.sr_ ?_;refine GL.ln_ 0 2 ?_;refine GL.cl Tryz.call190 [] [] rfl rfl rfl (by exact new_ok _ _ h) ?_
 rintro _ _ _ ⟨p10,pb10,pv10,rfl,rfl,rfl⟩
 refine GL.rz 5 ?_;refine GC.seq' ?_;refine GC.rg 2 ?_;refine GC.cond_true rfl ?_;refine GC.region ?_;refine GL.rn 2 ?_;refine GL.cl Tryz.call191 [0,0,0] [0] rfl rfl rfl (by exact patch_eq _ _ _ (newV bl sz) _ _ _ (newV_ok h) hl _ _ (patch_no hn)) ?_
 rintro _ _ _ ⟨rfl,rfl,rfl⟩
 refine GL.rn 1 ?_
 refine GL.nil (?_ : GC _ _ _ _)
 refine GC.seq' ?_;refine GC.rg 2 ?_;refine GC.cond_true rfl ?_;refine GC.rg 3 ?_;refine GC.ret (Fin.b2 4 5 [] [] ?_)
 exact ⟨rfl,rfl,rfl⟩
theorem load_ok (bl sz : Int) (A : Option Addr) (l : List Page) (cp : Nat) (h : shapeOk bl sz) (hl : l.length ≤ 140737488355328) (hn : laidF bl sz (-1) l = true) : Ct Tryz.prog 151 [shpV bl sz,.slice A l.length cp] [] [Pers.row kPage A l] (fun v G Q => ∃ p pb pv,v = .tuple #[.pointer (some ⟨p,0,none⟩),.int .i64 0] ∧ G = volG p pb pv (loadV bl sz l) ∧ Q = []) := by
 refine Ct.intro Tryz.func151 rfl rfl rfl (fun c hc => ?_)
 refine GC.sr_ ?_;refine GL.step rfl (t_box rfl rfl rfl) (GL.ex fun b_t2 => ?_);refine GL.rz 2 ?_;refine GC.sr_ ?_;refine GL.ln_ 0 2 ?_;refine GL.cl Tryz.call190 [] [] rfl rfl rfl (by exact new_ok _ _ h) ?_
 rintro _ _ _ ⟨p10,pb10,pv10,rfl,rfl,rfl⟩
 refine GL.rz 5 ?_;refine GC.seq' ?_;refine GC.rg 2 ?_;refine GC.cond_true rfl ?_;refine GC.region ?_;refine GL.rn 2 ?_;refine GL.cl Tryz.call191 [0,0,0] [0] rfl rfl rfl (by exact patch_eq _ _ _ (newV bl sz) _ _ _ (newV_ok h) hl _ _ (patch_yes hn)) ?_
 rintro _ _ _ ⟨rfl,rfl,rfl⟩
 refine GL.rn 1 ?_
 refine GL.nil (?_ : GC _ _ _ _)
 refine GC.seq' ?_;refine GC.rg 2 ?_;refine GC.cond_false rfl ?_
 refine GC.skip (?_ : GC _ _ _ _)
 refine GC.rg 3 ?_;refine GC.ret (Fin.b2 4 5 [0,0,0] [] ?_)
 exact ⟨_,_,_,rfl,rfl,rfl⟩
def poly : BitVec 32 := 0x82f63b78#32
def stepB (s : BitVec 32) : BitVec 32 := if s.getLsbD 0 = true then (s >>> 1) ^^^ poly else s >>> 1
def nibT : List (BitVec 32) := [0x00000000#32,0x105ec76f#32,0x20bd8ede#32,0x30e349b1#32,0x417b1dbc#32,0x5125dad3#32,0x61c69362#32,0x7198540d#32,0x82f63b78#32,0x92a8fc17#32,0xa24bb5a6#32,0xb21572c9#32,0xc38d26c4#32,0xd3d3e1ab#32,0xe330a81a#32,0xf36e6f75#32]
def nibB (i : BitVec 32) : BitVec 32 := nibT.getD i.toNat 0
theorem stepB_xor (a b : BitVec 32) : stepB (a ^^^ b) = stepB a ^^^ stepB b := by
  unfold stepB
  rw [BitVec.getLsbD_xor,BitVec.ushiftRight_xor_distrib]
  have e : ∀ x : BitVec 32,poly ^^^ (x ^^^ poly) = x := fun x => by rw [BitVec.xor_comm x,← BitVec.xor_assoc,BitVec.xor_self,BitVec.zero_xor]
  cases a.getLsbD 0 <;> cases b.getLsbD 0
  · simp
  · simp [BitVec.xor_assoc]
  · simp only [Bool.xor_false,if_true,Bool.false_eq_true,if_false]
    rw [BitVec.xor_assoc,BitVec.xor_assoc,BitVec.xor_comm poly]
  · simp only [Bool.xor_true,Bool.not_true,Bool.false_eq_true,if_false,if_true]
    rw [BitVec.xor_assoc,e]
theorem stepB_even {t : BitVec 32} (k : Nat) (h : t.toNat < 2 ^ (32 - (k + 1))) : stepB (t <<< (k + 1)) = t <<< k := by
  have h0 : (t <<< (k + 1)).getLsbD 0 = false := by simp
  unfold stepB
  rw [h0]
  simp only [Bool.false_eq_true,if_false]
  apply BitVec.eq_of_toNat_eq
  have hk : k + 1 ≤ 32 ∨ 32 < k + 1 := by omega
  rw [BitVec.toNat_ushiftRight,BitVec.toNat_shiftLeft,BitVec.toNat_shiftLeft,Nat.shiftLeft_eq,Nat.shiftLeft_eq,Nat.shiftRight_eq_div_pow]
  rcases hk with hk | hk
  · have hp : 2 ^ (32 - (k + 1)) * 2 ^ (k + 1) = 2 ^ 32 := by rw [← Nat.pow_add]; congr 1; omega
    have h1 : t.toNat * 2 ^ (k + 1) < 2 ^ 32 := by rw [← hp]; exact Nat.mul_lt_mul_of_pos_right h (Nat.pow_pos (by decide))
    have h2 : t.toNat * 2 ^ k < 2 ^ 32 := by
      refine Nat.lt_of_le_of_lt (Nat.mul_le_mul_left _ ?_) h1
      exact Nat.pow_le_pow_right (by decide) (by omega)
    rw [Nat.mod_eq_of_lt h1,Nat.mod_eq_of_lt h2,Nat.pow_succ,← Nat.mul_assoc]
    simp
  · have : t.toNat = 0 := by
      rw [show 32 - (k + 1) = 0 by omega] at h
      omega
    rw [this]; simp
theorem nib16 : ∀ l : BitVec 4,stepB (stepB (stepB (stepB (l.zeroExtend 32)))) = nibB (l.zeroExtend 32) := by decide +kernel
theorem nib_step (s : BitVec 32) : (s >>> 4) ^^^ nibB (s &&& 15#32) = stepB (stepB (stepB (stepB s))) := by
  have hs : s = ((s >>> 4) <<< 4) ^^^ (s &&& 15#32) := by
    apply BitVec.eq_of_getLsbD_eq
    intro i hi
    rw [BitVec.getLsbD_xor,BitVec.getLsbD_shiftLeft,BitVec.getLsbD_ushiftRight,BitVec.getLsbD_and]
    by_cases h4 : i < 4
    · have : (15#32).getLsbD i = true := by
        rcases (show i = 0 ∨ i = 1 ∨ i = 2 ∨ i = 3 by omega) with rfl | rfl | rfl | rfl <;> decide
      simp [h4,this]
    · have : (15#32).getLsbD i = false := by
        have : (15#32).toNat < 2 ^ 4 := by decide
        rw [← BitVec.testBit_toNat]
        exact Nat.testBit_lt_two_pow (Nat.lt_of_lt_of_le this (Nat.pow_le_pow_right (by decide) (by omega)))
      rw [this,Bool.and_false,Bool.xor_false,show 4 + (i - 4) = i by omega]
      simp [h4,hi]
  have ht : (s >>> 4).toNat < 2 ^ 28 := by
    rw [BitVec.toNat_ushiftRight,Nat.shiftRight_eq_div_pow]
    have := s.isLt
    omega
  have e4 : stepB (stepB (stepB (stepB ((s >>> 4) <<< 4)))) = s >>> 4 := by
    rw [stepB_even 3 ht,stepB_even 2 (Nat.lt_of_lt_of_le ht (by decide)),stepB_even 1 (Nat.lt_of_lt_of_le ht (by decide)),stepB_even 0 (Nat.lt_of_lt_of_le ht (by decide)),BitVec.shiftLeft_zero]
  have el : s &&& 15#32 = ((s.truncate 4 : BitVec 4)).zeroExtend 32 := by
    apply BitVec.eq_of_toNat_eq
    simp
    have : s.toNat &&& 15 = s.toNat % 2 ^ 4 := Nat.and_two_pow_sub_one_eq_mod s.toNat 4
    omega
  conv => rhs; rw [hs]
  rw [stepB_xor,stepB_xor,stepB_xor,stepB_xor,e4,el,nib16]
def byteB (s : BitVec 32) (b : UInt8) : BitVec 32 := stepB (stepB (stepB (stepB (stepB (stepB (stepB (stepB (s ^^^ b.toBitVec.zeroExtend 32))))))))
def moreB (s : BitVec 32) (b : List UInt8) : BitVec 32 := ~~~ (b.foldl byteB (~~~ s))
theorem nib_nth {x : BitVec 32} (h : x.toNat < 16) : nth (nibT.map w32) ((x.toNat : Int).toNat * 1) = some (w32 (nibB x)) := by
  rw [nth_eq,List.getElem?_map,Nat.mul_one,Int.toNat_natCast]
  have hl : nibT.length = 16 := rfl
  rw [List.getElem?_eq_getElem (by omega)]
  unfold nibB
  rw [List.getD_eq_getElem?_getD,List.getElem?_eq_getElem (by omega)]
  rfl
theorem nib_ct (x : BitVec 32) (h : x.toNat < 16) : Ct Tryz.prog 196 [w32 x] [] [] (fun u G Q => u = w32 (nibB x) ∧ G = [] ∧ Q = []) := by
 refine Ct.intro Tryz.func196 rfl rfl rfl (fun c hc => ?_)
 refine GC.rg 1 ?_;refine GC.sr_ ?_;refine GL.pure rfl (p_buildA Tryz.underlying300 sz_27 ze_300 rfl rfl) ?_;refine GL.rn 1 ?_;refine GL.pure rfl (p_indexV rfl rfl Tryz.underlying300 sz_27 ag_27 (by omega) (by omega) (nib_nth h)) ?_
 refine GL.rz 1 ?_;refine GC.ret (Fin.b1 2 [] [] ?_)
 exact ⟨rfl,rfl,rfl⟩
theorem and15 (s : BitVec 32) : (s &&& 15#32).toNat < 16 := by
  have : (s &&& 15#32).toNat = s.toNat % 16 := by
    rw [BitVec.toNat_and]; exact Nat.and_two_pow_sub_one_eq_mod s.toNat 4
  omega
theorem take_gt {α : Type} [Inhabited α] {l : List α} {k : Nat} (h : k < l.length) : l.take (k + 1) = l.take k ++ [gt l (k : Int)] := by
  have := gt_ok (xs := l) (i := (k : Int)) (by omega) (by omega)
  simp only [Int.toNat_natCast] at this
  rw [List.take_add_one,this]; rfl
theorem foldl_take {l : List UInt8} {k : Nat} {s : BitVec 32} (h : k < l.length) : (l.take (k + 1)).foldl byteB s = byteB ((l.take k).foldl byteB s) (gt l (k : Int)) := by
  rw [take_gt h,List.foldl_append]; rfl
theorem more_ct (s : BitVec 32) (A : Option Addr) (l : List UInt8) (cp : Nat) (hl : l.length ≤ 140737488355328) : Ct Tryz.prog 157 [w32 s,.slice A l.length cp] [] [Pers.row Kd.u8 A l] (fun u G Q => u = w32 (moreB s l) ∧ G = [] ∧ Q = []) := by
 refine Ct.intro Tryz.func157 rfl rfl rfl (fun c hc => ?_)
 refine GC.rg 1 ?_;refine GC.rr 1 ?_;refine GL.pure rfl (p_com32 rfl) ?_;refine GL.rz 1 ?_;refine GC.seq' ?_;refine GC.rg 3 ?_;refine GC.block ?_;refine GC.imp (fun a w h => (⟨by simp,h.ct [] [0]⟩ : (fun (k : Nat) (a : Act) (w : World) => k ≤ l.length ∧ St c 35 [(1,.slice A l.length cp),(5,w32 ((l.take k).foldl byteB (~~~ s))),(10,.slice A l.length cp),(11,.int .i64 (l.length : Int)),(12,.int .i64 (k : Int))] [] [Pers.row Kd.u8 A l] a w) 0 a w)) (GC.loop (fun (k : Nat) (a : Act) (w : World) => k ≤ l.length ∧ St c 35 [(1,.slice A l.length cp),(5,w32 ((l.take k).foldl byteB (~~~ s))),(10,.slice A l.length cp),(11,.int .i64 (l.length : Int)),(12,.int .i64 (k : Int))] [] [Pers.row Kd.u8 A l] a w) (fun k => l.length - k) 0 ?_)
 intro k
 refine GC.and fun hk => ?_;refine GC.rg 1 ?_;refine GC.seq' ?_;refine GC.co ?_ ?_
 ·intro h1; try simp only [tst_] at h1
  refine GC.skip (?_ : GC _ _ _ _)
  refine GC.seq' ?_;refine GC.block ?_;refine GC.sr_ ?_;refine GL.step rfl (t_index (i := 0) rfl rfl rfl rfl Tryz.underlying47 sz_5 (by omega) (gt_ok (by omega) (by omega))) (GL.ex fun p_x14 => GL.ex fun r_x14 => GL.and fun ok_x14 => ?_)
  rcases r_x14 with _
  refine GL.step rfl (t_mem rfl (m_loadP (i := 0) rfl rfl ag_5 rfl)) ?_;refine GL.rz 1 ?_;refine GC.rr 2 ?_;refine GL.pure rfl (p_conv8 (t := 5) (by rw [Tryz.underlying5]; simp) Tryz.underlying27 rfl) ?_
  refine GL.pure rfl (p_xor32 rfl rfl) ?_;refine GL.rz 1 ?_;refine GC.rr 1 ?_;refine GL.pure rfl (p_shr32 4 (by decide) rfl rfl) ?_;refine GL.rn 1 ?_;refine GL.pure rfl (p_and32 (b := 15#32) rfl rfl) ?_;refine GL.cl Tryz.call196 [] [] rfl rfl rfl (by exact nib_ct _ (and15 _)) ?_
  rintro _ _ _ ⟨rfl,rfl,rfl⟩
  refine GL.pure rfl (p_xor32 rfl rfl) ?_;refine GL.rz 1 ?_;refine GC.region ?_;refine GL.rn 1 ?_;refine GL.pure rfl (p_shr32 4 (by decide) rfl rfl) ?_;refine GL.rn 1 ?_;refine GL.pure rfl (p_and32 (b := 15#32) rfl rfl) ?_
  refine GL.cl Tryz.call196 [] [] rfl rfl rfl (by exact nib_ct _ (and15 _)) ?_
  rintro _ _ _ ⟨rfl,rfl,rfl⟩
  refine GL.pure rfl (p_xor32 rfl rfl) ?_;refine GL.rn 1 ?_
  refine GL.nil (?_ : GC _ _ _ _)
  refine GC.region ?_;refine GL.pure rfl (p_add rfl rfl (w64 (by omega) (by omega))) ?_;refine GL.rn 1 ?_;refine GL.nil ?_
  exact fun a w h => ⟨(k + 1),(by omega),(by omega),by rw [foldl_take (by omega),byteB,← nib_step,← nib_step]; exact h.ct [] [1]⟩
 intro h1; try simp only [tst_] at h1
 refine GC.exit (?_ : GC _ _ _ _)
 refine GC.rr 1 ?_;refine GL.pure rfl (p_com32 rfl) ?_;refine GL.rz 1 ?_;refine GC.ret (Fin.b1 4 [] [] ?_)
 obtain rfl : k = l.length := by omega
 exact ⟨by rw [List.take_length]; rfl,rfl,rfl⟩
theorem csum_ct (A : Option Addr) (b : List UInt8) (cp : Nat) (hl : b.length ≤ 140737488355328) : Ct Tryz.prog 103 [.slice A 1 cp] [] [Pers.row kBytes A [b]] (fun u G Q => u = w32 (moreB 0#32 b) ∧ G = [] ∧ Q = []) := by
 have e1 : ([b] : List (List UInt8)).length = 1 := rfl
 rw [← e1]
 refine Ct.intro Tryz.func103 rfl rfl rfl (fun c hc => ?_)
 refine GC.rg 1 ?_;refine GC.rg 1 ?_;refine GC.seq' ?_;refine GC.rg 3 ?_;refine GC.block ?_;refine GC.imp (fun a w h => (⟨by simp,h.ct [] [0]⟩ : (fun (k : Nat) (a : Act) (w : World) => k ≤ 1 ∧ St c 17 [(3,w32 (if k = 0 then 0#32 else moreB 0#32 b)),(6,.slice A ([b] : List (List UInt8)).length cp),(7,.int .i64 (([b] : List (List UInt8)).length : Int)),(8,.int .i64 (k : Int))] [] [Pers.row kBytes A [b]] a w) 0 a w)) (GC.loop (fun (k : Nat) (a : Act) (w : World) => k ≤ 1 ∧ St c 17 [(3,w32 (if k = 0 then 0#32 else moreB 0#32 b)),(6,.slice A ([b] : List (List UInt8)).length cp),(7,.int .i64 (([b] : List (List UInt8)).length : Int)),(8,.int .i64 (k : Int))] [] [Pers.row kBytes A [b]] a w) (fun k => 1 - k) 0 ?_)
 intro k
 refine GC.and fun hk => ?_;refine GC.rg 1 ?_;refine GC.seq' ?_;refine GC.co ?_ ?_
 ·intro h1; try simp only [tst_] at h1
  refine GC.skip (?_ : GC _ _ _ _)
  refine GC.seq' ?_;refine GC.block ?_;refine GC.sr_ ?_;refine GL.step rfl (t_index (i := 0) rfl rfl rfl rfl Tryz.underlying81 sz_47 (by omega) (gt_ok (by omega) (by omega))) (GL.ex fun p_x10 => GL.ex fun r_x10 => GL.and fun ok_x10 => ?_)
  rcases r_x10 with ⟨Ax10_0,cpx10_0⟩
  refine GL.step rfl (t_mem rfl (m_loadP (i := 0) rfl rfl ag_47 rfl)) ?_;refine GL.rz 1 ?_;refine GC.region ?_;refine GL.rn 2 ?_
  have hk0 : k = 0 := by simp at h1; omega
  have hlk : (gt [b] (k : Int)).length ≤ 140737488355328 := by subst hk0; exact hl
  refine GL.cl Tryz.call157 [] [1] rfl rfl rfl (by exact more_ct _ _ (gt [b] (k : Int)) _ hlk) ?_
  rintro _ _ _ ⟨rfl,rfl,rfl⟩
  refine GL.rn 1 ?_
  refine GL.nil (?_ : GC _ _ _ _)
  refine GC.region ?_;refine GL.pure rfl (p_add rfl rfl (w64 (by omega) (by omega))) ?_;refine GL.rn 1 ?_;refine GL.nil ?_
  subst hk0
  exact fun a w h => ⟨(0 + 1),(by omega),(by omega),h.ct [] [2]⟩
 intro h1; try simp only [tst_] at h1
 refine GC.exit (?_ : GC _ _ _ _)
 refine GC.rg 2 ?_;refine GC.ret (Fin.b1 2 [] [] ?_)
 obtain rfl : k = 1 := by simp at h1; omega
 exact ⟨rfl,rfl,rfl⟩
def isNum (n : Int) : Bool := decide (1 ≤ n) && decide (n ≤ 4611686018427387904)
theorem isNumber_ct (n : Int) : Ct Tryz.prog 228 [.int .i64 n] [] [] (fun v G Q => v = .bool (isNum n) ∧ G = [] ∧ Q = []) := by
 refine Ct.intro Tryz.func228 rfl rfl rfl (fun c hc => ?_)
 refine GC.rg 1 ?_;refine GC.rr 3 ?_;refine GL.sp 5 ?_ ?_
 ·intro h1; try simp only [tst_] at h1
  refine GL.rz 4 ?_;refine GC.ret (Fin.b1 2 [] [] ?_)
  refine ⟨congrArg Value.bool ?_,rfl,rfl⟩; simp [isNum]; omega
 intro h1; try simp only [tst_] at h1
 refine GL.rz 4 ?_;refine GC.ret (Fin.b1 2 [] [] ?_)
 refine ⟨congrArg Value.bool ?_,rfl,rfl⟩; simp [isNum]; omega
theorem tmade_ct (p m : Nat) : Ct Tryz.prog 227 [.pointer (some ⟨p,0,none⟩)] [.cells p [.map (some m)] 293] [] (fun v G Q => v = .bool true ∧ G = [.cells p [.map (some m)] 293] ∧ Q = []) := by
 refine Ct.intro Tryz.func227 rfl rfl rfl (fun c hc => ?_)
 refine GC.rg 1 ?_;refine GC.rr 1 ?_;refine GL.pure rfl (p_pnil_neq Tryz.underlying222 rfl rfl) ?_;refine GL.rn 4 ?_;refine GL.dg_ 0 ?_;refine GL.pureG (s := 5) rfl rfl rfl (p_mapnil_neq Tryz.underlying291 rfl rfl) ?_
 refine GL.rz 2 ?_;refine GC.ret (Fin.b1 2 [0] [] ?_)
 exact ⟨rfl,rfl,rfl⟩
theorem own_ct (code : Int) (A : Option Addr) (xs : List UInt8) (cp : Nat) (hx : xs.length ≤ 140737488351232) : Ct Tryz.prog 217 [.agg #[.int .u8 code,.slice A xs.length cp]] [] [Pers.row Kd.u8 A xs]
    (fun v G Q => ∃ A' cp',xs.length ≤ cp' ∧ cp' ≤ 9223372036854775807 ∧ v = .agg #[.int .u8 code,.slice A' xs.length cp'] ∧ G = [.row (.slice A' xs.length cp') 5 1 xs.length (xs.map u8v)] ∧ Q = []) := by
 refine Ct.intro Tryz.func217 rfl rfl rfl (fun c hc => ?_)
 refine GC.sr_ ?_;refine GL.step rfl (t_box rfl rfl rfl) (GL.ex fun b_t1 => ?_);refine GL.step rfl (t_alloc rfl ze_52) (GL.ex fun b_t2 => ?_);refine GL.nr 1 ?_;refine GL.ld_ 1 ?_;refine GL.cl Tryz.call40 [] [0] rfl rfl rfl (by exact clone_ct _ _ _ (by first | assumption | omega)) ?_
 rintro _ _ _ ⟨A5,cp5,l5,k5,rfl,rfl,rfl⟩
 refine GL.rn 1 ?_;refine GL.so_ 2 ?_;refine GL.nl_ ?_;refine GC.sr_ ?_;refine GL.ln_ 2 2 ?_;refine GL.sn_ 1 ?_;refine GL.nl_ ?_;refine GC.ret (Fin.c0 2 52 1 2 [0] [] ?_)
 exact ⟨_,_,by assumption,by assumption,rfl,rfl,rfl⟩
def askF (T : List (Int × Last)) (c s : Int) : Int × Res × Int :=
  if isNum c = false ∨ isNum s = false then (0,rz,5)
  else match mget T c with
    | none => if (T.length : Int) = 64 then (4,rz,0) else (1,rz,0)
    | some l => if s > l.serial then (1,rz,0) else if s < l.serial then (3,rz,0) else (2,l.result,0)
def TabOk (T : List (Int × Last)) : Prop := ∀ k l,mget T k = some l → l.result.data.length ≤ 262144
abbrev tabG (p m : Nat) (es : Array MapEntry) (ck : Nat) : List Own := [.cells p [.map (some m)] 293,.blk m (.map es ck)]
abbrev resV' (v : Int) (r : Res) (A : Option Addr) (cp : Nat) (e : Int) : Value := .tuple #[.int .i64 v,.agg #[.int .u8 r.code,.slice A r.data.length cp],.int .i64 e]
theorem ask_ct (p m : Nat) (es : Array MapEntry) (ck : Nat) (T : List (Int × Last)) (cl se : Int) (hT : TabOk T) :
    Ct Tryz.prog 216 [.pointer (some ⟨p,0,none⟩),.int .i64 cl,.int .i64 se] (tabG p m es ck) [Pers.map kLast true T es ck]
      (fun v G Q => ∃ A cp,(askF T cl se).2.1.data.length ≤ cp ∧ cp ≤ 9223372036854775807 ∧ v = resV' (askF T cl se).1 (askF T cl se).2.1 A cp (askF T cl se).2.2 ∧ G = tabG p m es ck ∧ Q = [Pers.row Kd.u8 A (askF T cl se).2.1.data]) := by
 refine Ct.intro Tryz.func216 rfl rfl rfl (fun c hc => ?_)
 refine GC.rr 1 ?_;refine GL.step rfl (t_alloc rfl ze_52) (GL.ex fun b_t7 => ?_);refine GL.rz 1 ?_;refine GC.seq' ?_;refine GC.rr 1 ?_;refine GL.cl Tryz.call227 [1] [] rfl rfl rfl (by exact tmade_ct _ _) ?_
 rintro _ _ _ ⟨rfl,rfl,rfl⟩
 refine GL.rz 1 ?_;refine GC.cond_false rfl ?_
 refine GC.skip (?_ : GC _ _ _ _)
 refine GC.seq' ?_;refine GC.rr 1 ?_;refine GL.cl Tryz.call228 [] [] rfl rfl rfl (by exact isNumber_ct _) ?_
 rintro _ _ _ ⟨rfl,rfl,rfl⟩
 refine GL.rn 2 ?_;refine GL.sp 18 ?_ ?_
 ·intro h1; try simp only [tst_] at h1
  refine GL.rz 4 ?_;refine GC.cond_true rfl ?_;refine GC.sr_ ?_;refine GL.pure rfl (p_build ze_52 of_52 rfl rfl) ?_;refine GL.rn 1 ?_;refine GL.sn_ 1 ?_;refine GL.rz 1 ?_;refine GC.know (q := Pers.row Kd.u8 none []) (fun _ _ _ => .inl rfl) ?_
  refine GC.ret ?_
  refine fun a w h => Fin.back (rs := [.tmp 6,.cell 7 52,.tmp 8]) (vs := [_,_,_]) (is := [0,1]) (js := [0]) rfl ⟨rfl,⟨1,_,_,_,_,rfl,rfl,.inr ⟨[_,_],rfl,ag_52,sz_52,⟨rfl,rfl,trivial⟩⟩⟩,rfl,trivial⟩ rfl rfl ?_ h
  clear h
  have e : askF T cl se = (0,rz,5) := by simp [askF, *]
  rw [e]; exact ⟨none,0,by simp [rz],by simp,rfl,rfl,rfl⟩
 intro h1; try simp only [tst_] at h1
 refine GL.rn 1 ?_;refine GL.stepG rfl (s := 18) rfl rfl (t_call rfl Tryz.call228 rfl (is := []) (js := []) rfl rfl (by exact isNumber_ct _)) (GL.ret ?_)
 rintro _ _ _ ⟨rfl,rfl,rfl⟩
 refine GL.rz 2 ?_;refine GC.co ?_ ?_
 ·intro h2; try simp only [tst_] at h2
  refine GC.sr_ ?_;refine GL.pure rfl (p_build ze_52 of_52 rfl rfl) ?_;refine GL.rn 1 ?_;refine GL.sn_ 1 ?_;refine GL.rz 1 ?_;refine GC.know (q := Pers.row Kd.u8 none []) (fun _ _ _ => .inl rfl) ?_;refine GC.ret ?_
  refine fun a w h => Fin.back (rs := [.tmp 6,.cell 7 52,.tmp 8]) (vs := [_,_,_]) (is := [0,1]) (js := [0]) rfl ⟨rfl,⟨1,_,_,_,_,rfl,rfl,.inr ⟨[_,_],rfl,ag_52,sz_52,⟨rfl,rfl,trivial⟩⟩⟩,rfl,trivial⟩ rfl rfl ?_ h
  clear h
  have e : askF T cl se = (0,rz,5) := by simp [askF, *]
  rw [e]; exact ⟨none,0,by simp [rz],by simp,rfl,rfl,rfl⟩
 intro h2; try simp only [tst_] at h2
 refine GC.skip (?_ : GC _ _ _ _)
 refine GC.rr 3 ?_;refine GL.ld_ 0 ?_;refine GL.rn 1 ?_
 refine GL.step rfl (t_lookup (i := 2) (j := 0) rfl rfl rfl rfl rfl Tryz.underlying291 Tryz.underlying3 ze_299 zb_299) (GL.or (GL.and fun n_m30 => ?_) (GL.ex fun u_m30 => GL.ex fun r_m30 => GL.and fun s_m30 => GL.and fun ok_m30 => ?_))
 ·refine GL.rn 3 ?_;refine GL.step rfl (t_alloc rfl ze_299) (GL.ex fun b_t9 => ?_);refine GL.sn_ 0 ?_;refine GL.rz 1 ?_;refine GC.seq' ?_;refine GC.block ?_;refine GC.rr 6 ?_;refine GL.dg_ 1 ?_;refine GL.stepG rfl (s := 36) rfl rfl (t_mem rfl (m_lenmap (i := 3) (j := 0) rfl rfl rfl Tryz.underlying291)) ?_
  refine GL.rz 3 ?_;refine GC.co ?_ ?_
  ·intro h3; try simp only [tst_] at h3
   refine GC.sr_ ?_;refine GL.pure rfl (p_build ze_52 of_52 rfl rfl) ?_;refine GL.rn 1 ?_;refine GL.sn_ 2 ?_;refine GL.rz 1 ?_;refine GC.know (q := Pers.row Kd.u8 none []) (fun _ _ _ => .inl rfl) ?_;refine GC.ret ?_
   refine fun a w h => Fin.back (rs := [.tmp 6,.cell 7 52,.tmp 8]) (vs := [_,_,_]) (is := [1,2]) (js := [0]) rfl ⟨rfl,⟨2,_,_,_,_,rfl,rfl,.inr ⟨[_,_],rfl,ag_52,sz_52,⟨rfl,rfl,trivial⟩⟩⟩,rfl,trivial⟩ rfl rfl ?_ h
   clear h
   have e : askF T cl se = (4,rz,0) := by simp [askF, *]
   rw [e]; exact ⟨none,0,by simp [rz],by simp,rfl,rfl,rfl⟩
  intro h3; try simp only [tst_] at h3
  refine GC.rg 9 ?_;refine GC.cond_true rfl ?_;refine GC.sr_ ?_;refine GL.pure rfl (p_build ze_52 of_52 rfl rfl) ?_;refine GL.rn 1 ?_;refine GL.sn_ 2 ?_;refine GL.rz 1 ?_;refine GC.know (q := Pers.row Kd.u8 none []) (fun _ _ _ => .inl rfl) ?_
  refine GC.ret ?_
  refine fun a w h => Fin.back (rs := [.tmp 6,.cell 7 52,.tmp 8]) (vs := [_,_,_]) (is := [1,2]) (js := [0]) rfl ⟨rfl,⟨2,_,_,_,_,rfl,rfl,.inr ⟨[_,_],rfl,ag_52,sz_52,⟨rfl,rfl,trivial⟩⟩⟩,rfl,trivial⟩ rfl rfl ?_ h
  clear h
  have e : askF T cl se = (1,rz,0) := by simp [askF, *]
  rw [e]; exact ⟨none,0,by simp [rz],by simp,rfl,rfl,rfl⟩
 rcases r_m30 with ⟨_,⟨_,⟨Am30_0,cpm30_0⟩⟩⟩
 refine GL.rn 3 ?_;refine GL.step rfl (t_alloc rfl ze_299) (GL.ex fun b_t9 => ?_);refine GL.sn_ 0 ?_;refine GL.rz 1 ?_;refine GC.seq' ?_;refine GC.block ?_;refine GC.rg 11 ?_;refine GC.cond_false rfl ?_;refine GC.rr 5 ?_
 refine GL.dg_ 0 ?_;refine GL.rz 3 ?_;refine GC.co ?_ ?_
 ·intro h4; try simp only [tst_] at h4
  refine GC.sr_ ?_;refine GL.pure rfl (p_build ze_52 of_52 rfl rfl) ?_;refine GL.rn 1 ?_;refine GL.sn_ 2 ?_;refine GL.rz 1 ?_;refine GC.know (q := Pers.row Kd.u8 none []) (fun _ _ _ => .inl rfl) ?_;refine GC.ret ?_
  refine fun a w h => Fin.back (rs := [.tmp 6,.cell 7 52,.tmp 8]) (vs := [_,_,_]) (is := [1,2]) (js := [0]) rfl ⟨rfl,⟨2,_,_,_,_,rfl,rfl,.inr ⟨[_,_],rfl,ag_52,sz_52,⟨rfl,rfl,trivial⟩⟩⟩,rfl,trivial⟩ rfl rfl ?_ h
  clear h
  have e : askF T cl se = (1,rz,0) := by simp [askF, *]
  rw [e]; exact ⟨none,0,by simp [rz],by simp,rfl,rfl,rfl⟩
 intro h4; try simp only [tst_] at h4
 refine GC.rr 2 ?_;refine GL.ld_ 0 ?_;refine GL.rz 2 ?_;refine GC.co ?_ ?_
 ·intro h5; try simp only [tst_] at h5
  refine GC.sr_ ?_;refine GL.pure rfl (p_build ze_52 of_52 rfl rfl) ?_;refine GL.rn 1 ?_;refine GL.sn_ 2 ?_;refine GL.rz 1 ?_;refine GC.know (q := Pers.row Kd.u8 none []) (fun _ _ _ => .inl rfl) ?_;refine GC.ret ?_
  refine fun a w h => Fin.back (rs := [.tmp 6,.cell 7 52,.tmp 8]) (vs := [_,_,_]) (is := [1,2]) (js := [0]) rfl ⟨rfl,⟨2,_,_,_,_,rfl,rfl,.inr ⟨[_,_],rfl,ag_52,sz_52,⟨rfl,rfl,trivial⟩⟩⟩,rfl,trivial⟩ rfl rfl ?_ h
  clear h
  have e : askF T cl se = (3,rz,0) := by simp [askF, *]
  rw [e]; exact ⟨none,0,by simp [rz],by simp,rfl,rfl,rfl⟩
 intro h5; try simp only [tst_] at h5
 refine GC.skip (?_ : GC _ _ _ _)
 refine GC.rr 1 ?_;refine GL.ln_ 0 2 ?_
 have hlen := hT _ _ s_m30
 refine GL.cl Tryz.call217 [] [0] rfl rfl rfl (by exact own_ct _ _ _ _ (by first | omega | exact Nat.le_trans hlen (by decide))) ?_
 rintro _ _ _ ⟨A63,cp63,l63,k63,rfl,rfl,rfl⟩
 refine GL.rn 1 ?_;refine GL.sn_ 3 ?_;refine GL.freezeB (i := 0) rfl ?_;refine GL.rz 1 ?_;refine GC.ret ?_
 refine fun a w h => Fin.back (rs := [.tmp 6,.cell 7 52,.tmp 8]) (vs := [_,_,_]) (is := [1,2]) (js := [0]) rfl ⟨rfl,⟨2,_,_,_,_,rfl,rfl,.inr ⟨[_,_],rfl,ag_52,sz_52,⟨rfl,rfl,trivial⟩⟩⟩,rfl,trivial⟩ rfl rfl ?_ h
 clear h
 have e : askF T cl se = (2,u_m30.result,0) := by simp [askF, *]; rw [if_neg (by omega),if_neg (by omega)]
 rw [e]; exact ⟨_,_,l63,k63,rfl,rfl,rfl⟩
def resOk (code : Int) (n : Nat) : Bool := (decide (code = 1 ∨ code = 4) && decide (n ≤ 262144)) || (decide (code = 2 ∨ code = 3) && decide (n = 0))
theorem zq6_ {X : Prop} (h : X := by (refine ⟨congrArg (Value.int .i64) ?_,rfl,rfl⟩; first | (exfalso; omega) | (simp [resOk, *]; done) | (simp [resOk, *]; omega))) : X := h
theorem bres_ct (code : Int) (A : Option Addr) (n cp : Nat) : Ct Tryz.prog 88 [.agg #[.int .u8 code,.slice A n cp]] [] [] (fun v G Q => v = .int .i64 (if resOk code n then 0 else 42) ∧ G = [] ∧ Q = []) := by
 refine Ct.intro Tryz.func88 rfl rfl rfl (fun c hc => ?_)
 refine GC.sr_ ?_;refine GL.step rfl (t_box rfl rfl rfl) (GL.ex fun b_t1 => ?_);refine GL.rz 1 ?_;refine GC.rg 1 ?_;refine GC.seq' ?_;refine GC.rr 1 ?_;refine GL.ld_ 0 ?_;refine GL.nl_ ?_;refine GC.block ?_;refine GC.seq' ?_
 refine GC.rg 2 ?_;refine GC.co ?_ ?_
 ·intro h1; try simp only [tst_] at h1
  refine GC.skip (?_ : GC _ _ _ _)
  refine GC.co ?_ ?_
  ·intro h2; try simp only [tst_] at h2
   refine GC.region ?_;refine GL.rn 1 ?_;refine GL.ld_ 0 ?_;refine GL.rn 3 ?_
   refine GL.nil (?_ : GC _ _ _ _)
   refine GC.seq' ?_;refine GC.rg 2 ?_;refine GC.co ?_ ?_
   ·intro h3; try simp only [tst_] at h3
    refine GC.rg 1 ?_;refine GC.ret (Fin.b1 2 [] [] ?_)
    exact zq6_
   intro h3; try simp only [tst_] at h3
   refine GC.skip (?_ : GC _ _ _ _)
   refine GC.rg 1 ?_;refine GC.ret (Fin.b1 2 [] [] ?_)
   exact zq6_
  intro h2; try simp only [tst_] at h2
  refine GC.seq' ?_;refine GC.rg 2 ?_;refine GC.co ?_ ?_
  ·intro h4; try simp only [tst_] at h4
   refine GC.skip (?_ : GC _ _ _ _)
   refine GC.co ?_ ?_
   ·intro h5; try simp only [tst_] at h5
    refine GC.region ?_;refine GL.rn 1 ?_;refine GL.ld_ 0 ?_;refine GL.rn 3 ?_
    refine GL.nil (?_ : GC _ _ _ _)
    refine GC.seq' ?_;refine GC.rg 2 ?_;refine GC.co ?_ ?_
    ·intro h6; try simp only [tst_] at h6
     refine GC.rg 1 ?_;refine GC.ret (Fin.b1 2 [] [] ?_)
     exact zq6_
    intro h6; try simp only [tst_] at h6
    refine GC.skip (?_ : GC _ _ _ _)
    refine GC.rg 1 ?_;refine GC.ret (Fin.b1 2 [] [] ?_)
    exact zq6_
   intro h5; try simp only [tst_] at h5
   refine GC.skip (?_ : GC _ _ _ _)
   refine GC.seq' ?_;refine GC.rg 2 ?_;refine GC.cond_true rfl ?_;refine GC.rg 1 ?_;refine GC.ret (Fin.b1 2 [] [] ?_)
   exact zq6_
  intro h4; try simp only [tst_] at h4
  refine GC.region ?_;refine GL.rn 2 ?_
  refine GL.nil (?_ : GC _ _ _ _)
  refine GC.co ?_ ?_
  ·intro h7; try simp only [tst_] at h7
   refine GC.region ?_;refine GL.rn 1 ?_;refine GL.ld_ 0 ?_;refine GL.rn 3 ?_
   refine GL.nil (?_ : GC _ _ _ _)
   refine GC.seq' ?_;refine GC.rg 2 ?_;refine GC.co ?_ ?_
   ·intro h8; try simp only [tst_] at h8
    refine GC.rg 1 ?_;refine GC.ret (Fin.b1 2 [] [] ?_)
    exact zq6_
   intro h8; try simp only [tst_] at h8
   refine GC.skip (?_ : GC _ _ _ _)
   refine GC.rg 1 ?_;refine GC.ret (Fin.b1 2 [] [] ?_)
   exact zq6_
  intro h7; try simp only [tst_] at h7
  refine GC.skip (?_ : GC _ _ _ _)
  refine GC.seq' ?_;refine GC.rg 2 ?_;refine GC.cond_true rfl ?_;refine GC.rg 1 ?_;refine GC.ret (Fin.b1 2 [] [] ?_)
  exact zq6_
 intro h1; try simp only [tst_] at h1
 refine GC.region ?_;refine GL.rn 2 ?_
 refine GL.nil (?_ : GC _ _ _ _)
 refine GC.co ?_ ?_
 ·intro h9; try simp only [tst_] at h9
  refine GC.region ?_;refine GL.rn 1 ?_;refine GL.ld_ 0 ?_;refine GL.rn 3 ?_
  refine GL.nil (?_ : GC _ _ _ _)
  refine GC.seq' ?_;refine GC.rg 2 ?_;refine GC.co ?_ ?_
  ·intro h10; try simp only [tst_] at h10
   refine GC.rg 1 ?_;refine GC.ret (Fin.b1 2 [] [] ?_)
   exact zq6_
  intro h10; try simp only [tst_] at h10
  refine GC.skip (?_ : GC _ _ _ _)
  refine GC.rg 1 ?_;refine GC.ret (Fin.b1 2 [] [] ?_)
  exact zq6_
 intro h9; try simp only [tst_] at h9
 refine GC.seq' ?_;refine GC.rg 2 ?_;refine GC.co ?_ ?_
 ·intro h11; try simp only [tst_] at h11
  refine GC.skip (?_ : GC _ _ _ _)
  refine GC.co ?_ ?_
  ·intro h12; try simp only [tst_] at h12
   refine GC.region ?_;refine GL.rn 1 ?_;refine GL.ld_ 0 ?_;refine GL.rn 3 ?_
   refine GL.nil (?_ : GC _ _ _ _)
   refine GC.seq' ?_;refine GC.rg 2 ?_;refine GC.co ?_ ?_
   ·intro h13; try simp only [tst_] at h13
    refine GC.rg 1 ?_;refine GC.ret (Fin.b1 2 [] [] ?_)
    exact zq6_
   intro h13; try simp only [tst_] at h13
   refine GC.skip (?_ : GC _ _ _ _)
   refine GC.rg 1 ?_;refine GC.ret (Fin.b1 2 [] [] ?_)
   exact zq6_
  intro h12; try simp only [tst_] at h12
  refine GC.skip (?_ : GC _ _ _ _)
  refine GC.seq' ?_;refine GC.rg 2 ?_;refine GC.cond_true rfl ?_;refine GC.rg 1 ?_;refine GC.ret (Fin.b1 2 [] [] ?_)
  exact zq6_
 intro h11; try simp only [tst_] at h11
 refine GC.region ?_;refine GL.rn 2 ?_
 refine GL.nil (?_ : GC _ _ _ _)
 refine GC.co ?_ ?_
 ·intro h14; try simp only [tst_] at h14
  refine GC.region ?_;refine GL.rn 1 ?_;refine GL.ld_ 0 ?_;refine GL.rn 3 ?_
  refine GL.nil (?_ : GC _ _ _ _)
  refine GC.seq' ?_;refine GC.rg 2 ?_;refine GC.co ?_ ?_
  ·intro h15; try simp only [tst_] at h15
   refine GC.rg 1 ?_;refine GC.ret (Fin.b1 2 [] [] ?_)
   exact zq6_
  intro h15; try simp only [tst_] at h15
  refine GC.skip (?_ : GC _ _ _ _)
  refine GC.rg 1 ?_;refine GC.ret (Fin.b1 2 [] [] ?_)
  exact zq6_
 intro h14; try simp only [tst_] at h14
 refine GC.skip (?_ : GC _ _ _ _)
 refine GC.seq' ?_;refine GC.rg 2 ?_;refine GC.cond_true rfl ?_;refine GC.rg 1 ?_;refine GC.ret (Fin.b1 2 [] [] ?_)
 exact zq6_
theorem resE_iff (b : Bool) : ((if b = true then (0 : Int) else 42) = 0) = (b = true) := by cases b <;> simp
def tputF (T : List (Int × Last)) (c s : Int) (r : Res) : Int × List (Int × Last) :=
  if (askF T c s).2.2 ≠ 0 then ((askF T c s).2.2,T)
  else if resOk r.code r.data.length = false then (60,T)
  else if (askF T c s).1 = 4 then (3,T)
  else if (askF T c s).1 ≠ 1 then (1,T)
  else (0,mput T c ⟨s,r⟩)
theorem resOk_len {c : Int} {n : Nat} (h : resOk c n = true) : n ≤ 262144 := by
  simp [resOk] at h; omega
theorem put_ct (p m : Nat) (es : Array MapEntry) (ck : Nat) (T : List (Int × Last)) (cl se : Int) (r : Res) (A : Option Addr) (cp : Nat) (hT : TabOk T) :
    Ct Tryz.prog 193 [.pointer (some ⟨p,0,none⟩),.int .i64 cl,.int .i64 se,.agg #[.int .u8 r.code,.slice A r.data.length cp]] (tabG p m es ck) [Pers.map kLast true T es ck,Pers.row Kd.u8 A r.data]
      (fun v G Q => ∃ es' ck',v = .int .i64 (tputF T cl se r).1 ∧ G = tabG p m es' ck' ∧ Q = [Pers.map kLast true (tputF T cl se r).2 es' ck']) := by
 refine Ct.intro Tryz.func193 rfl rfl rfl (fun c hc => ?_)
 refine GC.sr_ ?_;refine GL.step rfl (t_box rfl rfl rfl) (GL.ex fun b_t7 => ?_);refine GL.rz 1 ?_;refine GC.rr 3 ?_;refine GL.cl Tryz.call216 [1,1] [0] rfl rfl rfl (by exact ask_ct _ _ _ _ _ _ _ hT) ?_
 rintro _ _ _ ⟨A16,cp16,l16,m16,rfl,rfl,rfl⟩
 refine GL.rn 4 ?_;refine GL.step rfl (t_alloc rfl ze_52) (GL.ex fun b_t10 => ?_);refine GL.rn 1 ?_;refine GL.sn_ 0 ?_;refine GL.rz 1 ?_;refine GC.seq' ?_;refine GC.block ?_;refine GC.rg 3 ?_;refine GC.co ?_ ?_
 ·intro h1; try simp only [tst_,resE_iff] at h1
  refine GC.rg 2 ?_;refine GC.ret (Fin.b1 8 [1,1] [1] ?_)
  refine ⟨es,ck,congrArg (Value.int .i64) ?_,rfl,?_⟩ <;> simp [tputF, *]
 intro h1; try simp only [tst_,resE_iff] at h1
 refine GC.sr_ ?_;refine GL.ln_ 3 2 ?_;refine GL.cl Tryz.call88 [] [] rfl rfl rfl (by exact bres_ct _ _ _ _) ?_
 rintro _ _ _ ⟨rfl,rfl,rfl⟩
 refine GL.rz 2 ?_;refine GC.co ?_ ?_
 ·intro h2; try simp only [tst_,resE_iff] at h2
  refine GC.rg 1 ?_;refine GC.ret (Fin.b1 8 [1,1] [1] ?_)
  refine ⟨es,ck,congrArg (Value.int .i64) ?_,rfl,?_⟩ <;> simp [tputF, *]
 intro h2; try simp only [tst_,resE_iff] at h2
 refine GC.rg 3 ?_;refine GC.co ?_ ?_
 ·intro h3; try simp only [tst_,resE_iff] at h3
  refine GC.rg 1 ?_;refine GC.ret (Fin.b1 8 [1,1] [1] ?_)
  refine ⟨es,ck,congrArg (Value.int .i64) ?_,rfl,?_⟩ <;> simp [tputF, *]
 intro h3; try simp only [tst_,resE_iff] at h3
 refine GC.rg 3 ?_;refine GC.co ?_ ?_
 ·intro h4; try simp only [tst_,resE_iff] at h4
  refine GC.rg 1 ?_;refine GC.ret (Fin.b1 8 [1,1] [1] ?_)
  refine ⟨es,ck,congrArg (Value.int .i64) ?_,rfl,?_⟩ <;> simp [tputF, *]
 intro h4; try simp only [tst_,resE_iff] at h4
 refine GC.skip (?_ : GC _ _ _ _)
 refine GC.seq' ?_;refine GC.regionM (m := 10) (M := fun a w => ∃ es2 : Array MapEntry,∃ ck2 : Nat,St c 43 [] [.cells p [.map (some m)] 293,.blk m (.map es2 ck2)] [Pers.map kLast true (mput T cl ⟨se,r⟩) es2 ck2] a w) (is := [0,0,1]) (js := [0,1,2]) wide_ rfl rfl rfl ?_ ?_
 ·refine GA.tk 0 [0,0,1] [0,1,2] ?_;refine GA.tk 1 [0,0,1] [0,1,2] ?_;refine GA.tk 2 [0,0,1] [0,1,2] ?_;refine GA.tp 3 rfl [0,0,1] [0,1,2] (i_mem (m_load (i := 1) rfl rfl ag_291 rfl)) ?_;refine GA.tk 4 [0,0,1] [0,1,2] ?_
  refine GA.tk 5 [0,0,1] [0,1,2] ?_;refine GA.tp 6 rfl [0,0,1] [0,1,2] (i_mem (m_loadN (i := 2) rfl rfl ag_52 (vs := [_,_]) sz_52 ⟨rfl,rfl,trivial⟩)) ?_
  have hlen : r.data.length ≤ 262144 := resOk_len h2
  refine GA.al [7] ?_
  refine GAs.cons (i := 7) rfl rfl (t_call rfl Tryz.call217 rfl (is := []) (js := [2]) rfl rfl (by exact own_ct _ _ _ _ (by first | omega | exact Nat.le_trans hlen (by decide)))) (by rintro a w ⟨_,_,_,⟨A41,cp41,l41,k41,rfl,rfl,rfl⟩,h⟩; exact h.me [1,1,2] [0,1,2]) (GA.ret ?_) GAs.nil
  rintro _ _ _ ⟨A41,cp41,l41,k41,rfl,rfl,rfl⟩
  refine GA.tp 8 rfl [1,1,2] [0,1,2] (i_pure (p_build ze_299 of_299 rfl rfl)) ?_;refine GA.freezeB (i := 0) rfl ?_;refine GA.al [9] ?_
  refine GAs.cons (i := 9) rfl rfl (t_mapUpdate (i := 2) (j := 2) (u := (⟨se,r⟩ : Last)) (r := ((),((),(A41,cp41)))) (js := [0]) rfl rfl rfl rfl rfl ⟨trivial,trivial,l41,k41⟩ rfl Tryz.underlying291 Tryz.underlying3 (fun _ _ => rfl)) (by rintro a w ⟨_,_,h⟩; exact h.me [0,0,1] [2,3,4]) (GA.ex fun es_mu10 => GA.ex fun ck_mu10 => ?_) GAs.nil
  exact GA.done (by kernel_rfl) (fun a w h => ⟨_,_,h.cut (is := [1,1]) (js := [0]) trivial rfl rfl⟩)
 refine (?_ : GC _ _ _ _)
 refine GC.ex fun es2 => GC.ex fun ck2 => ?_;refine GC.rg 1 ?_;refine GC.ret (Fin.b1 8 [0,0] [0] ?_)
 refine ⟨es2,ck2,congrArg (Value.int .i64) ?_,rfl,?_⟩ <;> simp [tputF, *]
theorem TabOk.put {T : List (Int × Last)} (h : TabOk T) (cl se : Int) (r : Res) : TabOk (tputF T cl se r).2 := by
  unfold tputF
  split
  · exact h
  · split
    · exact h
    · rename_i hr
      split
      · exact h
      · split
        · exact h
        · intro k l hl
          by_cases hk : k = cl
          · subst hk
            rw [mget_mput_same] at hl
            simp only [Option.some.injEq] at hl
            subst hl
            exact resOk_len (by simpa using hr)
          · rw [mget_mput_other _ _ hk] at hl
            exact h k l hl
theorem tnew_ct : Ct Tryz.prog 192 [] [] [] (fun v G Q => ∃ p m,v = .pointer (some ⟨p,0,none⟩) ∧ G = tabG p m #[] 0 ∧ Q = [Pers.map kLast true [] #[] 0]) := by
 refine Ct.intro Tryz.func192 rfl rfl rfl (fun c hc => ?_)
 refine GC.rg 1 ?_;refine GC.sr_ ?_;refine GL.step rfl (t_makeMap rfl) (GL.ex fun m_t1 => ?_);refine GL.pure rfl (p_build ze_293 of_293 rfl rfl) ?_;refine GL.step rfl (t_box rfl rfl rfl) (GL.ex fun b_t3 => ?_);refine GL.rz 1 ?_
 refine GC.know (q := Pers.map kLast true [] #[] 0) (fun _ _ _ => ⟨trivial,Stamped.nil⟩) ?_;refine GC.ret (Fin.b1 0 [0,0] [0] ?_)
 exact ⟨_,_,rfl,rfl,rfl⟩
theorem put_eq (p m : Nat) (es : Array MapEntry) (ck : Nat) (T : List (Int × Last)) (cl se : Int) (r : Res) (A : Option Addr) (cp : Nat) (hT : TabOk T) (e : Int) (T' : List (Int × Last)) (he : tputF T cl se r = (e,T')) :
    Ct Tryz.prog 193 [.pointer (some ⟨p,0,none⟩),.int .i64 cl,.int .i64 se,.agg #[.int .u8 r.code,.slice A r.data.length cp]] (tabG p m es ck) [Pers.map kLast true T es ck,Pers.row Kd.u8 A r.data]
      (fun v G Q => ∃ es' ck',v = .int .i64 e ∧ G = tabG p m es' ck' ∧ Q = [Pers.map kLast true T' es' ck']) := by
  have := put_ct p m es ck T cl se r A cp hT
  rw [he] at this
  exact this
theorem TabOk.nil : TabOk [] := fun k l h => by simp [mget] at h
theorem TabOk.one (c s : Int) (r : Res) (h : r.data.length ≤ 262144) : TabOk [(c,⟨s,r⟩)] := fun k l hl => by
  simp only [mget] at hl
  split at hl
  · simp at hl; subst hl; exact h
  · cases hl
def rowOk (r : Row) : Bool := isNum r.client && isNum r.serial && resOk r.result.code r.result.data.length
def incB : Int → List Row → Bool
  | _,[] => true
  | b,r :: l => rowOk r && decide (b < r.client) && incB r.client l
def rightF (l : List Row) : Bool := decide (l.length ≤ 64) && incB 0 l
def lastC (l : List Row) : Nat → Int
  | 0 => 0
  | k + 1 => (gt l (k : Int)).client
theorem tdrop_gt {α : Type} [Inhabited α] {l : List α} {k : Nat} (h : k < l.length) : l.drop k = gt l (k : Int) :: l.drop (k + 1) := by
  have := gt_ok (xs := l) (i := (k : Int)) (by omega) (by omega)
  simp only [Int.toNat_natCast] at this
  rw [List.drop_eq_getElem_cons h]
  rw [List.getElem?_eq_getElem h] at this
  simp only [Option.some.injEq] at this
  rw [this]
theorem incB_step {l : List Row} {k : Nat} {b : Int} (h : k < l.length) : incB b (l.drop k) = (rowOk (gt l (k : Int)) && decide (b < (gt l (k : Int)).client) && incB (gt l (k : Int)).client (l.drop (k + 1))) := by
  rw [tdrop_gt h]; rfl
theorem isNum_pos {n : Int} (h : isNum n = true) : 1 ≤ n ∧ n ≤ 4611686018427387904 := by simpa [isNum] using h
theorem sameRes_iff (r s : Res) : sameRes r s = decide (r = s) := by
  cases r; cases s; simp [sameRes]
theorem row_ext {r s : Row} (h1 : r.client = s.client) (h2 : r.serial = s.serial) (h3 : r.result = s.result) : r = s := by
  cases r; cases s; simp_all
theorem gt_ne {α : Type} [Inhabited α] {a b : List α} {k : Int} (h : gt a k ≠ gt b k) : a ≠ b := fun e => h (by rw [e])
theorem list_ext_gt {α : Type} [Inhabited α] {a b : List α} (hl : a.length = b.length) (h : ∀ j : Nat,j < a.length → gt a (j : Int) = gt b (j : Int)) : a = b := by
  apply List.ext_getElem hl
  intro i h1 h2
  have g1 := gt_ok (xs := a) (i := (i : Int)) (by omega) (by omega)
  have g2 := gt_ok (xs := b) (i := (i : Int)) (by omega) (by omega)
  simp only [Int.toNat_natCast,List.getElem?_eq_getElem h1,List.getElem?_eq_getElem h2,Option.some.injEq] at g1 g2
  rw [g1,g2,h i h1]
theorem rsame_ct (A : Option Addr) (a_ : List Row) (cp : Nat) (B : Option Addr) (b_ : List Row) (cq : Nat) (hl : a_.length ≤ 140737488355328) : Ct Tryz.prog 52 [.slice A a_.length cp,.slice B b_.length cq] [] [Pers.row kRow A a_,Pers.row kRow B b_] (fun u G Q => u = .bool (decide (a_ = b_)) ∧ G = [] ∧ Q = []) := by
 refine Ct.intro Tryz.func52 rfl rfl rfl (fun c hc => ?_)
 refine GC.rg 1 ?_;refine GC.seq' ?_;refine GC.rg 5 ?_;refine GC.co ?_ ?_
 ·intro h1; try simp only [tst_,sameRes_iff] at h1
  first
  | (exfalso; omega)
  |(skip
    refine GC.rg 1 ?_;refine GC.ret (Fin.b1 4 [] [] ?_)
    exact ⟨congrArg Value.bool (decide_eq_false fun e => by subst e; omega).symm,rfl,rfl⟩)
 intro h1; try simp only [tst_,sameRes_iff] at h1
 first
 | (exfalso; omega)
 |(skip
   refine GC.skip (?_ : GC _ _ _ _)
   refine GC.seq' ?_;refine GC.rg 1 ?_;refine GC.block ?_;refine GC.loopK1 (ks := [0,1]) (is := []) (js := [0,1]) (fun (k : Nat) => k ≤ a_.length ∧ ∀ j : Nat,j < k → gt a_ (j : Int) = gt b_ (j : Int)) (fun (k : Nat) => [(5,.int .i64 (k : Int))]) (fun (k : Nat) => []) (fun (k : Nat) => []) (fun (k : Nat) => a_.length - k) (0) rfl rfl rfl (fun a w h => ⟨⟨by omega,fun j hj => by omega⟩,h.cutK (is := []) (js := [0,1]) (ks := [0,1]) ⟨rfl,trivial⟩ rfl rfl rfl⟩) ?_
   intro k hk
   try dsimp only [List.cons_append,List.nil_append] at hk ⊢
   obtain ⟨hk,he⟩ := hk
   refine GC.seq' ?_;refine GC.rg 4 ?_;refine GC.co ?_ ?_
   ·intro h2; try simp only [tst_,sameRes_iff] at h2
    first
    | (exfalso; omega)
    |(skip
      refine GC.skip (?_ : GC _ _ _ _)
      refine GC.seq' ?_;refine GC.block ?_;refine GC.seq' ?_;refine GC.layQ (y := .tmp 5) (j := 0) rfl rfl (by omega) (gt_ok (by omega) (by omega)) (fun p_x19 r_x19 hA_x19 ok_x19 => ?_)
      rcases r_x19 with ⟨_,⟨_,⟨_,⟨Ax19_0,cpx19_0⟩⟩⟩⟩
      refine GC.layQ (y := .tmp 5) (j := 3) rfl rfl (by omega) (gt_ok (by omega) (by omega)) (fun p_x24 r_x24 hA_x24 ok_x24 => ?_)
      rcases r_x24 with ⟨_,⟨_,⟨_,⟨Ax24_0,cpx24_0⟩⟩⟩⟩
      refine GC.layQ (y := .tmp 5) (j := 4) rfl rfl (by omega) (gt_ok (by omega) (by omega)) (fun p_x31 r_x31 hA_x31 ok_x31 => ?_)
      rcases r_x31 with ⟨_,⟨_,⟨_,⟨Ax31_0,cpx31_0⟩⟩⟩⟩
      refine GC.layQ (y := .tmp 5) (j := 7) rfl rfl (by omega) (gt_ok (by omega) (by omega)) (fun p_x36 r_x36 hA_x36 ok_x36 => ?_)
      rcases r_x36 with ⟨_,⟨_,⟨_,⟨Ax36_0,cpx36_0⟩⟩⟩⟩
      refine GC.layQ (y := .tmp 5) (j := 8) rfl rfl (by omega) (gt_ok (by omega) (by omega)) (fun p_x44 r_x44 hA_x44 ok_x44 => ?_)
      rcases r_x44 with ⟨_,⟨_,⟨_,⟨Ax44_0,cpx44_0⟩⟩⟩⟩
      refine GC.layQ (y := .tmp 5) (j := 11) rfl rfl (by omega) (gt_ok (by omega) (by omega)) (fun p_x49 r_x49 hA_x49 ok_x49 => ?_)
      rcases r_x49 with ⟨_,⟨_,⟨_,⟨Ax49_0,cpx49_0⟩⟩⟩⟩
      refine GC.regionQ wide_ (by kernel_rfl) ?_;refine GQ.rn 2 ?_;refine GQ.step rfl (q_pure (p_indexL hA_x19 rfl rfl Tryz.underlying59 sz_166 (by omega) (by omega))) ?_;refine GQ.step rfl (q_pure (p_fieldAddr' fo_166_0 rfl)) ?_
      refine GQ.step rfl (q_mem (m_loadP (i := 10) rfl rfl ag_3 rfl)) ?_;refine GQ.rn 2 ?_;refine GQ.step rfl (q_pure (p_indexL hA_x24 rfl rfl Tryz.underlying59 sz_166 (by omega) (by omega))) ?_;refine GQ.step rfl (q_pure (p_fieldAddr' fo_166_0 rfl)) ?_
      refine GQ.step rfl (q_mem (m_loadP (i := 8) rfl rfl ag_3 rfl)) ?_;refine GQ.rn 2 ?_;refine GQ.split (i := 28) rfl (fun h3 => ?_) (fun h3 => ?_)
      ·try simp only [tst_,sameRes_iff] at h3
       first
       | (exfalso; omega)
       |(skip
         refine GQ.rn 26 ?_
         refine GQ.nil (?_ : GC _ _ _ _)
         refine GC.cond_true rfl ?_;refine GC.rg 1 ?_;refine GC.ret (Fin.b1 4 [] [] ?_)
         exact ⟨congrArg Value.bool (decide_eq_false (gt_ne (k := (k : Int)) fun e => by simp_all)).symm,rfl,rfl⟩)
      try simp only [tst_,sameRes_iff] at h3
      first
      | (exfalso; omega)
      |(skip
        refine GQ.rn 2 ?_;refine GQ.stepG (s := 28) rfl rfl rfl (q_pure (p_indexL hA_x31 rfl rfl Tryz.underlying59 sz_166 (by omega) (by omega))) ?_;refine GQ.stepG (s := 28) rfl rfl rfl (q_pure (p_fieldAddr' fo_166_1 rfl)) ?_
        refine GQ.stepG (s := 28) rfl rfl rfl (q_mem (m_loadP (i := 6) rfl rfl ag_3 rfl)) ?_;refine GQ.rn 2 ?_;refine GQ.stepG (s := 28) rfl rfl rfl (q_pure (p_indexL hA_x36 rfl rfl Tryz.underlying59 sz_166 (by omega) (by omega))) ?_
        refine GQ.stepG (s := 28) rfl rfl rfl (q_pure (p_fieldAddr' fo_166_1 rfl)) ?_;refine GQ.stepG (s := 28) rfl rfl rfl (q_mem (m_loadP (i := 4) rfl rfl ag_3 rfl)) ?_;refine GQ.rn 3 ?_;refine GQ.split (i := 41) rfl (fun h4 => ?_) (fun h4 => ?_)
        ·try simp only [tst_,sameRes_iff] at h4
         first
         | (exfalso; omega)
         |(skip
           refine GQ.rn 13 ?_
           refine GQ.nil (?_ : GC _ _ _ _)
           refine GC.cond_true rfl ?_;refine GC.rg 1 ?_;refine GC.ret (Fin.b1 4 [] [] ?_)
           exact ⟨congrArg Value.bool (decide_eq_false (gt_ne (k := (k : Int)) fun e => by simp_all)).symm,rfl,rfl⟩)
        try simp only [tst_,sameRes_iff] at h4
        first
        | (exfalso; omega)
        |(skip
          refine GQ.rn 2 ?_;refine GQ.stepG (s := 41) rfl rfl rfl (q_pure (p_indexL hA_x44 rfl rfl Tryz.underlying59 sz_166 (by omega) (by omega))) ?_;refine GQ.stepG (s := 41) rfl rfl rfl (q_pure (p_fieldAddr' fo_166_2 rfl)) ?_
          refine GQ.stepG (s := 41) rfl rfl rfl (q_mem (m_loadPN (i := 2) rfl rfl ag_52 (vs := [_,_]) sz_52 ⟨rfl,rfl,trivial⟩)) ?_;refine GQ.rn 2 ?_;refine GQ.stepG (s := 41) rfl rfl rfl (q_pure (p_indexL hA_x49 rfl rfl Tryz.underlying59 sz_166 (by omega) (by omega))) ?_
          refine GQ.stepG (s := 41) rfl rfl rfl (q_pure (p_fieldAddr' fo_166_2 rfl)) ?_;refine GQ.stepG (s := 41) rfl rfl rfl (q_mem (m_loadPN (i := 0) rfl rfl ag_52 (vs := [_,_]) sz_52 ⟨rfl,rfl,trivial⟩)) ?_;refine GQ.stepG (s := 41) rfl rfl rfl (q_call Tryz.call26 rfl (js := [3,1]) rfl (by exact same_ct _ _ _ _ _ _)) ?_
          refine GQ.rn 2 ?_
          refine GQ.nil (?_ : GC _ _ _ _)
          refine GC.co ?_ ?_
          ·intro h5; try simp only [tst_,sameRes_iff] at h5
           first
           | (exfalso; omega)
           |(skip
             refine GC.rg 1 ?_;refine GC.ret (Fin.b1 4 [] [] ?_)
             exact ⟨congrArg Value.bool (decide_eq_false (gt_ne (k := (k : Int)) fun e => by simp_all)).symm,rfl,rfl⟩)
          intro h5; try simp only [tst_,sameRes_iff] at h5
          first
          | (exfalso; omega)
          |(skip
            refine GC.skip (?_ : GC _ _ _ _)
            refine GC.region ?_;refine GL.rn 1 ?_;refine GL.pure rfl (p_add rfl rfl (w64 (by omega) (by omega))) ?_;refine GL.rn 1 ?_;refine GL.nil ?_
            exact fun a w h => ⟨(k + 1),(by omega),⟨by omega,fun j hj => (Nat.lt_succ_iff_lt_or_eq.1 hj).elim (he j) (fun e => by subst e; exact row_ext (by assumption) (by assumption) (by assumption))⟩,h.ct [] [12,13]⟩))))
   intro h2; try simp only [tst_,sameRes_iff] at h2
   first
   | (exfalso; omega)
   |(skip
     refine GC.exit (?_ : GC _ _ _ _)
     refine GC.rg 1 ?_;refine GC.ret (Fin.b1 4 [] [] ?_)
     exact ⟨congrArg Value.bool (decide_eq_true (list_ext_gt (by omega) fun j hj => he j (by omega))).symm,rfl,rfl⟩))
theorem samec_ct (r s : Row) (A : Option Addr) (cp : Nat) (B : Option Addr) (cq : Nat) : Ct Tryz.prog 188 [.agg #[.int .i64 r.client,.int .i64 r.serial,.int .u8 r.result.code,.slice A r.result.data.length cp],.agg #[.int .i64 s.client,.int .i64 s.serial,.int .u8 s.result.code,.slice B s.result.data.length cq]] [] [Pers.row Kd.u8 A r.result.data,Pers.row Kd.u8 B s.result.data] (fun u G Q => u = .bool (decide (r = s)) ∧ G = [] ∧ Q = []) := by
 refine Ct.intro Tryz.func188 rfl rfl rfl (fun c hc => ?_)
 refine GC.sr_ ?_;refine GL.step rfl (t_box rfl rfl rfl) (GL.ex fun b_t2 => ?_);refine GL.step rfl (t_box rfl rfl rfl) (GL.ex fun b_t3 => ?_);refine GL.rz 1 ?_;refine GC.rr 1 ?_;refine GL.ld_ 1 ?_;refine GL.rn 1 ?_
 refine GL.ld_ 0 ?_;refine GL.rn 2 ?_;refine GL.sp 10 ?_ ?_
 ·intro h1; try simp only [tst_] at h1
  refine GL.rn 1 ?_;refine GL.dg_ 1 ?_;refine GL.rn 1 ?_;refine GL.dg_ 0 ?_;refine GL.rn 3 ?_;refine GL.sp 17 ?_ ?_
  ·intro h2; try simp only [tst_] at h2
   refine GL.rn 2 ?_;refine GL.dg_ 1 ?_;refine GL.rn 2 ?_;refine GL.dg_ 0 ?_;refine GL.rn 3 ?_;refine GL.sp 26 ?_ ?_
   ·intro h3; try simp only [tst_] at h3
    refine GL.rn 2 ?_;refine GL.dg_ 1 ?_;refine GL.rn 2 ?_;refine GL.dg_ 0 ?_;refine GL.stepG rfl (s := 26) rfl rfl (t_call rfl Tryz.call50 rfl (is := []) (js := [0,1]) rfl rfl (by exact equal_ct _ _ _ _ _ _)) (GL.ret ?_)
    rintro _ _ _ ⟨rfl,rfl,rfl⟩
    refine GL.rz 2 ?_;refine GC.ret (Fin.b1 4 [] [] ?_)
    refine ⟨congrArg Value.bool ?_,rfl,rfl⟩; obtain ⟨r1,r2,r3,r4⟩ := r; obtain ⟨s1,s2,s3,s4⟩ := s; simp_all
   intro h3; try simp only [tst_] at h3
   refine GL.rz 9 ?_;refine GC.ret (Fin.b1 4 [] [] ?_)
   refine ⟨congrArg Value.bool ?_,rfl,rfl⟩; obtain ⟨r1,r2,r3,r4⟩ := r; obtain ⟨s1,s2,s3,s4⟩ := s; simp_all
  intro h2; try simp only [tst_] at h2
  refine GL.rz 18 ?_;refine GC.ret (Fin.b1 4 [] [] ?_)
  refine ⟨congrArg Value.bool ?_,rfl,rfl⟩; obtain ⟨r1,r2,r3,r4⟩ := r; obtain ⟨s1,s2,s3,s4⟩ := s; simp_all
 intro h1; try simp only [tst_] at h1
 refine GL.rz 25 ?_;refine GC.ret (Fin.b1 4 [] [] ?_)
 refine ⟨congrArg Value.bool ?_,rfl,rfl⟩; obtain ⟨r1,r2,r3,r4⟩ := r; obtain ⟨s1,s2,s3,s4⟩ := s; simp_all
theorem eqfunc_ct (A : Option Addr) (a_ : List Row) (cp : Nat) (B : Option Addr) (b_ : List Row) (cq : Nat) (hl : a_.length ≤ 140737488355328) : Ct Tryz.prog 187 [.slice A a_.length cp,.slice B b_.length cq,.func (.func 188) #[] #[]] [] [Pers.row kRow A a_,Pers.row kRow B b_] (fun u G Q => u = .bool (decide (a_ = b_)) ∧ G = [] ∧ Q = []) := by
 refine Ct.intro Tryz.func187 rfl rfl rfl (fun c hc => ?_)
 refine GC.rg 1 ?_;refine GC.seq' ?_;refine GC.rg 5 ?_;refine GC.co ?_ ?_
 ·intro h1; try simp only [tst_] at h1
  first
  | (exfalso; omega)
  |(skip
    refine GC.rg 1 ?_;refine GC.ret (Fin.b1 6 [] [] ?_)
    exact ⟨congrArg Value.bool (decide_eq_false fun e => by subst e; omega).symm,rfl,rfl⟩)
 intro h1; try simp only [tst_] at h1
 first
 | (exfalso; omega)
 |(skip
   refine GC.skip (?_ : GC _ _ _ _)
   refine GC.seq' ?_;refine GC.rg 3 ?_;refine GC.block ?_;refine GC.loopK1 (ks := [1,2,15,16]) (is := []) (js := [0,1]) (fun (k : Nat) => k ≤ a_.length ∧ ∀ j : Nat,j < k → gt a_ (j : Int) = gt b_ (j : Int)) (fun (k : Nat) => [(17,.int .i64 (k : Int))]) (fun (k : Nat) => []) (fun (k : Nat) => []) (fun (k : Nat) => a_.length - k) (0) rfl rfl rfl (fun a w h => ⟨⟨by omega,fun j hj => by omega⟩,h.cutK (is := []) (js := [0,1]) (ks := [1,2,15,16]) ⟨rfl,trivial⟩ rfl rfl rfl⟩) ?_
   intro k hk
   try dsimp only [List.cons_append,List.nil_append] at hk ⊢
   obtain ⟨hk,he⟩ := hk
   refine GC.rg 1 ?_;refine GC.seq' ?_;refine GC.co ?_ ?_
   ·intro h2; try simp only [tst_] at h2
    first
    | (exfalso; omega)
    |(skip
      refine GC.skip (?_ : GC _ _ _ _)
      refine GC.seq' ?_;refine GC.block ?_;refine GC.rr 1 ?_;refine GL.step rfl (t_index (i := 0) rfl rfl rfl rfl Tryz.underlying59 sz_166 (by omega) (gt_ok (by omega) (by omega))) (GL.ex fun p_x20 => GL.ex fun r_x20 => GL.and fun ok_x20 => ?_)
      rcases r_x20 with ⟨_,⟨_,⟨_,⟨Ax20_0,cpx20_0⟩⟩⟩⟩
      refine GL.step rfl (t_mem rfl (m_loadPN (i := 0) rfl rfl ag_166 (vs := [_,_,_,_]) sz_166 ⟨rfl,rfl,rfl,rfl,trivial⟩)) ?_;refine GL.step rfl (t_alloc rfl ze_166) (GL.ex fun b_t8 => ?_);refine GL.rn 1 ?_;refine GL.sn_ 0 ?_
      refine GL.nr 2 ?_;refine GL.step rfl (t_index (i := 3) rfl rfl rfl rfl Tryz.underlying59 sz_166 (by omega) (gt_ok (by omega) (by omega))) (GL.ex fun p_x24 => GL.ex fun r_x24 => GL.and fun ok_x24 => ?_)
      rcases r_x24 with ⟨_,⟨_,⟨_,⟨Ax24_0,cpx24_0⟩⟩⟩⟩
      refine GL.step rfl (t_mem rfl (m_loadPN (i := 0) rfl rfl ag_166 (vs := [_,_,_,_]) sz_166 ⟨rfl,rfl,rfl,rfl,trivial⟩)) ?_;refine GL.step rfl (t_alloc rfl ze_166) (GL.ex fun b_t9 => ?_);refine GL.sn_ 0 ?_;refine GL.nr 1 ?_
      refine GL.ln_ 1 4 ?_;refine GL.ln_ 0 4 ?_;refine GL.step rfl (t_callv rfl Tryz.call188 rfl rfl (is := []) (js := [3,1]) rfl rfl (by exact samec_ct _ _ _ _ _ _)) (GL.ret ?_)
      rintro _ _ _ ⟨rfl,rfl,rfl⟩
      refine GL.rz 1 ?_;refine GC.co ?_ ?_
      ·intro h3; try simp only [tst_] at h3
       first
       | (exfalso; omega)
       |(skip
         refine GC.rg 1 ?_;refine GC.ret (Fin.b1 6 [] [] ?_)
         exact ⟨congrArg Value.bool (decide_eq_false (gt_ne (k := (k : Int)) (by assumption))).symm,rfl,rfl⟩)
      intro h3; try simp only [tst_] at h3
      first
      | (exfalso; omega)
      |(skip
        refine GC.skip (?_ : GC _ _ _ _)
        refine GC.region ?_;refine GL.pure rfl (p_add rfl rfl (w64 (by omega) (by omega))) ?_;refine GL.rn 1 ?_;refine GL.nil ?_
        exact fun a w h => ⟨(k + 1),(by omega),⟨by omega,fun j hj => (Nat.lt_succ_iff_lt_or_eq.1 hj).elim (he j) (fun e => by subst e; assumption)⟩,h.ct [] [4,5]⟩))
   intro h2; try simp only [tst_] at h2
   first
   | (exfalso; omega)
   |(skip
     refine GC.exit (?_ : GC _ _ _ _)
     refine GC.rg 1 ?_;refine GC.ret (Fin.b1 6 [] [] ?_)
     exact ⟨congrArg Value.bool (decide_eq_true (list_ext_gt (by omega) fun j hj => he j (by omega))).symm,rfl,rfl⟩))
theorem tsame_ct (A : Option Addr) (a_ : List Row) (cp : Nat) (B : Option Addr) (b_ : List Row) (cq : Nat) (hl : a_.length ≤ 140737488355328) : Ct Tryz.prog 149 [.slice A a_.length cp,.slice B b_.length cq] [] [Pers.row kRow A a_,Pers.row kRow B b_] (fun u G Q => u = .bool (decide (a_ = b_)) ∧ G = [] ∧ Q = []) := by
 refine Ct.intro Tryz.func149 rfl rfl rfl (fun c hc => ?_)
 refine GC.rg 1 ?_;refine GC.rr 2 ?_;refine GL.cl Tryz.call187 [] [0,1] rfl rfl rfl (by exact eqfunc_ct _ _ _ _ _ _ (by first | assumption | omega)) ?_
 rintro _ _ _ ⟨rfl,rfl,rfl⟩
 refine GL.rz 1 ?_;refine GC.ret (Fin.b1 4 [] [] ?_)
 exact ⟨rfl,rfl,rfl⟩
def IncL (L : List Row) : Prop := L.Pairwise fun r s => r.client < s.client
theorem incB_iff : ∀ {L : List Row} {b : Int},incB b L = true ↔ ((∀ x ∈ L,rowOk x = true ∧ b < x.client) ∧ IncL L)
  | [],b => by simp [incB,IncL]
  | x :: xs,b => by
    rw [incB,Bool.and_eq_true,Bool.and_eq_true,decide_eq_true_eq,incB_iff (L := xs)]
    constructor
    · rintro ⟨⟨h1,h2⟩,h3,h4⟩
      refine ⟨fun y hy => ?_,List.pairwise_cons.2 ⟨fun y hy => (h3 y hy).2,h4⟩⟩
      rcases List.mem_cons.1 hy with rfl | hy
      · exact ⟨h1,h2⟩
      · have := (h3 y hy).2; exact ⟨(h3 y hy).1,by omega⟩
    · rintro ⟨h1,h2⟩
      obtain ⟨h3,h4⟩ := List.pairwise_cons.1 h2
      exact ⟨h1 x (List.mem_cons_self ..),fun y hy => ⟨(h1 y (List.mem_cons_of_mem _ hy)).1,h3 y hy⟩,h4⟩
theorem right_iff {L : List Row} : rightF L = true ↔ (L.length ≤ 64 ∧ (∀ x ∈ L,rowOk x = true) ∧ IncL L) := by
  rw [rightF,Bool.and_eq_true,decide_eq_true_eq,incB_iff]
  constructor
  · rintro ⟨h1,h2,h3⟩; exact ⟨h1,fun x hx => (h2 x hx).1,h3⟩
  · rintro ⟨h1,h2,h3⟩
    refine ⟨h1,fun x hx => ⟨h2 x hx,?_⟩,h3⟩
    have := h2 x hx
    simp only [rowOk,Bool.and_eq_true] at this
    have := isNum_pos this.1.1
    omega
def toLast (r : Row) : Last := ⟨r.serial,r.result⟩
def tabOf (l : List Row) : List (Int × Last) := l.map fun r => (r.client,toLast r)
def okAt (l : List Row) (k : Nat) : Prop := rowOk (gt l (k : Int)) = true ∧ lastC l k < (gt l (k : Int)).client
theorem incB_at {l : List Row} : ∀ (k : Nat),k ≤ l.length → (∀ j,j < k → okAt l j) → incB 0 l = incB (lastC l k) (l.drop k)
  | 0,_,_ => rfl
  | k + 1,hk,h => by
    rw [incB_at k (by omega) fun j hj => h j (by omega),incB_step (by omega),(h k (by omega)).1,decide_eq_true (h k (by omega)).2]; rfl
theorem right_at {l : List Row} (h : rightF l = true) : ∀ k,k < l.length → okAt l k := by
  intro k
  induction k using Nat.strongRecOn with
  | _ k ih =>
    intro hk
    have h1 := incB_at k (by omega) fun j hj => ih j hj (by omega)
    simp only [rightF,Bool.and_eq_true] at h
    rw [h.2,incB_step hk] at h1
    have := h1.symm
    simp only [Bool.and_eq_true,decide_eq_true_eq] at this
    exact this.1
theorem right_of {l : List Row} (h : ∀ k,k < l.length → okAt l k) (h64 : l.length ≤ 64) : rightF l = true := by
  rw [rightF,incB_at l.length (Nat.le_refl _) h,List.drop_of_length_le (Nat.le_refl _),decide_eq_true h64]; rfl
theorem cl_le {l : List Row} : ∀ (k : Nat),k ≤ l.length → (∀ j,j < k → okAt l j) → ∀ r ∈ l.take k,r.client ≤ lastC l k
  | 0,_,_,r,hr => by simp at hr
  | k + 1,hk,h,r,hr => by
    rw [take_gt (by omega)] at hr
    rcases List.mem_append.1 hr with hr | hr
    · have := cl_le k (by omega) (fun j hj => h j (by omega)) r hr
      have := (h k (by omega)).2
      simp only [lastC]; omega
    · rw [List.mem_singleton.1 hr]; exact Int.le_refl _
theorem mget_out {l : List Row} {c : Int} (h : ∀ r ∈ l,r.client ≠ c) : mget (tabOf l) c = none := by
  induction l with
  | nil => rfl
  | cons x xs ih =>
    simp only [tabOf,List.map_cons,mget]
    rw [if_neg (h x (List.mem_cons_self ..))]
    exact ih fun r hr => h r (List.mem_cons_of_mem _ hr)
theorem mput_out {α : Type} {c : Int} {x : α} : ∀ {T : List (Int × α)},mget T c = none → mput T c x = T ++ [(c,x)]
  | [],_ => rfl
  | (j,y) :: T,h => by
    rw [mget] at h
    split at h
    · cases h
    · rename_i hj
      rw [mput,if_neg hj,mput_out h]; rfl
theorem mget_in {l : List Row} {c : Int} {x : Last} (h : mget (tabOf l) c = some x) : ∃ r ∈ l,r.client = c ∧ toLast r = x := by
  induction l with
  | nil => cases h
  | cons y ys ih =>
    simp only [tabOf,List.map_cons,mget] at h
    split at h
    · rename_i e
      simp only [Option.some.injEq] at h
      exact ⟨y,List.mem_cons_self ..,e,h⟩
    · obtain ⟨r,hr,h1⟩ := ih h
      exact ⟨r,List.mem_cons_of_mem _ hr,h1⟩
theorem tabOk_of {l : List Row} (h : ∀ r ∈ l,rowOk r = true) : TabOk (tabOf l) := fun c x hx => by
  obtain ⟨r,hr,_,rfl⟩ := mget_in hx
  have := h r hr
  simp only [rowOk,Bool.and_eq_true] at this
  exact resOk_len this.2
theorem take_ok {l : List Row} {k : Nat} (hk : k ≤ l.length) (h : ∀ j,j < k → okAt l j) : ∀ r ∈ l.take k,rowOk r = true := fun r hr => by
  obtain ⟨j,hj,rfl⟩ := List.getElem_of_mem hr
  simp only [List.length_take] at hj
  have g := gt_ok (xs := l) (i := (j : Int)) (by omega) (by omega)
  simp only [Int.toNat_natCast,List.getElem?_eq_getElem (show j < l.length by omega),Option.some.injEq] at g
  rw [List.getElem_take,g]
  exact (h j (by omega)).1
theorem put_next {l : List Row} {k : Nat} (hk : k < l.length) (h : ∀ j,j < k → okAt l j) (hok : okAt l k) (h64 : k < 64) :
    tputF (tabOf (l.take k)) (gt l (k : Int)).client (gt l (k : Int)).serial (gt l (k : Int)).result = (0,tabOf (l.take (k + 1))) := by
  have h1 := hok.1
  simp only [rowOk,Bool.and_eq_true] at h1
  have hn : mget (tabOf (l.take k)) (gt l (k : Int)).client = none := mget_out fun r hr => by
    have := cl_le k (by omega) h r hr
    have := hok.2
    omega
  have hlen : (tabOf (l.take k)).length = k := by simp [tabOf]; omega
  have e : askF (tabOf (l.take k)) (gt l (k : Int)).client (gt l (k : Int)).serial = (1,rz,0) := by
    unfold askF
    rw [if_neg (by rw [h1.1.1,h1.1.2]; simp),hn]
    simp only
    rw [if_neg (by rw [hlen]; omega)]
  unfold tputF
  rw [e]
  rw [if_neg (by simp),if_neg (by rw [h1.2]; simp),if_neg (by simp),if_neg (by simp),mput_out hn,take_gt hk]
  simp only [tabOf,List.map_append]; rfl
theorem put_bad {l : List Row} {k : Nat} (hk : k < l.length) (h : ∀ j,j < k → okAt l j) (hk64 : k ≤ 64) (hbad : ¬ (okAt l k ∧ k < 64)) (hlt : lastC l k < (gt l (k : Int)).client) :
    (tputF (tabOf (l.take k)) (gt l (k : Int)).client (gt l (k : Int)).serial (gt l (k : Int)).result).1 ≠ 0 := by
  have hlen : (tabOf (l.take k)).length = k := by simp [tabOf]; omega
  have hn : mget (tabOf (l.take k)) (gt l (k : Int)).client = none := mget_out fun r hr => by
    have := cl_le k (by omega) h r hr
    omega
  unfold tputF
  by_cases hc : isNum (gt l (k : Int)).client = false ∨ isNum (gt l (k : Int)).serial = false
  · have e : askF (tabOf (l.take k)) (gt l (k : Int)).client (gt l (k : Int)).serial = (0,rz,5) := by unfold askF; rw [if_pos hc]
    rw [e]; simp
  · have e : askF (tabOf (l.take k)) (gt l (k : Int)).client (gt l (k : Int)).serial = if (((tabOf (l.take k)).length : Nat) : Int) = 64 then (4,rz,0) else (1,rz,0) := by
      unfold askF; rw [if_neg hc,hn]
    rw [e,hlen]
    by_cases hr : resOk (gt l (k : Int)).result.code (gt l (k : Int)).result.data.length = true
    · have hok : okAt l k := ⟨by
        simp only [rowOk,hr,Bool.and_true,Bool.and_eq_true]
        simpa using hc,hlt⟩
      have h64 : ¬ k < 64 := fun h => hbad ⟨hok,h⟩
      rw [if_pos (show ((k : Nat) : Int) = 64 by omega)]; simp [hr]
    · split <;> simp [hr]
theorem tload_ok (A : Option Addr) (l : List Row) (cp : Nat) (hl : l.length ≤ 140737488355328) (hr : rightF l = true) : Ct Tryz.prog 152 [.slice A l.length cp] [] [Pers.row kRow A l]
    (fun u G Q => ∃ p m es ck,u = .tuple #[.pointer (some ⟨p,0,none⟩),.int .i64 0] ∧ G = tabG p m es ck ∧ Q = [Pers.map kLast true (tabOf l) es ck]) := by
 have hall := right_at hr
 have h64 : l.length ≤ 64 := (right_iff.1 hr).1
 refine Ct.intro Tryz.func152 rfl rfl rfl (fun c hc => ?_)
 refine GC.rg 2 ?_;refine GC.sr_ ?_;refine GL.cl Tryz.call192 [] [] rfl rfl rfl (by exact tnew_ct) ?_
 rintro _ _ _ ⟨p8,m8,rfl,rfl,rfl⟩
 refine GL.rz 1 ?_;refine GC.rg 1 ?_;refine GC.seq' ?_;refine GC.rg 3 ?_;refine GC.block ?_;refine GC.loopK3 (ks := [4,9,10]) (is := [0]) (js := [0,1]) (fun (k : Nat) (es : Array MapEntry) (ck : Nat) => k ≤ l.length) (fun (k : Nat) (es : Array MapEntry) (ck : Nat) => [(5,.int .i64 (lastC l k)),(11,.int .i64 (k : Int))]) (fun (k : Nat) (es : Array MapEntry) (ck : Nat) => [.blk m8 (.map es ck)]) (fun (k : Nat) (es : Array MapEntry) (ck : Nat) => [Pers.map kLast true (tabOf (l.take k)) es ck]) (fun (k : Nat) (es : Array MapEntry) (ck : Nat) => l.length - k) (0) (_) (_) rfl rfl rfl (fun a w h => ⟨by omega,h.cutK (is := [1,0]) (js := [0,0,1]) (ks := [4,9,10]) ⟨rfl,rfl,trivial⟩ rfl rfl rfl⟩) ?_
 intro k es ck hk
 try dsimp only [List.cons_append,List.nil_append] at hk ⊢
 refine GC.rg 1 ?_;refine GC.seq' ?_;refine GC.co ?_ ?_
 ·intro h1; try simp only [tst_] at h1
  first
  | (exfalso; first | omega | (have := (hall k (by omega)).2; omega))
  |(skip
    refine GC.skip (?_ : GC _ _ _ _)
    refine GC.seq' ?_;refine GC.block ?_;refine GC.sr_ ?_;refine GL.step rfl (t_index (i := 2) rfl rfl rfl rfl Tryz.underlying59 sz_166 (by omega) (gt_ok (by omega) (by omega))) (GL.ex fun p_x13 => GL.ex fun r_x13 => GL.and fun ok_x13 => ?_)
    rcases r_x13 with ⟨_,⟨_,⟨_,⟨Ax13_0,cpx13_0⟩⟩⟩⟩
    refine GL.step rfl (t_mem rfl (m_loadPN (i := 0) rfl rfl ag_166 (vs := [_,_,_,_]) sz_166 ⟨rfl,rfl,rfl,rfl,trivial⟩)) ?_;refine GL.step rfl (t_alloc rfl ze_166) (GL.ex fun b_t7 => ?_);refine GL.sn_ 0 ?_;refine GL.nl_ ?_
    refine GC.seq' ?_;refine GC.rr 1 ?_;refine GL.ld_ 0 ?_;refine GL.rn 3 ?_;refine GL.sp 19 ?_ ?_
    ·intro h2; try simp only [tst_] at h2
     first
     | (exfalso; first | omega | (have := (hall k (by omega)).2; omega))
     |(skip
       refine GL.rz 10 ?_;refine GC.cond_true rfl ?_;refine GC.rg 2 ?_;refine GC.ret (Fin.b2 2 3 [2,1] [2] ?_)
       exact ⟨rfl,rfl,rfl⟩)
    intro h2; try simp only [tst_] at h2
    first
    | (exfalso; first | omega | (have := (hall k (by omega)).2; omega))
    |(skip
      refine GL.rn 2 ?_;refine GL.dg_ 0 ?_;refine GL.rn 1 ?_;refine GL.dg_ 0 ?_;refine GL.rn 1 ?_;refine GL.lg_ 0 2 ?_;refine GL.stepG rfl (s := 19) rfl rfl (t_call rfl Tryz.call193 rfl (is := [2,1]) (js := [2,1]) rfl rfl (by exact put_eq _ _ _ _ (tabOf (l.take k)) _ _ (gt l (k : Int)).result _ _ (tabOk_of (take_ok hk fun j hj => hall j (by omega))) 0 (tabOf (l.take (k + 1))) (put_next (by omega) (fun j hj => hall j (by omega)) (hall k (by omega)) (by omega)))) (GL.ret ?_)
      rintro _ _ _ ⟨es27,ck27,rfl,rfl,rfl⟩
      refine GL.rz 2 ?_;refine GC.cond_false rfl ?_
      refine GC.skip (?_ : GC _ _ _ _)
      refine GC.region ?_;refine GL.rn 1 ?_;refine GL.ld_ 2 ?_;refine GL.rn 1 ?_
      refine GL.nil (?_ : GC _ _ _ _)
      refine GC.region ?_;refine GL.pure rfl (p_add rfl rfl (w64 (by omega) (by omega))) ?_;refine GL.rn 1 ?_;refine GL.nil ?_
      exact fun a w h => ⟨(k + 1),(_),(_),(by omega),by omega,h.cut (is := [1,0]) (js := [0,4,5]) ⟨rfl,rfl,rfl,rfl,rfl,trivial⟩ rfl rfl⟩))
 intro h1; try simp only [tst_] at h1
 first
 | (exfalso; first | omega | (have := (hall k (by omega)).2; omega))
 |(skip
   refine GC.exit (?_ : GC _ _ _ _)
   refine GC.rg 3 ?_;refine GC.ret (Fin.b2 2 3 [1,0] [0] ?_)
   obtain rfl : k = l.length := by omega
   rw [List.take_length]
   exact ⟨_,_,_,_,rfl,rfl,rfl⟩)
theorem tload_bad (A : Option Addr) (l : List Row) (cp : Nat) (hl : l.length ≤ 140737488355328) (hr : rightF l = false) : Ct Tryz.prog 152 [.slice A l.length cp] [] [Pers.row kRow A l] (fun u G Q => u = .tuple #[.pointer none,.int .i64 60] ∧ G = [] ∧ Q = []) := by
 refine Ct.intro Tryz.func152 rfl rfl rfl (fun c hc => ?_)
 refine GC.rg 2 ?_;refine GC.sr_ ?_;refine GL.cl Tryz.call192 [] [] rfl rfl rfl (by exact tnew_ct) ?_
 rintro _ _ _ ⟨p8,m8,rfl,rfl,rfl⟩
 refine GL.rz 1 ?_;refine GC.rg 1 ?_;refine GC.seq' ?_;refine GC.rg 3 ?_;refine GC.block ?_;refine GC.loopK3 (ks := [4,9,10]) (is := [0]) (js := [0,1]) (fun (k : Nat) (es : Array MapEntry) (ck : Nat) => k ≤ l.length ∧ (∀ j,j < k → okAt l j) ∧ k ≤ 64) (fun (k : Nat) (es : Array MapEntry) (ck : Nat) => [(5,.int .i64 (lastC l k)),(11,.int .i64 (k : Int))]) (fun (k : Nat) (es : Array MapEntry) (ck : Nat) => [.blk m8 (.map es ck)]) (fun (k : Nat) (es : Array MapEntry) (ck : Nat) => [Pers.map kLast true (tabOf (l.take k)) es ck]) (fun (k : Nat) (es : Array MapEntry) (ck : Nat) => l.length - k) (0) (_) (_) rfl rfl rfl (fun a w h => ⟨⟨by omega,fun j hj => by omega,by omega⟩,h.cutK (is := [1,0]) (js := [0,0,1]) (ks := [4,9,10]) ⟨rfl,rfl,trivial⟩ rfl rfl rfl⟩) ?_
 intro k es ck hk
 try dsimp only [List.cons_append,List.nil_append] at hk ⊢
 refine GC.rg 1 ?_;refine GC.seq' ?_;refine GC.co ?_ ?_
 ·intro h1; try simp only [tst_] at h1
  first
  | (exfalso; first | omega | (simp at h1; done))
  |(skip
    refine GC.skip (?_ : GC _ _ _ _)
    refine GC.seq' ?_;refine GC.block ?_;refine GC.sr_ ?_
    by_cases hok : okAt l k ∧ k < 64
    ·skip
     refine GL.step rfl (t_index (i := 2) rfl rfl rfl rfl Tryz.underlying59 sz_166 (by omega) (gt_ok (by omega) (by omega))) (GL.ex fun p_x13 => GL.ex fun r_x13 => GL.and fun ok_x13 => ?_)
     rcases r_x13 with ⟨_,⟨_,⟨_,⟨Ax13_0,cpx13_0⟩⟩⟩⟩
     refine GL.step rfl (t_mem rfl (m_loadPN (i := 0) rfl rfl ag_166 (vs := [_,_,_,_]) sz_166 ⟨rfl,rfl,rfl,rfl,trivial⟩)) ?_;refine GL.step rfl (t_alloc rfl ze_166) (GL.ex fun b_t7 => ?_);refine GL.sn_ 0 ?_;refine GL.nl_ ?_
     refine GC.seq' ?_;refine GC.rr 1 ?_;refine GL.ld_ 0 ?_;refine GL.rn 3 ?_;refine GL.sp 19 ?_ ?_
     ·intro h2; try simp only [tst_] at h2
      first
      | (exfalso; first | omega | (have := hok.1.2; omega))
      |(skip
        refine GL.rz 10 ?_;refine GC.cond_true rfl ?_;refine GC.rg 2 ?_;refine GC.ret (Fin.b2 2 3 [] [] ?_)
        exact ⟨rfl,rfl,rfl⟩)
     intro h2; try simp only [tst_] at h2
     first
     | (exfalso; first | omega | (have := hok.1.2; omega))
     |(skip
       refine GL.rn 2 ?_;refine GL.dg_ 0 ?_;refine GL.rn 1 ?_;refine GL.dg_ 0 ?_;refine GL.rn 1 ?_;refine GL.lg_ 0 2 ?_;refine GL.stepG rfl (s := 19) rfl rfl (t_call rfl Tryz.call193 rfl (is := [2,1]) (js := [2,1]) rfl rfl (by exact put_eq _ _ _ _ (tabOf (l.take k)) _ _ (gt l (k : Int)).result _ _ (tabOk_of (take_ok hk.1 hk.2.1)) 0 (tabOf (l.take (k + 1))) (put_next (by omega) hk.2.1 hok.1 hok.2))) (GL.ret ?_)
       rintro _ _ _ ⟨es27,ck27,rfl,rfl,rfl⟩
       refine GL.rz 2 ?_;refine GC.cond_false rfl ?_
       refine GC.skip (?_ : GC _ _ _ _)
       refine GC.region ?_;refine GL.rn 1 ?_;refine GL.ld_ 2 ?_;refine GL.rn 1 ?_
       refine GL.nil (?_ : GC _ _ _ _)
       refine GC.region ?_;refine GL.pure rfl (p_add rfl rfl (w64 (by omega) (by omega))) ?_;refine GL.rn 1 ?_;refine GL.nil ?_
       exact fun a w h => ⟨(k + 1),(_),(_),(by omega),⟨by omega,fun j hj => (Nat.lt_succ_iff_lt_or_eq.1 hj).elim (hk.2.1 j) (fun e => by subst e; exact hok.1),by omega⟩,h.cut (is := [1,0]) (js := [0,4,5]) ⟨rfl,rfl,rfl,rfl,rfl,trivial⟩ rfl rfl⟩)
    skip
    refine GL.step rfl (t_index (i := 2) rfl rfl rfl rfl Tryz.underlying59 sz_166 (by omega) (gt_ok (by omega) (by omega))) (GL.ex fun p_x13 => GL.ex fun r_x13 => GL.and fun ok_x13 => ?_)
    rcases r_x13 with ⟨_,⟨_,⟨_,⟨Ax13_0,cpx13_0⟩⟩⟩⟩
    refine GL.step rfl (t_mem rfl (m_loadPN (i := 0) rfl rfl ag_166 (vs := [_,_,_,_]) sz_166 ⟨rfl,rfl,rfl,rfl,trivial⟩)) ?_;refine GL.step rfl (t_alloc rfl ze_166) (GL.ex fun b_t7 => ?_);refine GL.sn_ 0 ?_;refine GL.nl_ ?_
    refine GC.seq' ?_;refine GC.rr 1 ?_;refine GL.ld_ 0 ?_;refine GL.rn 3 ?_;refine GL.sp 19 ?_ ?_
    ·intro h3; try simp only [tst_] at h3
     first
     | (exfalso; first | omega | exact put_bad (by omega) hk.2.1 hk.2.2 hok (by omega) h3)
     |(skip
       refine GL.rz 10 ?_;refine GC.cond_true rfl ?_;refine GC.rg 2 ?_;refine GC.ret (Fin.b2 2 3 [] [] ?_)
       exact ⟨rfl,rfl,rfl⟩)
    intro h3; try simp only [tst_] at h3
    first
    | (exfalso; first | omega | exact put_bad (by omega) hk.2.1 hk.2.2 hok (by omega) h3)
    |(skip
      refine GL.rn 2 ?_;refine GL.dg_ 0 ?_;refine GL.rn 1 ?_;refine GL.dg_ 0 ?_;refine GL.rn 1 ?_;refine GL.lg_ 0 2 ?_;refine GL.stepG rfl (s := 19) rfl rfl (t_call rfl Tryz.call193 rfl (is := [2,1]) (js := [2,1]) rfl rfl (by exact put_ct _ _ _ _ (tabOf (l.take k)) _ _ (gt l (k : Int)).result _ _ (tabOk_of (take_ok hk.1 hk.2.1)))) (GL.ret ?_)
      rintro _ _ _ ⟨es27,ck27,rfl,rfl,rfl⟩
      refine GL.rz 2 ?_;refine GC.co ?_ ?_
      ·intro h4; try simp only [tst_] at h4
       first
       | (exfalso; first | omega | exact put_bad (by omega) hk.2.1 hk.2.2 hok (by omega) h4)
       |(skip
         refine GC.rg 2 ?_;refine GC.ret (Fin.b2 2 3 [] [] ?_)
         exact ⟨rfl,rfl,rfl⟩)
      intro h4; try simp only [tst_] at h4
      first
      | (exfalso; first | omega | exact put_bad (by omega) hk.2.1 hk.2.2 hok (by omega) h4)
      |(skip
        refine GC.skip (?_ : GC _ _ _ _)
        refine GC.region ?_;refine GL.rn 1 ?_;refine GL.ld_ 2 ?_;refine GL.rn 1 ?_
        refine GL.nil (?_ : GC _ _ _ _)
        refine GC.region ?_;refine GL.pure rfl (p_add rfl rfl (w64 (by omega) (by omega))) ?_;refine GL.rn 1 ?_;refine GL.nil ?_
        exact fun a w h => ⟨(k + 1),(_),(_),(by omega),⟨by omega,fun j hj => (Nat.lt_succ_iff_lt_or_eq.1 hj).elim (hk.2.1 j) (fun e => by subst e; exact hok.1),by omega⟩,h.cut (is := [1,0]) (js := [0,4,5]) ⟨rfl,rfl,rfl,rfl,rfl,trivial⟩ rfl rfl⟩)))
 intro h1; try simp only [tst_] at h1
 first
 | (exfalso; first | omega | (simp at h1; done))
 |(skip
   refine GC.exit (?_ : GC _ _ _ _)
   refine GC.rg 3 ?_;refine GC.ret (Fin.b2 2 3 [] [] ?_)
   exfalso
   obtain rfl : k = l.length := by omega
   rw [right_of hk.2.1 hk.2.2] at hr
   cases hr)
abbrev kI : Kd Int := Kd.int .i64
abbrev iv (x : Int) : Value := Value.int .i64 x
theorem mem_gt {α : Type} [Inhabited α] {l : List α} {x : α} (h : x ∈ l) : ∃ k : Nat,k < l.length ∧ gt l (k : Int) = x := by
  obtain ⟨k,hk,rfl⟩ := List.getElem_of_mem h
  have g := gt_ok (xs := l) (i := (k : Int)) (by omega) (by omega)
  simp only [Int.toNat_natCast,List.getElem?_eq_getElem hk,Option.some.injEq] at g
  exact ⟨k,hk,g.symm⟩
theorem ext_gtI {α : Type} [Inhabited α] {a b : List α} (hl : a.length = b.length) (h : ∀ j : Nat,j < a.length → gt a (j : Int) = gt b (j : Int)) : a = b := by
  apply List.ext_getElem hl
  intro i h1 h2
  have g1 := gt_ok (xs := a) (i := (i : Int)) (by omega) (by omega)
  have g2 := gt_ok (xs := b) (i := (i : Int)) (by omega) (by omega)
  simp only [Int.toNat_natCast,List.getElem?_eq_getElem h1,List.getElem?_eq_getElem h2,Option.some.injEq] at g1 g2
  rw [g1,g2,h i h1]
theorem zq8_ {X : Prop} (h : X := by (exact ⟨congrArg Value.bool (decide_eq_false fun e => by subst e; omega).symm,rfl,rfl⟩)) : X := h
theorem zq9_ {X : Prop} (h : X := by (exact ⟨congrArg Value.bool (decide_eq_false (fun e => by subst e; omega)).symm,rfl,rfl⟩)) : X := h
theorem zq10_ {X : Prop} (h : X := by (exact ⟨congrArg Value.bool (decide_eq_true (ext_gtI (by omega) fun j hj => he j (by omega))).symm,rfl,rfl⟩)) : X := h
theorem equal_i (A : Option Addr) (x : List Int) (cp : Nat) (B : Option Addr) (y : List Int) (cq : Nat) (hl : x.length ≤ 140737488355328) : Ct Tryz.prog 189 [.slice A x.length cp,.slice B y.length cq] [] [Pers.row kI A x,Pers.row kI B y] (fun u G Q => u = .bool (decide (x = y)) ∧ G = [] ∧ Q = []) := by
 refine Ct.intro Tryz.func189 rfl rfl rfl (fun c hc => ?_)
 refine GC.rg 1 ?_;refine GC.seq' ?_;refine GC.rg 5 ?_;refine GC.co ?_ ?_
 ·intro h1; try simp only [tst_] at h1
  refine GC.rg 1 ?_;refine GC.ret (Fin.b1 4 [] [] ?_)
  exact zq8_
 intro h1; try simp only [tst_] at h1
 refine GC.skip (?_ : GC _ _ _ _)
 refine GC.seq' ?_;refine GC.rg 3 ?_;refine GC.block ?_;refine GC.loopK1 (ks := [0,1,12]) (is := []) (js := [0,1]) (fun (k : Nat) => k ≤ x.length ∧ ∀ j : Nat,j < k → gt x (j : Int) = gt y (j : Int)) (fun (k : Nat) => [(13,.int .i64 (k : Int))]) (fun (k : Nat) => []) (fun (k : Nat) => []) (fun (k : Nat) => x.length - k) (0) rfl rfl rfl (fun a w h => ⟨⟨by omega,fun j hj => by omega⟩,h.cutK (is := []) (js := [0,1]) (ks := [0,1,12]) ⟨rfl,trivial⟩ rfl rfl rfl⟩) ?_
 intro k hk
 try dsimp only [List.cons_append,List.nil_append] at hk ⊢
 obtain ⟨hk,he⟩ := hk
 refine GC.rg 1 ?_;refine GC.seq' ?_;refine GC.co ?_ ?_
 ·intro h2; try simp only [tst_] at h2
  refine GC.skip (?_ : GC _ _ _ _)
  refine GC.seq' ?_;refine GC.block ?_;refine GC.rg 2 ?_;refine GC.seq' ?_;refine GC.layQ (y := .tmp 5) (j := 0) rfl rfl (by omega) (gt_ok (by omega) (by omega)) (fun p_x18 r_x18 hA_x18 ok_x18 => ?_)
  rcases r_x18 with _
  refine GC.layQ (y := .tmp 5) (j := 2) rfl rfl (by omega) (gt_ok (by omega) (by omega)) (fun p_x22 r_x22 hA_x22 ok_x22 => ?_)
  rcases r_x22 with _
  refine GC.regionQ wide_ (by kernel_rfl) ?_;refine GQ.rn 2 ?_;refine GQ.step rfl (q_pure (p_indexL hA_x18 rfl rfl Tryz.underlying53 sz_3 (by omega) (by omega))) ?_;refine GQ.step rfl (q_mem (m_loadP (i := 1) rfl rfl ag_3 rfl)) ?_
  refine GQ.rn 2 ?_;refine GQ.step rfl (q_pure (p_indexL hA_x22 rfl rfl Tryz.underlying53 sz_3 (by omega) (by omega))) ?_;refine GQ.step rfl (q_mem (m_loadP (i := 0) rfl rfl ag_3 rfl)) ?_;refine GQ.rn 1 ?_
  refine GQ.nil (?_ : GC _ _ _ _)
  refine GC.co ?_ ?_
  ·intro h3; try simp only [tst_] at h3
   refine GC.rg 1 ?_;refine GC.ret (Fin.b1 4 [] [] ?_)
   exact zq9_
  intro h3; try simp only [tst_] at h3
  refine GC.skip (?_ : GC _ _ _ _)
  refine GC.region ?_;refine GL.pure rfl (p_add rfl rfl (w64 (by omega) (by omega))) ?_;refine GL.rn 1 ?_;refine GL.nil ?_
  exact fun a w h => ⟨(k + 1),(by omega),⟨by omega,fun j hj => (Nat.lt_succ_iff_lt_or_eq.1 hj).elim (he j) (fun e => by subst e; omega)⟩,h.ct [] [2,3]⟩
 intro h2; try simp only [tst_] at h2
 refine GC.exit (?_ : GC _ _ _ _)
 refine GC.rg 1 ?_;refine GC.ret (Fin.b1 4 [] [] ?_)
 exact zq10_
theorem clone_i (A : Option Addr) (xs : List Int) (cp : Nat) (hx : xs.length ≤ 17592186044416) : Ct Tryz.prog 195 [.slice A xs.length cp] [] [Pers.row kI A xs]
    (fun v G Q => ∃ A' cp',xs.length ≤ cp' ∧ cp' ≤ 9223372036854775807 ∧ v = .slice A' xs.length cp' ∧ G = [.row (.slice A' xs.length cp') 3 1 xs.length (xs.map iv)] ∧ Q = []) := by
 cases A with
 | none =>
   refine Ct.pure (fun w S h => row_none (h.per _ (List.mem_singleton.2 rfl))) fun hx0 => ?_
   subst hx0
   refine Ct.intro Tryz.func195 rfl rfl rfl (fun c hc => ?_)
   refine GC.rg 1 ?_;refine GC.seq' ?_;refine GC.rr 1 ?_;refine GL.pure rfl (p_slnil_eql Tryz.underlying53 rfl rfl) ?_;refine GL.nl_ ?_;refine GC.cond_true rfl ?_;refine GC.rg 1 ?_;refine GC.nilrow 3 1 ?_;refine GC.ret (Fin.b1 2 [0] [] ?_)
   exact ⟨_,_,by simp,by simp,rfl,rfl,rfl⟩
 | some a =>
   refine Ct.intro Tryz.func195 rfl rfl rfl (fun c hc => ?_)
   refine GC.rg 1 ?_;refine GC.seq' ?_;refine GC.rr 1 ?_;refine GL.pure rfl (p_slnil_eql Tryz.underlying53 rfl rfl) ?_;refine GL.nl_ ?_;refine GC.cond_false rfl ?_
   refine GC.skip (?_ : GC _ _ _ _)
   refine GC.sr_ ?_;refine GL.step rfl (t_buildSlice rfl Tryz.underlying53 sz_3 ze_3 rfl rfl rfl rfl rfl rfl) (GL.ex fun b_t5 => ?_);refine GL.rn 1 ?_;refine GL.torow (i := 0) (m := 0) (sz := 1) rfl rfl (by decide) rfl ?_
   refine GL.step rfl (t_appendS (i := 0) (k := 0) rfl el_53 rfl rfl rfl rfl (by simp; omega) (fun _ => rfl)) (GL.ex fun v7 => ?_);refine GL.rz 1 ?_;refine GC.shape (i := 0) rfl (fun A1 c1 e1 l1 l2 => ?_)
   subst e1
   simp only [Nat.zero_add,List.nil_append] at l1 ⊢
   refine GC.ret (Fin.b1 2 [0] [] ?_)
   exact ⟨_,_,l1,l2,rfl,rfl,rfl⟩
def incI : Int → List Int → Bool
  | _,[] => true
  | b,x :: l => decide (b < x) && decide (x < 64) && incI x l
def groupOk (e : Int) (l : List Int) : Bool := decide (0 ≤ e) && decide (e ≤ 4611686018427387904) && decide (1 ≤ l.length) && decide (l.length ≤ 9) && incI (-1) l
def lastI (l : List Int) : Nat → Int
  | 0 => -1
  | k + 1 => gt l (k : Int)
theorem drop_gtI {α : Type} [Inhabited α] {l : List α} {k : Nat} (h : k < l.length) : l.drop k = gt l (k : Int) :: l.drop (k + 1) := by
  have := gt_ok (xs := l) (i := (k : Int)) (by omega) (by omega)
  simp only [Int.toNat_natCast] at this
  rw [List.drop_eq_getElem_cons h]
  rw [List.getElem?_eq_getElem h] at this
  simp only [Option.some.injEq] at this
  rw [this]
theorem incI_step {l : List Int} {k : Nat} {b : Int} (h : k < l.length) : incI b (l.drop k) = (decide (b < gt l (k : Int)) && decide (gt l (k : Int) < 64) && incI (gt l (k : Int)) (l.drop (k + 1))) := by
  rw [drop_gtI h]; rfl
theorem grp_next {x b nb : Bool} {l : List Int} {k : Nat} (hk : k < l.length) (he : x = (b && incI (lastI l k) (l.drop k))) (hb : nb = (b && decide (lastI l k < gt l (k : Int)) && decide (gt l (k : Int) < 64))) : x = (nb && incI (lastI l (k + 1)) (l.drop (k + 1))) := by
  subst hb; rw [he,incI_step hk,lastI,Bool.and_assoc,Bool.and_assoc,Bool.and_assoc]
abbrev grpV (e : Int) (A : Option Addr) (n cp : Nat) : Value := .agg #[.int .i64 e,.slice A n cp]
theorem zq11_ {X : Prop} (h : X := by (exact fun a w h => ⟨(k + 1),(_),(by omega),⟨by omega,grp_next (by omega) he (by rw [Bool.eq_iff_iff]; (try simp [*]) <;> omega)⟩,h.cut (is := [0]) (js := [1]) ⟨rfl,rfl,rfl,rfl,rfl,trivial⟩ rfl rfl⟩)) : X := h
theorem mgroup_ct (e : Int) (A : Option Addr) (l : List Int) (cp : Nat) (hl : l.length ≤ 140737488355328) : Ct Tryz.prog 89 [grpV e A l.length cp] [] [Pers.row kI A l] (fun u G Q => u = .int .i64 (if groupOk e l = true then 0 else 71) ∧ G = [] ∧ Q = []) := by
 refine Ct.intro Tryz.func89 rfl rfl rfl (fun c hc => ?_)
 refine GC.sr_ ?_;refine GL.step rfl (t_box rfl rfl rfl) (GL.ex fun b_t1 => ?_);refine GL.rz 1 ?_;refine GC.rr 1 ?_;refine GL.ld_ 0 ?_;refine GL.rn 2 ?_;refine GL.sp 10 ?_ ?_
 ·intro h1; try simp only [tst_] at h1
  refine GL.rn 1 ?_;refine GL.dg_ 0 ?_;refine GL.rn 3 ?_;refine GL.sp 15 ?_ ?_
  ·intro h2; try simp only [tst_] at h2
   refine GL.rn 1 ?_;refine GL.dg_ 0 ?_;refine GL.rn 4 ?_;refine GL.sp 21 ?_ ?_
   ·intro h3; try simp only [tst_] at h3
    refine GL.rn 1 ?_;refine GL.dg_ 0 ?_;refine GL.rz 4 ?_;refine GC.rg 1 ?_;refine GC.seq' ?_;refine GC.rr 1 ?_;refine GL.ld_ 0 ?_;refine GL.rz 2 ?_;refine GC.block ?_;refine GC.loopK2 (ks := [28,29]) (is := [0]) (js := [0]) (fun (k : Nat) (b : Bool) => k ≤ l.length ∧ groupOk e l = (b && incI (lastI l k) (l.drop k))) (fun (k : Nat) (b : Bool) => [(3,.bool b),(4,.int .i64 (lastI l k)),(30,.int .i64 (k : Int))]) (fun (k : Nat) (b : Bool) => []) (fun (k : Nat) (b : Bool) => []) (fun (k : Nat) (b : Bool) => l.length - k) (0) (_) rfl rfl rfl (fun a w h => ⟨⟨by omega,by unfold groupOk; congr 1; rw [Bool.eq_iff_iff]; (try simp) <;> omega⟩,h.cutK (is := [0]) (js := [0]) (ks := [28,29]) ⟨rfl,rfl,rfl,trivial⟩ rfl rfl rfl⟩) ?_
    intro k b hk
    try dsimp only [List.cons_append,List.nil_append] at hk ⊢
    obtain ⟨hk,he⟩ := hk
    refine GC.rg 1 ?_;refine GC.seq' ?_;refine GC.co ?_ ?_
    ·intro h4; try simp only [tst_] at h4
     refine GC.skip (?_ : GC _ _ _ _)
     refine GC.seq' ?_;refine GC.block ?_;refine GC.sr_ ?_;refine GL.step rfl (t_index (i := 0) rfl rfl rfl rfl Tryz.underlying53 sz_3 (by omega) (gt_ok (by omega) (by omega))) (GL.ex fun p_x32 => GL.ex fun r_x32 => GL.and fun ok_x32 => ?_)
     rcases r_x32 with _
     refine GL.step rfl (t_mem rfl (m_loadP (i := 0) rfl rfl ag_3 rfl)) ?_;refine GL.rz 1 ?_;refine GC.rr 2 ?_;refine GL.sp 35 ?_ ?_
     ·intro h5; try simp only [tst_] at h5
      refine GL.rn 5 ?_;refine GL.sp 40 ?_ ?_
      ·intro h6; try simp only [tst_] at h6
       refine GL.rz 4 ?_;refine GC.region ?_;refine GL.rn 2 ?_
       refine GL.nil (?_ : GC _ _ _ _)
       refine GC.region ?_;refine GL.pure rfl (p_add rfl rfl (w64 (by omega) (by omega))) ?_;refine GL.rn 1 ?_;refine GL.nil ?_
       exact zq11_
      intro h6; try simp only [tst_] at h6
      refine GL.rz 4 ?_;refine GC.region ?_;refine GL.rn 2 ?_
      refine GL.nil (?_ : GC _ _ _ _)
      refine GC.region ?_;refine GL.pure rfl (p_add rfl rfl (w64 (by omega) (by omega))) ?_;refine GL.rn 1 ?_;refine GL.nil ?_
      exact zq11_
     intro h5; try simp only [tst_] at h5
     refine GL.rz 9 ?_;refine GC.region ?_;refine GL.rn 2 ?_
     refine GL.nil (?_ : GC _ _ _ _)
     refine GC.region ?_;refine GL.pure rfl (p_add rfl rfl (w64 (by omega) (by omega))) ?_;refine GL.rn 1 ?_;refine GL.nil ?_
     exact zq11_
    intro h4; try simp only [tst_] at h4
    refine GC.exit (?_ : GC _ _ _ _)
    refine GC.seq' ?_;refine GC.rg 2 ?_;refine GC.co ?_ ?_
    ·intro h7; try simp only [tst_] at h7
     refine GC.rg 1 ?_;refine GC.ret (Fin.b1 2 [] [] ?_)
     obtain rfl : k = l.length := by omega
     rw [List.drop_of_length_le (Nat.le_refl _)] at he
     refine ⟨congrArg (Value.int .i64) ?_,rfl,rfl⟩
     rw [he]; simp [incI, *]
    intro h7; try simp only [tst_] at h7
    refine GC.skip (?_ : GC _ _ _ _)
    refine GC.rg 1 ?_;refine GC.ret (Fin.b1 2 [] [] ?_)
    obtain rfl : k = l.length := by omega
    rw [List.drop_of_length_le (Nat.le_refl _)] at he
    refine ⟨congrArg (Value.int .i64) ?_,rfl,rfl⟩
    rw [he]; simp [incI, *]
   intro h3; try simp only [tst_] at h3
   refine GL.rz 6 ?_;refine GC.rg 1 ?_;refine GC.seq' ?_;refine GC.rr 1 ?_;refine GL.ld_ 0 ?_;refine GL.rz 2 ?_;refine GC.block ?_;refine GC.loopK2 (ks := [28,29]) (is := [0]) (js := [0]) (fun (k : Nat) (b : Bool) => k ≤ l.length ∧ groupOk e l = (b && incI (lastI l k) (l.drop k))) (fun (k : Nat) (b : Bool) => [(3,.bool b),(4,.int .i64 (lastI l k)),(30,.int .i64 (k : Int))]) (fun (k : Nat) (b : Bool) => []) (fun (k : Nat) (b : Bool) => []) (fun (k : Nat) (b : Bool) => l.length - k) (0) (_) rfl rfl rfl (fun a w h => ⟨⟨by omega,by unfold groupOk; congr 1; rw [Bool.eq_iff_iff]; (try simp) <;> omega⟩,h.cutK (is := [0]) (js := [0]) (ks := [28,29]) ⟨rfl,rfl,rfl,trivial⟩ rfl rfl rfl⟩) ?_
   intro k b hk
   try dsimp only [List.cons_append,List.nil_append] at hk ⊢
   obtain ⟨hk,he⟩ := hk
   refine GC.rg 1 ?_;refine GC.seq' ?_;refine GC.co ?_ ?_
   ·intro h8; try simp only [tst_] at h8
    refine GC.skip (?_ : GC _ _ _ _)
    refine GC.seq' ?_;refine GC.block ?_;refine GC.sr_ ?_;refine GL.step rfl (t_index (i := 0) rfl rfl rfl rfl Tryz.underlying53 sz_3 (by omega) (gt_ok (by omega) (by omega))) (GL.ex fun p_x32 => GL.ex fun r_x32 => GL.and fun ok_x32 => ?_)
    rcases r_x32 with _
    refine GL.step rfl (t_mem rfl (m_loadP (i := 0) rfl rfl ag_3 rfl)) ?_;refine GL.rz 1 ?_;refine GC.rr 2 ?_;refine GL.sp 35 ?_ ?_
    ·intro h9; try simp only [tst_] at h9
     refine GL.rn 5 ?_;refine GL.sp 40 ?_ ?_
     ·intro h10; try simp only [tst_] at h10
      refine GL.rz 4 ?_;refine GC.region ?_;refine GL.rn 2 ?_
      refine GL.nil (?_ : GC _ _ _ _)
      refine GC.region ?_;refine GL.pure rfl (p_add rfl rfl (w64 (by omega) (by omega))) ?_;refine GL.rn 1 ?_;refine GL.nil ?_
      exact zq11_
     intro h10; try simp only [tst_] at h10
     refine GL.rz 4 ?_;refine GC.region ?_;refine GL.rn 2 ?_
     refine GL.nil (?_ : GC _ _ _ _)
     refine GC.region ?_;refine GL.pure rfl (p_add rfl rfl (w64 (by omega) (by omega))) ?_;refine GL.rn 1 ?_;refine GL.nil ?_
     exact zq11_
    intro h9; try simp only [tst_] at h9
    refine GL.rz 9 ?_;refine GC.region ?_;refine GL.rn 2 ?_
    refine GL.nil (?_ : GC _ _ _ _)
    refine GC.region ?_;refine GL.pure rfl (p_add rfl rfl (w64 (by omega) (by omega))) ?_;refine GL.rn 1 ?_;refine GL.nil ?_
    exact zq11_
   intro h8; try simp only [tst_] at h8
   refine GC.exit (?_ : GC _ _ _ _)
   refine GC.seq' ?_;refine GC.rg 2 ?_;refine GC.co ?_ ?_
   ·intro h11; try simp only [tst_] at h11
    refine GC.rg 1 ?_;refine GC.ret (Fin.b1 2 [] [] ?_)
    obtain rfl : k = l.length := by omega
    rw [List.drop_of_length_le (Nat.le_refl _)] at he
    refine ⟨congrArg (Value.int .i64) ?_,rfl,rfl⟩
    rw [he]; simp [incI, *]
   intro h11; try simp only [tst_] at h11
   refine GC.skip (?_ : GC _ _ _ _)
   refine GC.rg 1 ?_;refine GC.ret (Fin.b1 2 [] [] ?_)
   obtain rfl : k = l.length := by omega
   rw [List.drop_of_length_le (Nat.le_refl _)] at he
   refine ⟨congrArg (Value.int .i64) ?_,rfl,rfl⟩
   rw [he]; simp [incI, *]
  intro h2; try simp only [tst_] at h2
  refine GL.rz 12 ?_;refine GC.rg 1 ?_;refine GC.seq' ?_;refine GC.rr 1 ?_;refine GL.ld_ 0 ?_;refine GL.rz 2 ?_;refine GC.block ?_;refine GC.loopK2 (ks := [28,29]) (is := [0]) (js := [0]) (fun (k : Nat) (b : Bool) => k ≤ l.length ∧ groupOk e l = (b && incI (lastI l k) (l.drop k))) (fun (k : Nat) (b : Bool) => [(3,.bool b),(4,.int .i64 (lastI l k)),(30,.int .i64 (k : Int))]) (fun (k : Nat) (b : Bool) => []) (fun (k : Nat) (b : Bool) => []) (fun (k : Nat) (b : Bool) => l.length - k) (0) (_) rfl rfl rfl (fun a w h => ⟨⟨by omega,by unfold groupOk; congr 1; rw [Bool.eq_iff_iff]; (try simp) <;> omega⟩,h.cutK (is := [0]) (js := [0]) (ks := [28,29]) ⟨rfl,rfl,rfl,trivial⟩ rfl rfl rfl⟩) ?_
  intro k b hk
  try dsimp only [List.cons_append,List.nil_append] at hk ⊢
  obtain ⟨hk,he⟩ := hk
  refine GC.rg 1 ?_;refine GC.seq' ?_;refine GC.co ?_ ?_
  ·intro h12; try simp only [tst_] at h12
   refine GC.skip (?_ : GC _ _ _ _)
   refine GC.seq' ?_;refine GC.block ?_;refine GC.sr_ ?_;refine GL.step rfl (t_index (i := 0) rfl rfl rfl rfl Tryz.underlying53 sz_3 (by omega) (gt_ok (by omega) (by omega))) (GL.ex fun p_x32 => GL.ex fun r_x32 => GL.and fun ok_x32 => ?_)
   rcases r_x32 with _
   refine GL.step rfl (t_mem rfl (m_loadP (i := 0) rfl rfl ag_3 rfl)) ?_;refine GL.rz 1 ?_;refine GC.rr 2 ?_;refine GL.sp 35 ?_ ?_
   ·intro h13; try simp only [tst_] at h13
    refine GL.rn 5 ?_;refine GL.sp 40 ?_ ?_
    ·intro h14; try simp only [tst_] at h14
     refine GL.rz 4 ?_;refine GC.region ?_;refine GL.rn 2 ?_
     refine GL.nil (?_ : GC _ _ _ _)
     refine GC.region ?_;refine GL.pure rfl (p_add rfl rfl (w64 (by omega) (by omega))) ?_;refine GL.rn 1 ?_;refine GL.nil ?_
     exact zq11_
    intro h14; try simp only [tst_] at h14
    refine GL.rz 4 ?_;refine GC.region ?_;refine GL.rn 2 ?_
    refine GL.nil (?_ : GC _ _ _ _)
    refine GC.region ?_;refine GL.pure rfl (p_add rfl rfl (w64 (by omega) (by omega))) ?_;refine GL.rn 1 ?_;refine GL.nil ?_
    exact zq11_
   intro h13; try simp only [tst_] at h13
   refine GL.rz 9 ?_;refine GC.region ?_;refine GL.rn 2 ?_
   refine GL.nil (?_ : GC _ _ _ _)
   refine GC.region ?_;refine GL.pure rfl (p_add rfl rfl (w64 (by omega) (by omega))) ?_;refine GL.rn 1 ?_;refine GL.nil ?_
   exact zq11_
  intro h12; try simp only [tst_] at h12
  refine GC.exit (?_ : GC _ _ _ _)
  refine GC.seq' ?_;refine GC.rg 2 ?_;refine GC.co ?_ ?_
  ·intro h15; try simp only [tst_] at h15
   refine GC.rg 1 ?_;refine GC.ret (Fin.b1 2 [] [] ?_)
   obtain rfl : k = l.length := by omega
   rw [List.drop_of_length_le (Nat.le_refl _)] at he
   refine ⟨congrArg (Value.int .i64) ?_,rfl,rfl⟩
   rw [he]; simp [incI, *]
  intro h15; try simp only [tst_] at h15
  refine GC.skip (?_ : GC _ _ _ _)
  refine GC.rg 1 ?_;refine GC.ret (Fin.b1 2 [] [] ?_)
  obtain rfl : k = l.length := by omega
  rw [List.drop_of_length_le (Nat.le_refl _)] at he
  refine ⟨congrArg (Value.int .i64) ?_,rfl,rfl⟩
  rw [he]; simp [incI, *]
 intro h1; try simp only [tst_] at h1
 refine GL.rz 17 ?_;refine GC.rg 1 ?_;refine GC.seq' ?_;refine GC.rr 1 ?_;refine GL.ld_ 0 ?_;refine GL.rz 2 ?_;refine GC.block ?_;refine GC.loopK2 (ks := [28,29]) (is := [0]) (js := [0]) (fun (k : Nat) (b : Bool) => k ≤ l.length ∧ groupOk e l = (b && incI (lastI l k) (l.drop k))) (fun (k : Nat) (b : Bool) => [(3,.bool b),(4,.int .i64 (lastI l k)),(30,.int .i64 (k : Int))]) (fun (k : Nat) (b : Bool) => []) (fun (k : Nat) (b : Bool) => []) (fun (k : Nat) (b : Bool) => l.length - k) (0) (_) rfl rfl rfl (fun a w h => ⟨⟨by omega,by unfold groupOk; congr 1; rw [Bool.eq_iff_iff]; (try simp) <;> omega⟩,h.cutK (is := [0]) (js := [0]) (ks := [28,29]) ⟨rfl,rfl,rfl,trivial⟩ rfl rfl rfl⟩) ?_
 intro k b hk
 try dsimp only [List.cons_append,List.nil_append] at hk ⊢
 obtain ⟨hk,he⟩ := hk
 refine GC.rg 1 ?_;refine GC.seq' ?_;refine GC.co ?_ ?_
 ·intro h16; try simp only [tst_] at h16
  refine GC.skip (?_ : GC _ _ _ _)
  refine GC.seq' ?_;refine GC.block ?_;refine GC.sr_ ?_;refine GL.step rfl (t_index (i := 0) rfl rfl rfl rfl Tryz.underlying53 sz_3 (by omega) (gt_ok (by omega) (by omega))) (GL.ex fun p_x32 => GL.ex fun r_x32 => GL.and fun ok_x32 => ?_)
  rcases r_x32 with _
  refine GL.step rfl (t_mem rfl (m_loadP (i := 0) rfl rfl ag_3 rfl)) ?_;refine GL.rz 1 ?_;refine GC.rr 2 ?_;refine GL.sp 35 ?_ ?_
  ·intro h17; try simp only [tst_] at h17
   refine GL.rn 5 ?_;refine GL.sp 40 ?_ ?_
   ·intro h18; try simp only [tst_] at h18
    refine GL.rz 4 ?_;refine GC.region ?_;refine GL.rn 2 ?_
    refine GL.nil (?_ : GC _ _ _ _)
    refine GC.region ?_;refine GL.pure rfl (p_add rfl rfl (w64 (by omega) (by omega))) ?_;refine GL.rn 1 ?_;refine GL.nil ?_
    exact zq11_
   intro h18; try simp only [tst_] at h18
   refine GL.rz 4 ?_;refine GC.region ?_;refine GL.rn 2 ?_
   refine GL.nil (?_ : GC _ _ _ _)
   refine GC.region ?_;refine GL.pure rfl (p_add rfl rfl (w64 (by omega) (by omega))) ?_;refine GL.rn 1 ?_;refine GL.nil ?_
   exact zq11_
  intro h17; try simp only [tst_] at h17
  refine GL.rz 9 ?_;refine GC.region ?_;refine GL.rn 2 ?_
  refine GL.nil (?_ : GC _ _ _ _)
  refine GC.region ?_;refine GL.pure rfl (p_add rfl rfl (w64 (by omega) (by omega))) ?_;refine GL.rn 1 ?_;refine GL.nil ?_
  exact zq11_
 intro h16; try simp only [tst_] at h16
 refine GC.exit (?_ : GC _ _ _ _)
 refine GC.seq' ?_;refine GC.rg 2 ?_;refine GC.co ?_ ?_
 ·intro h19; try simp only [tst_] at h19
  refine GC.rg 1 ?_;refine GC.ret (Fin.b1 2 [] [] ?_)
  obtain rfl : k = l.length := by omega
  rw [List.drop_of_length_le (Nat.le_refl _)] at he
  refine ⟨congrArg (Value.int .i64) ?_,rfl,rfl⟩
  rw [he]; simp [incI, *]
 intro h19; try simp only [tst_] at h19
 refine GC.skip (?_ : GC _ _ _ _)
 refine GC.rg 1 ?_;refine GC.ret (Fin.b1 2 [] [] ?_)
 obtain rfl : k = l.length := by omega
 rw [List.drop_of_length_le (Nat.le_refl _)] at he
 refine ⟨congrArg (Value.int .i64) ?_,rfl,rfl⟩
 rw [he]; simp [incI, *]
def sameG (e : Int) (l : List Int) (f : Int) (m : List Int) : Bool := decide (e = f) && decide (l = m)
theorem rgsame_ct (e : Int) (A : Option Addr) (l : List Int) (cp : Nat) (f : Int) (B : Option Addr) (m : List Int) (cq : Nat) (hl : l.length ≤ 140737488355328) : Ct Tryz.prog 27 [grpV e A l.length cp,grpV f B m.length cq] [] [Pers.row kI A l,Pers.row kI B m] (fun u G Q => u = .bool (sameG e l f m) ∧ G = [] ∧ Q = []) := by
 refine Ct.intro Tryz.func27 rfl rfl rfl (fun c hc => ?_)
 refine GC.sr_ ?_;refine GL.step rfl (t_box rfl rfl rfl) (GL.ex fun b_t2 => ?_);refine GL.step rfl (t_box rfl rfl rfl) (GL.ex fun b_t3 => ?_);refine GL.rz 1 ?_;refine GC.seq' ?_;refine GC.rr 1 ?_;refine GL.ld_ 1 ?_
 refine GL.rn 1 ?_;refine GL.ld_ 0 ?_;refine GL.rn 2 ?_;refine GL.sp 11 ?_ ?_
 ·intro h1; try simp only [tst_] at h1
  first
  | (exfalso; omega)
  |(skip
    refine GL.rz 8 ?_;refine GC.cond_true rfl ?_;refine GC.rg 1 ?_;refine GC.ret (Fin.b1 4 [] [] ?_)
    refine ⟨congrArg Value.bool ?_,rfl,rfl⟩
    unfold sameG
    symm
    first | (rw [decide_eq_false (show ¬ e = f by assumption)]; rfl) | (rw [decide_eq_false (show ¬ l = m from fun g => by subst g; first | omega | contradiction),Bool.and_false]) | (rw [decide_eq_true (show e = f by omega),decide_eq_true (ext_gtI (by omega) fun j hj => he j (by omega))]; rfl))
 intro h1; try simp only [tst_] at h1
 first
 | (exfalso; omega)
 |(skip
   refine GL.rn 1 ?_;refine GL.dg_ 1 ?_;refine GL.rn 2 ?_;refine GL.dg_ 0 ?_;refine GL.rz 3 ?_;refine GC.co ?_ ?_
   ·intro h2; try simp only [tst_] at h2
    first
    | (exfalso; omega)
    |(skip
      refine GC.rg 1 ?_;refine GC.ret (Fin.b1 4 [] [] ?_)
      refine ⟨congrArg Value.bool ?_,rfl,rfl⟩
      unfold sameG
      symm
      first | (rw [decide_eq_false (show ¬ e = f by assumption)]; rfl) | (rw [decide_eq_false (show ¬ l = m from fun g => by subst g; first | omega | contradiction),Bool.and_false]) | (rw [decide_eq_true (show e = f by omega),decide_eq_true (ext_gtI (by omega) fun j hj => he j (by omega))]; rfl))
   intro h2; try simp only [tst_] at h2
   first
   | (exfalso; omega)
   |(skip
     refine GC.skip (?_ : GC _ _ _ _)
     refine GC.seq' ?_;refine GC.rg 1 ?_;refine GC.block ?_;refine GC.loopK1 (ks := [2,3]) (is := [0,1]) (js := [0,1]) (fun (k : Nat) => k ≤ l.length ∧ ∀ j : Nat,j < k → gt l (j : Int) = gt m (j : Int)) (fun (k : Nat) => [(5,.int .i64 (k : Int))]) (fun (k : Nat) => []) (fun (k : Nat) => []) (fun (k : Nat) => l.length - k) (0) rfl rfl rfl (fun a w h => ⟨⟨by omega,fun j hj => by omega⟩,h.cutK (is := [0,0]) (js := [0,1]) (ks := [2,3]) ⟨rfl,trivial⟩ rfl rfl rfl⟩) ?_
     intro k hk
     try dsimp only [List.cons_append,List.nil_append] at hk ⊢
     obtain ⟨hk,he⟩ := hk
     refine GC.seq' ?_;refine GC.rr 2 ?_;refine GL.ld_ 1 ?_;refine GL.rz 2 ?_;refine GC.co ?_ ?_
     ·intro h3; try simp only [tst_] at h3
      first
      | (exfalso; omega)
      |(skip
        refine GC.skip (?_ : GC _ _ _ _)
        refine GC.seq' ?_;refine GC.block ?_;refine GC.seq' ?_;refine GC.layQ (y := .tmp 5) (j := 0) rfl rfl (by omega) (gt_ok (by omega) (by omega)) (fun p_x30 r_x30 hA_x30 ok_x30 => ?_)
        rcases r_x30 with _
        refine GC.layQ (y := .tmp 5) (j := 2) rfl rfl (by omega) (gt_ok (by omega) (by omega)) (fun p_x35 r_x35 hA_x35 ok_x35 => ?_)
        rcases r_x35 with _
        refine GC.regionQ wide_ (by kernel_rfl) ?_;refine GQ.rn 1 ?_;refine GQ.step rfl (q_mem (m_load (i := 1) rfl rfl ag_53 rfl)) ?_;refine GQ.rn 1 ?_;refine GQ.step rfl (q_pure (p_indexL hA_x30 rfl rfl Tryz.underlying53 sz_3 (by omega) (by omega))) ?_
        refine GQ.step rfl (q_mem (m_loadP (i := 1) rfl rfl ag_3 rfl)) ?_;refine GQ.rn 1 ?_;refine GQ.step rfl (q_mem (m_load (i := 0) rfl rfl ag_53 rfl)) ?_;refine GQ.rn 1 ?_;refine GQ.step rfl (q_pure (p_indexL hA_x35 rfl rfl Tryz.underlying53 sz_3 (by omega) (by omega))) ?_
        refine GQ.step rfl (q_mem (m_loadP (i := 0) rfl rfl ag_3 rfl)) ?_;refine GQ.rn 1 ?_
        refine GQ.nil (?_ : GC _ _ _ _)
        refine GC.co ?_ ?_
        ·intro h4; try simp only [tst_] at h4
         first
         | (exfalso; omega)
         |(skip
           refine GC.rg 1 ?_;refine GC.ret (Fin.b1 4 [] [] ?_)
           refine ⟨congrArg Value.bool ?_,rfl,rfl⟩
           unfold sameG
           symm
           first | (rw [decide_eq_false (show ¬ e = f by assumption)]; rfl) | (rw [decide_eq_false (show ¬ l = m from fun g => by subst g; first | omega | contradiction),Bool.and_false]) | (rw [decide_eq_true (show e = f by omega),decide_eq_true (ext_gtI (by omega) fun j hj => he j (by omega))]; rfl))
        intro h4; try simp only [tst_] at h4
        first
        | (exfalso; omega)
        |(skip
          refine GC.skip (?_ : GC _ _ _ _)
          refine GC.region ?_;refine GL.rn 1 ?_;refine GL.pure rfl (p_add rfl rfl (w64 (by omega) (by omega))) ?_;refine GL.rn 1 ?_;refine GL.nil ?_
          exact fun a w h => ⟨(k + 1),(by omega),⟨by omega,fun j hj => (Nat.lt_succ_iff_lt_or_eq.1 hj).elim (he j) (fun e => by subst e; omega)⟩,h.ct [0,0] [2,3]⟩))
     intro h3; try simp only [tst_] at h3
     first
     | (exfalso; omega)
     |(skip
       refine GC.exit (?_ : GC _ _ _ _)
       refine GC.rg 1 ?_;refine GC.ret (Fin.b1 4 [] [] ?_)
       refine ⟨congrArg Value.bool ?_,rfl,rfl⟩
       unfold sameG
       symm
       first | (rw [decide_eq_false (show ¬ e = f by assumption)]; rfl) | (rw [decide_eq_false (show ¬ l = m from fun g => by subst g; first | omega | contradiction),Bool.and_false]) | (rw [decide_eq_true (show e = f by omega),decide_eq_true (ext_gtI (by omega) fun j hj => he j (by omega))]; rfl))))
theorem grp_len {e : Int} {l : List Int} (h : groupOk e l = true) : 1 ≤ l.length ∧ l.length ≤ 9 ∧ 0 ≤ e ∧ e ≤ 4611686018427387904 := by simp [groupOk] at h; omega
def okRow (r : Row) : Prop := ((Lit.int .i64 r.client).wf = true) ∧ ((Lit.int .i64 r.serial).wf = true) ∧ (okRes r.result)
theorem opensRow : Opens Tryz.prog 166 kRow okRow := Opens.struct Tryz.underlying166 (OpensF.cons (Opens.int Tryz.underlying3) (by kernel_rfl) rfl (OpensF.cons (Opens.int Tryz.underlying3) (by kernel_rfl) rfl (OpensF.one opensRes (by kernel_rfl)))) (by kernel_rfl) (fun r : Row => (r.client,r.serial,r.result)) (fun p => (⟨p.1,p.2.1,p.2.2⟩ : Row)) (fun _ => rfl)
def leN : Nat → Nat → List UInt8
  | 0,_ => []
  | n + 1,v => UInt8.ofNat (v % 256) :: leN n (v / 256)
def valN : List UInt8 → Nat
  | [] => 0
  | b :: r => b.toNat + 256 * valN r
theorem leN_length : ∀ (n v : Nat),(leN n v).length = n
  | 0,_ => rfl
  | n + 1,v => by rw [leN,List.length_cons,leN_length n]
theorem leN_succ : ∀ (k v : Nat),leN (k + 1) v = leN k v ++ [UInt8.ofNat (v / 256 ^ k % 256)]
  | 0,v => by simp [leN]
  | k + 1,v => by
    rw [leN,leN_succ k (v / 256),leN,List.cons_append,Nat.div_div_eq_div_mul,Nat.pow_succ,Nat.mul_comm 256]
theorem valN_lt : ∀ (l : List UInt8),valN l < 256 ^ l.length
  | [] => by simp [valN]
  | b :: r => by
    have := valN_lt r
    have hb := b.toNat_lt
    rw [valN,List.length_cons,Nat.pow_succ]
    omega
theorem valN_snoc : ∀ (l : List UInt8) (b : UInt8),valN (l ++ [b]) = valN l + b.toNat * 256 ^ l.length
  | [],b => by simp [valN]
  | c :: r,b => by
    rw [List.cons_append,valN,valN,valN_snoc r b,List.length_cons,Nat.pow_succ,Nat.mul_add,← Nat.add_assoc]
    congr 1
    rw [Nat.mul_left_comm,Nat.mul_comm 256]
theorem ofNat_mod (v : Nat) : (UInt8.ofNat (v % 256)).toNat = v % 256 := by simp
theorem valN_leN : ∀ (n v : Nat),v < 256 ^ n → valN (leN n v) = v
  | 0,v,h => by simp at h; subst h; rfl
  | n + 1,v,h => by
    rw [Nat.pow_succ] at h
    rw [leN,valN,valN_leN n (v / 256) (Nat.div_lt_of_lt_mul (by rw [Nat.mul_comm]; exact h)),ofNat_mod]
    omega
theorem fdivN (v p : Nat) : (v : Int).fdiv ((p : Nat) : Int) = ((v / p : Nat) : Int) := by
  rw [Int.fdiv_eq_ediv_of_nonneg _ (by omega)]; rfl
theorem pow256 (k : Nat) : 256 ^ k = 2 ^ (8 * k) := by rw [Nat.pow_mul]
theorem shr8 {v k : Nat} (hk : k ≤ 8) : (v : Int).fdiv (2 ^ (min ((8 * k : Nat) : Int).toNat IntKind.u64.bits)) = ((v / 256 ^ k : Nat) : Int) := by
  have h1 : min ((8 * k : Nat) : Int).toNat IntKind.u64.bits = 8 * k := by show min _ 64 = _; omega
  rw [h1,pow256,← fdivN]; norm_cast
theorem wrapB (m : Nat) : IntKind.u8.wrap (m : Int) = ((UInt8.ofNat (m % 256)).toNat : Int) := by
  rw [ofNat_mod]
  simp [IntKind.wrap,IntKind.bits,IntKind.signed]
theorem wrap64 {m : Nat} (h : m < 18446744073709551616) : IntKind.u64.wrap (m : Int) = (m : Int) := by
  simp [IntKind.wrap,IntKind.bits,IntKind.signed]; omega
theorem cvU {m : Int} (h : 0 ≤ m) (h' : m < 18446744073709551616) : IntKind.u64.wrap m = m := by
  simp [IntKind.wrap,IntKind.bits,IntKind.signed]; omega
theorem cvU' (m : Int) : IntKind.u64.wrap m = ((m % 18446744073709551616).toNat : Int) := by
  simp [IntKind.wrap,IntKind.bits,IntKind.signed]; omega
theorem cvI {m : Int} (h : -9223372036854775808 ≤ m) (h' : m ≤ 9223372036854775807) : IntKind.i64.wrap m = m := by
  simp [IntKind.wrap,IntKind.bits,IntKind.signed]; omega
theorem ofInt64 {m : Nat} : BitVec.ofInt 64 (m : Int) = BitVec.ofNat 64 m := by
  apply BitVec.eq_of_toNat_eq; simp
theorem or8 {a c k : Nat} (hk : k ≤ 7) (ha : a < 256 ^ k) (hc : c < 256) : IntKind.u64.wrap ((BitVec.ofInt IntKind.u64.bits (a : Int) ||| BitVec.ofInt IntKind.u64.bits ((c * 256 ^ k : Nat) : Int)).toNat : Int) = ((a + c * 256 ^ k : Nat) : Int) := by
  have h7 : 256 ^ k ≤ 256 ^ 7 := Nat.pow_le_pow_right (by decide) hk
  have h8 : (256 : Nat) ^ 7 = 72057594037927936 := by decide
  have hb : c * 256 ^ k ≤ 255 * 256 ^ k := Nat.mul_le_mul_right _ (by omega)
  show IntKind.u64.wrap ((BitVec.ofInt 64 (a : Int) ||| BitVec.ofInt 64 ((c * 256 ^ k : Nat) : Int)).toNat : Int) = _
  have e : (BitVec.ofInt 64 (a : Int) ||| BitVec.ofInt 64 ((c * 256 ^ k : Nat) : Int)).toNat = a + c * 256 ^ k := by
    rw [ofInt64,ofInt64,BitVec.toNat_or,BitVec.toNat_ofNat,BitVec.toNat_ofNat,Nat.mod_eq_of_lt (by omega),Nat.mod_eq_of_lt (by omega)]
    rw [pow256] at ha ⊢
    have := Nat.shiftLeft_add_eq_or_of_lt ha c
    rw [Nat.shiftLeft_eq] at this
    rw [Nat.or_comm,← this]; omega
  rw [e]
  exact wrap64 (by omega)
theorem shl8 {c k : Nat} (hk : k ≤ 7) (hc : c < 256) : IntKind.u64.wrap ((c : Int) * 2 ^ (min ((8 * k : Nat) : Int).toNat IntKind.u64.bits)) = ((c * 256 ^ k : Nat) : Int) := by
  have h1 : min ((8 * k : Nat) : Int).toNat IntKind.u64.bits = 8 * k := by show min _ 64 = _; omega
  have h7 : 256 ^ k ≤ 256 ^ 7 := Nat.pow_le_pow_right (by decide) hk
  have h8 : (256 : Nat) ^ 7 = 72057594037927936 := by decide
  have hb : c * 256 ^ k ≤ 255 * 256 ^ k := Nat.mul_le_mul_right _ (by omega)
  have e : (c : Int) * 2 ^ (8 * k) = ((c * 256 ^ k : Nat) : Int) := by rw [pow256]; norm_cast
  rw [h1,e]
  exact wrap64 (by omega)
structure Grp where
  epoch : Int
  members : List Int
  deriving Inhabited,DecidableEq
def kGrp : Kd Grp := Kd.iso (Kd.pair (Kd.int .i64) (Kd.slice (Kd.int .i64))) (fun r => (r.epoch,r.members))
def okGrp (r : Grp) : Prop := ((Lit.int .i64 r.epoch).wf = true) ∧ ((r.members.length * 8 ≤ 140737488351232 ∧ ∀ y ∈ r.members,(Lit.int .i64 y).wf = true))
theorem opensGrp : Opens Tryz.prog 55 kGrp okGrp := Opens.struct Tryz.underlying55 (OpensF.cons (Opens.int Tryz.underlying3) (by kernel_rfl) rfl (OpensF.one (Opens.slice Tryz.underlying53 (Opens.int Tryz.underlying3) (by kernel_rfl) (by decide) (by kernel_rfl : Program.bytesOf Tryz.prog 3 = 8)) (by kernel_rfl))) (by kernel_rfl) (fun r : Grp => (r.epoch,r.members)) (fun p => (⟨p.1,p.2⟩ : Grp)) (fun _ => rfl)
structure Entry where
  kind : Int
  num : Int
  view : Int
  client : Int
  serial : Int
  op : OpD
  grp : Grp
  deriving Inhabited,DecidableEq
def kEntry : Kd Entry := Kd.iso (Kd.pair (Kd.int .u8) (Kd.pair (Kd.int .i64) (Kd.pair (Kd.int .i64) (Kd.pair (Kd.int .i64) (Kd.pair (Kd.int .i64) (Kd.pair kOpD (kGrp))))))) (fun r => (r.kind,r.num,r.view,r.client,r.serial,r.op,r.grp))
def okEntry (r : Entry) : Prop := ((Lit.int .u8 r.kind).wf = true) ∧ ((Lit.int .i64 r.num).wf = true) ∧ ((Lit.int .i64 r.view).wf = true) ∧ ((Lit.int .i64 r.client).wf = true) ∧ ((Lit.int .i64 r.serial).wf = true) ∧ (okOpD r.op) ∧ (okGrp r.grp)
theorem opensEntry : Opens Tryz.prog 97 kEntry okEntry := Opens.struct Tryz.underlying97 (OpensF.cons (Opens.int Tryz.underlying95) (by kernel_rfl) rfl (OpensF.cons (Opens.int Tryz.underlying3) (by kernel_rfl) rfl (OpensF.cons (Opens.int Tryz.underlying3) (by kernel_rfl) rfl (OpensF.cons (Opens.int Tryz.underlying3) (by kernel_rfl) rfl (OpensF.cons (Opens.int Tryz.underlying3) (by kernel_rfl) rfl (OpensF.cons opensOpD (by kernel_rfl) rfl (OpensF.one opensGrp (by kernel_rfl)))))))) (by kernel_rfl) (fun r : Entry => (r.kind,r.num,r.view,r.client,r.serial,r.op,r.grp)) (fun p => (⟨p.1,p.2.1,p.2.2.1,p.2.2.2.1,p.2.2.2.2.1,p.2.2.2.2.2.1,p.2.2.2.2.2.2⟩ : Entry)) (fun _ => rfl)
structure Stt where
  num : Int
  shp : Shp
  pages : List Page
  rows : List Row
  grp : Grp
  deriving Inhabited,DecidableEq
def kStt : Kd Stt := Kd.iso (Kd.pair (Kd.int .i64) (Kd.pair kShp (Kd.pair (Kd.slice kPage) (Kd.pair (Kd.slice kRow) (kGrp))))) (fun r => (r.num,r.shp,r.pages,r.rows,r.grp))
def okStt (r : Stt) : Prop := ((Lit.int .i64 r.num).wf = true) ∧ (okShp r.shp) ∧ ((r.pages.length * 40 ≤ 140737488351232 ∧ ∀ y ∈ r.pages,okPage y)) ∧ ((r.rows.length * 48 ≤ 140737488351232 ∧ ∀ y ∈ r.rows,okRow y)) ∧ (okGrp r.grp)
theorem opensStt : Opens Tryz.prog 61 kStt okStt := Opens.struct Tryz.underlying61 (OpensF.cons (Opens.int Tryz.underlying3) (by kernel_rfl) rfl (OpensF.cons opensShp (by kernel_rfl) rfl (OpensF.cons (Opens.slice Tryz.underlying58 opensPage (by kernel_rfl) (by decide) (by kernel_rfl : Program.bytesOf Tryz.prog 164 = 40)) (by kernel_rfl) rfl (OpensF.cons (Opens.slice Tryz.underlying59 opensRow (by kernel_rfl) (by decide) (by kernel_rfl : Program.bytesOf Tryz.prog 166 = 48)) (by kernel_rfl) rfl (OpensF.one opensGrp (by kernel_rfl)))))) (by kernel_rfl) (fun r : Stt => (r.num,r.shp,r.pages,r.rows,r.grp)) (fun p => (⟨p.1,p.2.1,p.2.2.1,p.2.2.2.1,p.2.2.2.2⟩ : Stt)) (fun _ => rfl)
structure Msg where
  kind : Int
  src : Int
  dst : Int
  epoch : Int
  view : Int
  num : Int
  commit : Int
  normal : Int
  nonce : Int
  client : Int
  serial : Int
  op : OpD
  res : Res
  grp : Grp
  stt : Stt
  log : List Entry
  deriving Inhabited,DecidableEq
def kMsg : Kd Msg := Kd.iso (Kd.pair (Kd.int .u8) (Kd.pair (Kd.int .i64) (Kd.pair (Kd.int .i64) (Kd.pair (Kd.int .i64) (Kd.pair (Kd.int .i64) (Kd.pair (Kd.int .i64) (Kd.pair (Kd.int .i64) (Kd.pair (Kd.int .i64) (Kd.pair (Kd.int .u64) (Kd.pair (Kd.int .i64) (Kd.pair (Kd.int .i64) (Kd.pair kOpD (Kd.pair kRes (Kd.pair kGrp (Kd.pair kStt (Kd.slice kEntry)))))))))))))))) (fun r => (r.kind,r.src,r.dst,r.epoch,r.view,r.num,r.commit,r.normal,r.nonce,r.client,r.serial,r.op,r.res,r.grp,r.stt,r.log))
def okMsg (r : Msg) : Prop := ((Lit.int .u8 r.kind).wf = true) ∧ ((Lit.int .i64 r.src).wf = true) ∧ ((Lit.int .i64 r.dst).wf = true) ∧ ((Lit.int .i64 r.epoch).wf = true) ∧ ((Lit.int .i64 r.view).wf = true) ∧ ((Lit.int .i64 r.num).wf = true) ∧ ((Lit.int .i64 r.commit).wf = true) ∧ ((Lit.int .i64 r.normal).wf = true) ∧ ((Lit.int .u64 r.nonce).wf = true) ∧ ((Lit.int .i64 r.client).wf = true) ∧ ((Lit.int .i64 r.serial).wf = true) ∧ (okOpD r.op) ∧ (okRes r.res) ∧ (okGrp r.grp) ∧ (okStt r.stt) ∧ ((r.log.length * 144 ≤ 140737488351232 ∧ ∀ y ∈ r.log,okEntry y))
theorem opensMsg : Opens Tryz.prog 64 kMsg okMsg := Opens.struct Tryz.underlying64 (OpensF.cons (Opens.int Tryz.underlying44) (by kernel_rfl) rfl (OpensF.cons (Opens.int Tryz.underlying3) (by kernel_rfl) rfl (OpensF.cons (Opens.int Tryz.underlying3) (by kernel_rfl) rfl (OpensF.cons (Opens.int Tryz.underlying3) (by kernel_rfl) rfl (OpensF.cons (Opens.int Tryz.underlying3) (by kernel_rfl) rfl (OpensF.cons (Opens.int Tryz.underlying3) (by kernel_rfl) rfl (OpensF.cons (Opens.int Tryz.underlying3) (by kernel_rfl) rfl (OpensF.cons (Opens.int Tryz.underlying3) (by kernel_rfl) rfl (OpensF.cons (Opens.int Tryz.underlying45) (by kernel_rfl) rfl (OpensF.cons (Opens.int Tryz.underlying3) (by kernel_rfl) rfl (OpensF.cons (Opens.int Tryz.underlying3) (by kernel_rfl) rfl (OpensF.cons opensOpD (by kernel_rfl) rfl (OpensF.cons opensRes (by kernel_rfl) rfl (OpensF.cons opensGrp (by kernel_rfl) rfl (OpensF.cons opensStt (by kernel_rfl) rfl (OpensF.one (Opens.slice Tryz.underlying62 opensEntry (by kernel_rfl) (by decide) (by kernel_rfl : Program.bytesOf Tryz.prog 97 = 144)) (by kernel_rfl))))))))))))))))) (by kernel_rfl) (fun r : Msg => (r.kind,r.src,r.dst,r.epoch,r.view,r.num,r.commit,r.normal,r.nonce,r.client,r.serial,r.op,r.res,r.grp,r.stt,r.log)) (fun p => (⟨p.1,p.2.1,p.2.2.1,p.2.2.2.1,p.2.2.2.2.1,p.2.2.2.2.2.1,p.2.2.2.2.2.2.1,p.2.2.2.2.2.2.2.1,p.2.2.2.2.2.2.2.2.1,p.2.2.2.2.2.2.2.2.2.1,p.2.2.2.2.2.2.2.2.2.2.1,p.2.2.2.2.2.2.2.2.2.2.2.1,p.2.2.2.2.2.2.2.2.2.2.2.2.1,p.2.2.2.2.2.2.2.2.2.2.2.2.2.1,p.2.2.2.2.2.2.2.2.2.2.2.2.2.2.1,p.2.2.2.2.2.2.2.2.2.2.2.2.2.2.2⟩ : Msg)) (fun _ => rfl)
def zop : OpD := ⟨0,0,0,[],[]⟩
def zgr : Grp := ⟨0,[]⟩
def zst : Stt := ⟨0,⟨0,0⟩,[],[],zgr⟩
def zms : Msg := ⟨0,0,0,0,0,0,0,0,0,0,0,zop,rz,zgr,zst,[]⟩
abbrev opD (o : OpD) (A : Option Addr) (cp : Nat) (B : Option Addr) (cq : Nat) : Value := opV o.kind o.at_ o.n A o.data.length cp B o.old.length cq
abbrev entV (e : Entry) (A : Option Addr) (cp : Nat) (B : Option Addr) (cq : Nat) (C : Option Addr) (cr : Nat) : Value := .agg #[.int .u8 e.kind,.int .i64 e.num,.int .i64 e.view,.int .i64 e.client,.int .i64 e.serial,.int .u8 e.op.kind,.int .i64 e.op.at_,.int .i64 e.op.n,.slice A e.op.data.length cp,.slice B e.op.old.length cq,.int .i64 e.grp.epoch,.slice C e.grp.members.length cr]
abbrev entQ (e : Entry) (A B C : Option Addr) : List Pers := [Pers.row Kd.u8 A e.op.data,Pers.row Kd.u8 B e.op.old,Pers.row kI C e.grp.members]
abbrev sttV (s : Stt) (A : Option Addr) (cp : Nat) (B : Option Addr) (cq : Nat) (C : Option Addr) (cr : Nat) : Value := .agg #[.int .i64 s.num,.int .i64 s.shp.bl,.int .i64 s.shp.sz,.slice A s.pages.length cp,.slice B s.rows.length cq,.int .i64 s.grp.epoch,.slice C s.grp.members.length cr]
abbrev sttQ (s : Stt) (A B C : Option Addr) : List Pers := [Pers.row kPage A s.pages,Pers.row kRow B s.rows,Pers.row kI C s.grp.members]
structure Lie where
  a1 : Option Addr
  c1 : Nat
  a2 : Option Addr
  c2 : Nat
  a3 : Option Addr
  c3 : Nat
  a4 : Option Addr
  c4 : Nat
  a5 : Option Addr
  c5 : Nat
  a6 : Option Addr
  c6 : Nat
  a7 : Option Addr
  c7 : Nat
  a8 : Option Addr
  c8 : Nat
abbrev msgL (m : Msg) (s : Lie) : List Value := [.int .u8 m.kind,.int .i64 m.src,.int .i64 m.dst,.int .i64 m.epoch,.int .i64 m.view,.int .i64 m.num,.int .i64 m.commit,.int .i64 m.normal,.int .u64 m.nonce,.int .i64 m.client,.int .i64 m.serial,
  .int .u8 m.op.kind,.int .i64 m.op.at_,.int .i64 m.op.n,.slice s.a1 m.op.data.length s.c1,.slice s.a2 m.op.old.length s.c2,.int .u8 m.res.code,.slice s.a3 m.res.data.length s.c3,.int .i64 m.grp.epoch,.slice s.a4 m.grp.members.length s.c4,
  .int .i64 m.stt.num,.int .i64 m.stt.shp.bl,.int .i64 m.stt.shp.sz,.slice s.a5 m.stt.pages.length s.c5,.slice s.a6 m.stt.rows.length s.c6,.int .i64 m.stt.grp.epoch,.slice s.a7 m.stt.grp.members.length s.c7,.slice s.a8 m.log.length s.c8]
abbrev msgV (m : Msg) (s : Lie) : Value := .agg (msgL m s).toArray
abbrev msgQ (m : Msg) (s : Lie) : List Pers := [Pers.row Kd.u8 s.a1 m.op.data,Pers.row Kd.u8 s.a2 m.op.old,Pers.row Kd.u8 s.a3 m.res.data,Pers.row kI s.a4 m.grp.members,Pers.row kPage s.a5 m.stt.pages,Pers.row kRow s.a6 m.stt.rows,Pers.row kI s.a7 m.stt.grp.members,Pers.row kEntry s.a8 m.log]
abbrev lenOk (n : Nat) : Prop := n ≤ 140737488351232
structure EntLen (e : Entry) : Prop where
  d : lenOk e.op.data.length
  o : lenOk e.op.old.length
  m : e.grp.members.length ≤ 17592186043904
structure SttLen (s : Stt) : Prop where
  p : s.pages.length ≤ 17592186043904
  r : s.rows.length ≤ 17592186043904
  m : s.grp.members.length ≤ 17592186043904
  pd : ∀ p ∈ s.pages,lenOk p.data.length
  rd : ∀ r ∈ s.rows,lenOk r.result.data.length
structure MsgLen (m : Msg) : Prop where
  d : lenOk m.op.data.length
  o : lenOk m.op.old.length
  r : lenOk m.res.data.length
  g : m.grp.members.length ≤ 17592186043904
  s : SttLen m.stt
  l : m.log.length ≤ 17592186043904
  e : ∀ e ∈ m.log,EntLen e
def formD (o : OpD) : Prop := formP o.kind o.at_ o.n o.data.length o.old.length
instance (o : OpD) : Decidable (formD o) := by unfold formD; infer_instance
def in62 (n : Int) : Prop := 0 ≤ n ∧ n ≤ 4611686018427387904
instance (n : Int) : Decidable (in62 n) := by unfold in62; infer_instance
def entOk (e : Entry) : Prop := isNum e.num = true ∧ isNum e.client = true ∧ isNum e.serial = true ∧ in62 e.view ∧ ((e.kind = 1 ∧ formD e.op ∧ e.grp.epoch = 0 ∧ e.grp.members.length = 0) ∨ (e.kind = 2 ∧ e.op = zop ∧ groupOk e.grp.epoch e.grp.members = true ∧ e.view < 4611686018427387904))
instance (e : Entry) : Decidable (entOk e) := by unfold entOk; infer_instance
def entE (e : Entry) : Int := if entOk e then 0 else 71
def heldOk (s : Stt) : Prop := in62 s.num ∧ groupOk s.grp.epoch s.grp.members = true ∧ shapeOk s.shp.bl s.shp.sz ∧ laidF s.shp.bl s.shp.sz (-1) s.pages = true ∧ rightF s.rows = true ∧ ∀ p ∈ s.pages,p.ver ≤ s.num
instance (s : Stt) : Decidable (heldOk s) := by unfold heldOk; infer_instance
def rowOkE (l : List Entry) : Prop := ∀ k : Nat,k < l.length → entOk (gt l (k : Int)) ∧ (0 < k → (gt l (k : Int)).num - 1 = (gt l ((k : Int) - 1)).num)
instance (l : List Entry) : Decidable (rowOkE l) := by unfold rowOkE; infer_instance
def who (n : Int) : Prop := -4611686018427387904 ≤ n ∧ n < 64
instance (n : Int) : Decidable (who n) := by unfold who; infer_instance
def numsOk (m : Msg) : Prop := in62 m.epoch ∧ in62 m.view ∧ in62 m.num ∧ in62 m.commit ∧ in62 m.normal ∧ in62 m.client ∧ in62 m.serial
instance (m : Msg) : Decidable (numsOk m) := by unfold numsOk; infer_instance
def partsOk (m : Msg) : Prop := (m.op = zop ∨ formD m.op) ∧ (m.res = rz ∨ resOk m.res.code m.res.data.length = true) ∧ (m.grp = zgr ∨ groupOk m.grp.epoch m.grp.members = true) ∧ (m.stt = zst ∨ heldOk m.stt)
instance (m : Msg) : Decidable (partsOk m) := by unfold partsOk; infer_instance
def msgOk (m : Msg) : Prop := numsOk m ∧ 1 ≤ m.kind ∧ m.kind ≤ 14 ∧ who m.src ∧ who m.dst ∧ partsOk m ∧ rowOkE m.log
instance (m : Msg) : Decidable (msgOk m) := by unfold msgOk; infer_instance
def msgE (m : Msg) : Int := if msgOk m then 0 else 160
theorem entE_iff (e : Entry) : (entE e = 0) = entOk e := by unfold entE; split <;> simp_all
theorem msgE_iff (m : Msg) : (msgE m = 0) = msgOk m := by unfold msgE; split <;> simp_all
theorem grpE_iff (b : Bool) : ((if b = true then (0 : Int) else 71) = 0) = (b = true) := by cases b <;> simp
end Go.Proofs.YtliacpkblicnhaaGreat
namespace Go.Proofs.YtliacpkblicnhaaGreat
open Go Go.Sx Go.Proofs
section
variable {P : Program} {n : Nat} {env : List (Nat × Value)} {d : Nat} {t u ty : TypeId} {pos : String} {aft : Array Edge} {g : Option (Nat × Bool)} {x y : Operand} {k k' yk : IntKind} {m l r : Int}
theorem p_convR (ht : P.underlying t ≠ none) (hu : P.underlying u = some (.int k')) (hx : ev env x = some (.int k m)) (hr : k'.wrap m = r) : Pv P n env ⟨some d,.convert t u x,ty,pos,aft,g⟩ (.int k' r) := hr ▸ p_conv ht hu hx
theorem p_shlR (hx : ev env x = some (.int k m)) (hy : ev env y = some (.int yk l)) (h0 : 0 ≤ l) (hr : k.wrap (m * 2 ^ (min l.toNat k.bits)) = r) : Pv P n env ⟨some d,.binOp .shl t x y u,ty,pos,aft,g⟩ (.int k r) := hr ▸ p_shl hx hy h0
theorem p_shrR (hx : ev env x = some (.int k m)) (hy : ev env y = some (.int yk l)) (h0 : 0 ≤ l) (hr : m.fdiv (2 ^ (min l.toNat k.bits)) = r) : Pv P n env ⟨some d,.binOp .shr t x y u,ty,pos,aft,g⟩ (.int k r) := hr ▸ p_shr hx hy h0
theorem p_orR (hx : ev env x = some (.int k m)) (hy : ev env y = some (.int k l)) (hr : k.wrap ((BitVec.ofInt k.bits m ||| BitVec.ofInt k.bits l).toNat : Int) = r) : Pv P n env ⟨some d,.binOp .or t x y u,ty,pos,aft,g⟩ (.int k r) := hr ▸ p_or hx hy
theorem p_andR (hx : ev env x = some (.int k m)) (hy : ev env y = some (.int k l)) (hr : k.wrap ((BitVec.ofInt k.bits m &&& BitVec.ofInt k.bits l).toNat : Int) = r) : Pv P n env ⟨some d,.binOp .and t x y u,ty,pos,aft,g⟩ (.int k r) := hr ▸ p_and hx hy
end
end Go.Proofs.YtliacpkblicnhaaGreat
namespace Go.Proofs.YtliacpkblicnhaaGreat
open Go Go.Sx Go.Proofs
theorem Ct.drop {P : Program} {f : FuncId} {args : List Value} {G : List Own} {Q : List Pers} {R : Value → List Own → List Pers → Prop} {R' : Value → Prop} (h : Ct P f args G Q R) (hr : ∀ v G' Q',R v G' Q' → R' v) : Ct P f args G Q (fun v G' Q' => R' v ∧ G' = [] ∧ Q' = []) :=
  fun w S hh => (h w S hh).mono fun e w' ⟨v,G',Q',S',h1,h2,h3,h4,h5,h6⟩ => ⟨v,[],[],S',h1,⟨hr _ _ _ h2,rfl,rfl⟩,h3.sub (List.nil_sublist _) (fun q hq => by cases hq),h4,h5,fun k hk => by cases hk⟩
theorem Ct.free {P : Program} {f : FuncId} {args : List Value} {G : List Own} {q : Pers} {Q : List Pers} {R : Value → List Own → List Pers → Prop} (h : Ct P f args G (q :: Q) R) (hq : ∀ w S,q.h w S) : Ct P f args G Q R :=
  fun w S hh => h w S ⟨hh.own,hh.nod,hh.out,fun p hp => by
    rcases List.mem_cons.1 hp with rfl | hp
    · exact hq w S
    · exact hh.per p hp⟩
theorem Ct.qperm {P : Program} {f : FuncId} {args : List Value} {G : List Own} {Q Q' : List Pers} {R : Value → List Own → List Pers → Prop} (h : Ct P f args G Q R) (hq : ∀ q ∈ Q,q ∈ Q' ∨ ∀ w S,q.h w S) : Ct P f args G Q' R :=
  fun w S hh => h w S ⟨hh.own,hh.nod,hh.out,fun p hp => (hq p hp).elim (hh.per p) (fun g => g w S)⟩
theorem nil8 : ∀ w S,(Pers.row Kd.u8 none []).h w S := fun _ _ => .inl rfl
theorem op_ext (o p : OpD) : (o = p) ↔ (o.kind = p.kind ∧ o.at_ = p.at_ ∧ o.n = p.n ∧ o.data = p.data ∧ o.old = p.old) := by cases o; cases p; simp
theorem gr_ext (o p : Grp) : (o = p) ↔ (o.epoch = p.epoch ∧ o.members = p.members) := by cases o; cases p; simp
theorem pg_ext (o p : Page) : (o = p) ↔ (o.at_ = p.at_ ∧ o.ver = p.ver ∧ o.data = p.data) := by cases o; cases p; simp
theorem rs_ext (o p : Res) : (o = p) ↔ (o.code = p.code ∧ o.data = p.data) := by cases o; cases p; simp
theorem sh_ext (o p : Shp) : (o = p) ↔ (o.bl = p.bl ∧ o.sz = p.sz) := by cases o; cases p; simp
theorem en_ext (o p : Entry) : (o = p) ↔ (o.kind = p.kind ∧ o.num = p.num ∧ o.view = p.view ∧ o.client = p.client ∧ o.serial = p.serial ∧ o.op = p.op ∧ o.grp = p.grp) := by cases o; cases p; simp
theorem st_ext (o p : Stt) : (o = p) ↔ (o.num = p.num ∧ o.shp = p.shp ∧ o.pages = p.pages ∧ o.rows = p.rows ∧ o.grp = p.grp) := by cases o; cases p; simp
theorem ms_ext (o p : Msg) : (o = p) ↔ (o.kind = p.kind ∧ o.src = p.src ∧ o.dst = p.dst ∧ o.epoch = p.epoch ∧ o.view = p.view ∧ o.num = p.num ∧ o.commit = p.commit ∧ o.normal = p.normal ∧ o.nonce = p.nonce ∧ o.client = p.client ∧ o.serial = p.serial ∧ o.op = p.op ∧ o.res = p.res ∧ o.grp = p.grp ∧ o.stt = p.stt ∧ o.log = p.log) := by cases o; cases p; simp
theorem sameG_iff (g h : Grp) : sameG g.epoch g.members h.epoch h.members = decide (g = h) := by
  unfold sameG; rw [Bool.eq_iff_iff]; simp [gr_ext]
theorem sameRes_eq (g h : Res) : sameRes g h = decide (g = h) := by
  unfold sameRes; rw [Bool.eq_iff_iff]; simp [rs_ext]
theorem bsame_ct (o p : OpD) (A : Option Addr) (cp : Nat) (B : Option Addr) (cq : Nat) (C : Option Addr) (cr : Nat) (D : Option Addr) (cs : Nat) : Ct Tryz.prog 92 [opD o A cp B cq,opD p C cr D cs] [] [Pers.row Kd.u8 A o.data,Pers.row Kd.u8 B o.old,Pers.row Kd.u8 C p.data,Pers.row Kd.u8 D p.old] (fun u G Q => u = .bool (decide (o = p)) ∧ G = [] ∧ Q = []) := by
 refine Ct.intro Tryz.func92 rfl rfl rfl (fun c hc => ?_)
 refine GC.sr_ ?_;refine GL.step rfl (t_box rfl rfl rfl) (GL.ex fun b_t2 => ?_);refine GL.step rfl (t_box rfl rfl rfl) (GL.ex fun b_t3 => ?_);refine GL.rz 1 ?_;refine GC.rr 1 ?_;refine GL.ld_ 1 ?_;refine GL.rn 1 ?_
 refine GL.ld_ 0 ?_;refine GL.rn 2 ?_;refine GL.sp 10 ?_ ?_
 ·intro h1; try simp only [tst_] at h1
  refine GL.rn 1 ?_;refine GL.dg_ 1 ?_;refine GL.rn 1 ?_;refine GL.dg_ 0 ?_;refine GL.rn 3 ?_;refine GL.sp 17 ?_ ?_
  ·intro h2; try simp only [tst_] at h2
   refine GL.rn 1 ?_;refine GL.dg_ 1 ?_;refine GL.rn 1 ?_;refine GL.dg_ 0 ?_;refine GL.rn 3 ?_;refine GL.sp 24 ?_ ?_
   ·intro h3; try simp only [tst_] at h3
    refine GL.rn 1 ?_;refine GL.dg_ 1 ?_;refine GL.rn 1 ?_;refine GL.dg_ 0 ?_;refine GL.stepG rfl (s := 24) rfl rfl (t_call rfl Tryz.call50 rfl (is := []) (js := [0,2]) rfl rfl (by exact equal_ct _ _ _ _ _ _)) (GL.ret ?_)
    rintro _ _ _ ⟨rfl,rfl,rfl⟩
    refine GL.rn 2 ?_;refine GL.sp 31 ?_ ?_
    ·intro h4; try simp only [tst_] at h4
     refine GL.rn 1 ?_;refine GL.dg_ 1 ?_;refine GL.rn 1 ?_;refine GL.dg_ 0 ?_;refine GL.stepG rfl (s := 31) rfl rfl (t_call rfl Tryz.call50 rfl (is := []) (js := [1,3]) rfl rfl (by exact equal_ct _ _ _ _ _ _)) (GL.ret ?_)
     rintro _ _ _ ⟨rfl,rfl,rfl⟩
     refine GL.rz 2 ?_;refine GC.ret (Fin.b1 4 [] [] ?_)
     refine ⟨congrArg Value.bool ?_,rfl,rfl⟩
     simp [op_ext, *]
    intro h4; try simp only [tst_] at h4
    refine GL.rz 7 ?_;refine GC.ret (Fin.b1 4 [] [] ?_)
    refine ⟨congrArg Value.bool ?_,rfl,rfl⟩
    simp [op_ext, *]
   intro h3; try simp only [tst_] at h3
   refine GL.rz 14 ?_;refine GC.ret (Fin.b1 4 [] [] ?_)
   refine ⟨congrArg Value.bool ?_,rfl,rfl⟩
   simp [op_ext, *]
  intro h2; try simp only [tst_] at h2
  refine GL.rz 21 ?_;refine GC.ret (Fin.b1 4 [] [] ?_)
  refine ⟨congrArg Value.bool ?_,rfl,rfl⟩
  simp [op_ext, *]
 intro h1; try simp only [tst_] at h1
 refine GL.rz 28 ?_;refine GC.ret (Fin.b1 4 [] [] ?_)
 refine ⟨congrArg Value.bool ?_,rfl,rfl⟩
 simp [op_ext, *]
theorem rbsame_ct (o p : OpD) (A : Option Addr) (cp : Nat) (B : Option Addr) (cq : Nat) (C : Option Addr) (cr : Nat) (D : Option Addr) (cs : Nat) : Ct Tryz.prog 25 [opD o A cp B cq,opD p C cr D cs] [] [Pers.row Kd.u8 A o.data,Pers.row Kd.u8 B o.old,Pers.row Kd.u8 C p.data,Pers.row Kd.u8 D p.old] (fun u G Q => u = .bool (decide (o = p)) ∧ G = [] ∧ Q = []) := by
 refine Ct.intro Tryz.func25 rfl rfl rfl (fun c hc => ?_)
 refine GC.sr_ ?_;refine GL.step rfl (t_box rfl rfl rfl) (GL.ex fun b_t2 => ?_);refine GL.step rfl (t_box rfl rfl rfl) (GL.ex fun b_t3 => ?_);refine GL.rz 1 ?_;refine GC.rr 1 ?_;refine GL.ld_ 1 ?_;refine GL.rn 1 ?_
 refine GL.ld_ 0 ?_;refine GL.rn 2 ?_;refine GL.sp 10 ?_ ?_
 ·intro h1; try simp only [tst_,str_eq] at h1
  refine GL.rn 1 ?_;refine GL.dg_ 1 ?_;refine GL.rn 1 ?_;refine GL.dg_ 0 ?_;refine GL.rn 3 ?_;refine GL.sp 17 ?_ ?_
  ·intro h2; try simp only [tst_,str_eq] at h2
   refine GL.rn 1 ?_;refine GL.dg_ 1 ?_;refine GL.rn 1 ?_;refine GL.dg_ 0 ?_;refine GL.rn 3 ?_;refine GL.sp 24 ?_ ?_
   ·intro h3; try simp only [tst_,str_eq] at h3
    refine GL.rn 1 ?_;refine GL.dg_ 1 ?_;refine GL.stepG rfl (s := 24) rfl rfl (t_mem rfl (m_str (i := 0) rfl rfl Tryz.underlying47 Tryz.underlying5 Tryz.underlying9)) ?_;refine GL.rn 1 ?_;refine GL.dg_ 0 ?_;refine GL.stepG rfl (s := 24) rfl rfl (t_mem rfl (m_str (i := 2) rfl rfl Tryz.underlying47 Tryz.underlying5 Tryz.underlying9)) ?_
    refine GL.pureG (s := 24) rfl rfl rfl (p_seql rfl rfl) ?_;refine GL.rn 2 ?_;refine GL.sp 33 ?_ ?_
    ·intro h4; try simp only [tst_,str_eq] at h4
     refine GL.rn 1 ?_;refine GL.dg_ 1 ?_;refine GL.stepG rfl (s := 33) rfl rfl (t_mem rfl (m_str (i := 1) rfl rfl Tryz.underlying47 Tryz.underlying5 Tryz.underlying9)) ?_;refine GL.rn 1 ?_;refine GL.dg_ 0 ?_;refine GL.stepG rfl (s := 33) rfl rfl (t_mem rfl (m_str (i := 3) rfl rfl Tryz.underlying47 Tryz.underlying5 Tryz.underlying9)) ?_
     refine GL.pureG (s := 33) rfl rfl rfl (p_seql rfl rfl) ?_;refine GL.rz 2 ?_;refine GC.ret (Fin.b1 4 [] [] ?_)
     refine ⟨congrArg Value.bool ?_,rfl,rfl⟩
     simp [op_ext,str_eq, *]
    intro h4; try simp only [tst_,str_eq] at h4
    refine GL.rz 9 ?_;refine GC.ret (Fin.b1 4 [] [] ?_)
    refine ⟨congrArg Value.bool ?_,rfl,rfl⟩
    simp [op_ext,str_eq, *]
   intro h3; try simp only [tst_,str_eq] at h3
   refine GL.rz 18 ?_;refine GC.ret (Fin.b1 4 [] [] ?_)
   refine ⟨congrArg Value.bool ?_,rfl,rfl⟩
   simp [op_ext,str_eq, *]
  intro h2; try simp only [tst_,str_eq] at h2
  refine GL.rz 25 ?_;refine GC.ret (Fin.b1 4 [] [] ?_)
  refine ⟨congrArg Value.bool ?_,rfl,rfl⟩
  simp [op_ext,str_eq, *]
 intro h1; try simp only [tst_,str_eq] at h1
 refine GL.rz 32 ?_;refine GC.ret (Fin.b1 4 [] [] ?_)
 refine ⟨congrArg Value.bool ?_,rfl,rfl⟩
 simp [op_ext,str_eq, *]
theorem bzero_ct (o : OpD) (A : Option Addr) (cp : Nat) (B : Option Addr) (cq : Nat) : Ct Tryz.prog 92 [opD o A cp B cq,.agg #[.int .u8 0,.int .i64 0,.int .i64 0,.slice none 0 0,.slice none 0 0]] [] [Pers.row Kd.u8 A o.data,Pers.row Kd.u8 B o.old] (fun u G Q => u = .bool (decide (o = zop)) ∧ G = [] ∧ Q = []) :=
  Ct.qperm (bsame_ct o zop A cp B cq none 0 none 0) (by intro q hq; simp only [List.mem_cons,List.not_mem_nil,or_false] at hq ⊢; rcases hq with rfl | rfl | rfl | rfl <;> first | exact .inr nil8 | simp)
theorem msgr_ct (g h : Grp) (A : Option Addr) (cp : Nat) (B : Option Addr) (cq : Nat) (hl : g.members.length ≤ 140737488355328) : Ct Tryz.prog 150 [grpV g.epoch A g.members.length cp,grpV h.epoch B h.members.length cq] [] [Pers.row kI A g.members,Pers.row kI B h.members] (fun u G Q => u = .bool (decide (g = h)) ∧ G = [] ∧ Q = []) := by
 refine Ct.intro Tryz.func150 rfl rfl rfl (fun c hc => ?_)
 refine GC.sr_ ?_;refine GL.step rfl (t_box rfl rfl rfl) (GL.ex fun b_t2 => ?_);refine GL.step rfl (t_box rfl rfl rfl) (GL.ex fun b_t3 => ?_);refine GL.rz 1 ?_;refine GC.rr 1 ?_;refine GL.ld_ 1 ?_;refine GL.rn 1 ?_
 refine GL.ld_ 0 ?_;refine GL.rn 2 ?_;refine GL.sp 10 ?_ ?_
 ·intro h1; try simp only [tst_] at h1
  refine GL.rn 1 ?_;refine GL.dg_ 1 ?_;refine GL.rn 1 ?_;refine GL.dg_ 0 ?_;refine GL.stepG rfl (s := 10) rfl rfl (t_call rfl Tryz.call189 rfl (is := []) (js := [0,1]) rfl rfl (by exact equal_i _ _ _ _ _ _ (by first | assumption | omega))) (GL.ret ?_)
  rintro _ _ _ ⟨rfl,rfl,rfl⟩
  refine GL.rz 2 ?_;refine GC.ret (Fin.b1 4 [] [] ?_)
  refine ⟨congrArg Value.bool ?_,rfl,rfl⟩
  simp [gr_ext, *]
 intro h1; try simp only [tst_] at h1
 refine GL.rz 7 ?_;refine GC.ret (Fin.b1 4 [] [] ?_)
 refine ⟨congrArg Value.bool ?_,rfl,rfl⟩
 simp [gr_ext, *]
theorem rgsg_ct (g h : Grp) (A : Option Addr) (cp : Nat) (B : Option Addr) (cq : Nat) (hl : g.members.length ≤ 140737488355328) : Ct Tryz.prog 27 [grpV g.epoch A g.members.length cp,grpV h.epoch B h.members.length cq] [] [Pers.row kI A g.members,Pers.row kI B h.members] (fun u G Q => u = .bool (decide (g = h)) ∧ G = [] ∧ Q = []) := by
  have := rgsame_ct g.epoch A g.members cp h.epoch B h.members cq hl
  rw [sameG_iff] at this
  exact this
theorem srs_ct (r s : Res) (A B : Option Addr) (cp cq : Nat) : Ct Tryz.prog 26 [.agg #[.int .u8 r.code,.slice A r.data.length cp],.agg #[.int .u8 s.code,.slice B s.data.length cq]] [] [Pers.row Kd.u8 A r.data,Pers.row Kd.u8 B s.data] (fun v G Q => v = .bool (decide (r = s)) ∧ G = [] ∧ Q = []) := by
  have := same_ct r s A B cp cq
  rw [sameRes_eq] at this
  exact this
theorem pgc_ct (r s : Page) (A : Option Addr) (cp : Nat) (B : Option Addr) (cq : Nat) : Ct Tryz.prog 148 [pageV r A cp,pageV s B cq] [] [Pers.row Kd.u8 A r.data,Pers.row Kd.u8 B s.data] (fun u G Q => u = .bool (decide (r = s)) ∧ G = [] ∧ Q = []) := by
 refine Ct.intro Tryz.func148 rfl rfl rfl (fun c hc => ?_)
 refine GC.sr_ ?_;refine GL.step rfl (t_box rfl rfl rfl) (GL.ex fun b_t2 => ?_);refine GL.step rfl (t_box rfl rfl rfl) (GL.ex fun b_t3 => ?_);refine GL.rz 1 ?_;refine GC.rr 1 ?_;refine GL.ld_ 1 ?_;refine GL.rn 1 ?_
 refine GL.ld_ 0 ?_;refine GL.rn 2 ?_;refine GL.sp 10 ?_ ?_
 ·intro h1; try simp only [tst_] at h1
  refine GL.rn 1 ?_;refine GL.dg_ 1 ?_;refine GL.rn 1 ?_;refine GL.dg_ 0 ?_;refine GL.rn 3 ?_;refine GL.sp 17 ?_ ?_
  ·intro h2; try simp only [tst_] at h2
   refine GL.rn 1 ?_;refine GL.dg_ 1 ?_;refine GL.rn 1 ?_;refine GL.dg_ 0 ?_;refine GL.stepG rfl (s := 17) rfl rfl (t_call rfl Tryz.call50 rfl (is := []) (js := [0,1]) rfl rfl (by exact equal_ct _ _ _ _ _ _)) (GL.ret ?_)
   rintro _ _ _ ⟨rfl,rfl,rfl⟩
   refine GL.rz 2 ?_;refine GC.ret (Fin.b1 4 [] [] ?_)
   refine ⟨congrArg Value.bool ?_,rfl,rfl⟩
   simp [pg_ext, *]
  intro h2; try simp only [tst_] at h2
  refine GL.rz 7 ?_;refine GC.ret (Fin.b1 4 [] [] ?_)
  refine ⟨congrArg Value.bool ?_,rfl,rfl⟩
  simp [pg_ext, *]
 intro h1; try simp only [tst_] at h1
 refine GL.rz 14 ?_;refine GC.ret (Fin.b1 4 [] [] ?_)
 refine ⟨congrArg Value.bool ?_,rfl,rfl⟩
 simp [pg_ext, *]
theorem eqpg_ct (A : Option Addr) (a_ : List Page) (cp : Nat) (B : Option Addr) (b_ : List Page) (cq : Nat) (hl : a_.length ≤ 140737488355328) : Ct Tryz.prog 147 [.slice A a_.length cp,.slice B b_.length cq,.func (.func 148) #[] #[]] [] [Pers.row kPage A a_,Pers.row kPage B b_] (fun u G Q => u = .bool (decide (a_ = b_)) ∧ G = [] ∧ Q = []) := by
 refine Ct.intro Tryz.func147 rfl rfl rfl (fun c hc => ?_)
 refine GC.rg 1 ?_;refine GC.seq' ?_;refine GC.rg 5 ?_;refine GC.co ?_ ?_
 ·intro h1; try simp only [tst_] at h1
  first
  | (exfalso; omega)
  |(skip
    refine GC.rg 1 ?_;refine GC.ret (Fin.b1 6 [] [] ?_)
    exact ⟨congrArg Value.bool (decide_eq_false fun e => by subst e; omega).symm,rfl,rfl⟩)
 intro h1; try simp only [tst_] at h1
 first
 | (exfalso; omega)
 |(skip
   refine GC.skip (?_ : GC _ _ _ _)
   refine GC.seq' ?_;refine GC.rg 3 ?_;refine GC.block ?_;refine GC.loopK1 (ks := [1,2,15,16]) (is := []) (js := [0,1]) (fun (k : Nat) => k ≤ a_.length ∧ ∀ j : Nat,j < k → gt a_ (j : Int) = gt b_ (j : Int)) (fun (k : Nat) => [(17,.int .i64 (k : Int))]) (fun (k : Nat) => []) (fun (k : Nat) => []) (fun (k : Nat) => a_.length - k) (0) rfl rfl rfl (fun a w h => ⟨⟨by omega,fun j hj => by omega⟩,h.cutK (is := []) (js := [0,1]) (ks := [1,2,15,16]) ⟨rfl,trivial⟩ rfl rfl rfl⟩) ?_
   intro k hk
   try dsimp only [List.cons_append,List.nil_append] at hk ⊢
   obtain ⟨hk,he⟩ := hk
   refine GC.rg 1 ?_;refine GC.seq' ?_;refine GC.co ?_ ?_
   ·intro h2; try simp only [tst_] at h2
    first
    | (exfalso; omega)
    |(skip
      refine GC.skip (?_ : GC _ _ _ _)
      refine GC.seq' ?_;refine GC.block ?_;refine GC.rr 1 ?_;refine GL.step rfl (t_index (i := 0) rfl rfl rfl rfl Tryz.underlying58 sz_164 (by omega) (gt_ok (by omega) (by omega))) (GL.ex fun p_x20 => GL.ex fun r_x20 => GL.and fun ok_x20 => ?_)
      rcases r_x20 with ⟨_,⟨_,⟨Ax20_0,cpx20_0⟩⟩⟩
      refine GL.step rfl (t_mem rfl (m_loadPN (i := 0) rfl rfl ag_164 (vs := [_,_,_]) sz_164 ⟨rfl,rfl,rfl,trivial⟩)) ?_;refine GL.step rfl (t_alloc rfl ze_164) (GL.ex fun b_t8 => ?_);refine GL.rn 1 ?_;refine GL.sn_ 0 ?_
      refine GL.nr 2 ?_;refine GL.step rfl (t_index (i := 3) rfl rfl rfl rfl Tryz.underlying58 sz_164 (by omega) (gt_ok (by omega) (by omega))) (GL.ex fun p_x24 => GL.ex fun r_x24 => GL.and fun ok_x24 => ?_)
      rcases r_x24 with ⟨_,⟨_,⟨Ax24_0,cpx24_0⟩⟩⟩
      refine GL.step rfl (t_mem rfl (m_loadPN (i := 0) rfl rfl ag_164 (vs := [_,_,_]) sz_164 ⟨rfl,rfl,rfl,trivial⟩)) ?_;refine GL.step rfl (t_alloc rfl ze_164) (GL.ex fun b_t9 => ?_);refine GL.sn_ 0 ?_;refine GL.nr 1 ?_
      refine GL.ln_ 1 3 ?_;refine GL.ln_ 0 3 ?_;refine GL.step rfl (t_callv rfl Tryz.call148 rfl rfl (is := []) (js := [3,1]) rfl rfl (by exact pgc_ct _ _ _ _ _ _)) (GL.ret ?_)
      rintro _ _ _ ⟨rfl,rfl,rfl⟩
      refine GL.rz 1 ?_;refine GC.co ?_ ?_
      ·intro h3; try simp only [tst_] at h3
       first
       | (exfalso; omega)
       |(skip
         refine GC.rg 1 ?_;refine GC.ret (Fin.b1 6 [] [] ?_)
         exact ⟨congrArg Value.bool (decide_eq_false (gt_ne (k := (k : Int)) (by assumption))).symm,rfl,rfl⟩)
      intro h3; try simp only [tst_] at h3
      first
      | (exfalso; omega)
      |(skip
        refine GC.skip (?_ : GC _ _ _ _)
        refine GC.region ?_;refine GL.pure rfl (p_add rfl rfl (w64 (by omega) (by omega))) ?_;refine GL.rn 1 ?_;refine GL.nil ?_
        exact fun a w h => ⟨(k + 1),(by omega),⟨by omega,fun j hj => (Nat.lt_succ_iff_lt_or_eq.1 hj).elim (he j) (fun e => by subst e; assumption)⟩,h.ct [] [4,5]⟩))
   intro h2; try simp only [tst_] at h2
   first
   | (exfalso; omega)
   |(skip
     refine GC.exit (?_ : GC _ _ _ _)
     refine GC.rg 1 ?_;refine GC.ret (Fin.b1 6 [] [] ?_)
     exact ⟨congrArg Value.bool (decide_eq_true (list_ext_gt (by omega) fun j hj => he j (by omega))).symm,rfl,rfl⟩))
theorem rpgs_ct (A : Option Addr) (a_ : List Page) (cp : Nat) (B : Option Addr) (b_ : List Page) (cq : Nat) (hl : a_.length ≤ 140737488355328) : Ct Tryz.prog 51 [.slice A a_.length cp,.slice B b_.length cq] [] [Pers.row kPage A a_,Pers.row kPage B b_] (fun u G Q => u = .bool (decide (a_ = b_)) ∧ G = [] ∧ Q = []) := by
 refine Ct.intro Tryz.func51 rfl rfl rfl (fun c hc => ?_)
 refine GC.rg 1 ?_;refine GC.seq' ?_;refine GC.rg 5 ?_;refine GC.co ?_ ?_
 ·intro h1; try simp only [tst_,str_eq] at h1
  first
  | (exfalso; omega)
  |(skip
    refine GC.rg 1 ?_;refine GC.ret (Fin.b1 4 [] [] ?_)
    exact ⟨congrArg Value.bool (decide_eq_false fun e => by subst e; omega).symm,rfl,rfl⟩)
 intro h1; try simp only [tst_,str_eq] at h1
 first
 | (exfalso; omega)
 |(skip
   refine GC.skip (?_ : GC _ _ _ _)
   refine GC.seq' ?_;refine GC.rg 1 ?_;refine GC.block ?_;refine GC.loopK1 (ks := [0,1]) (is := []) (js := [0,1]) (fun (k : Nat) => k ≤ a_.length ∧ ∀ j : Nat,j < k → gt a_ (j : Int) = gt b_ (j : Int)) (fun (k : Nat) => [(5,.int .i64 (k : Int))]) (fun (k : Nat) => []) (fun (k : Nat) => []) (fun (k : Nat) => a_.length - k) (0) rfl rfl rfl (fun a w h => ⟨⟨by omega,fun j hj => by omega⟩,h.cutK (is := []) (js := [0,1]) (ks := [0,1]) ⟨rfl,trivial⟩ rfl rfl rfl⟩) ?_
   intro k hk
   try dsimp only [List.cons_append,List.nil_append] at hk ⊢
   obtain ⟨hk,he⟩ := hk
   refine GC.seq' ?_;refine GC.rg 4 ?_;refine GC.co ?_ ?_
   ·intro h2; try simp only [tst_,str_eq] at h2
    first
    | (exfalso; omega)
    |(skip
      refine GC.skip (?_ : GC _ _ _ _)
      refine GC.seq' ?_;refine GC.block ?_;refine GC.seq' ?_;refine GC.layQ (y := .tmp 5) (j := 0) rfl rfl (by omega) (gt_ok (by omega) (by omega)) (fun p_x19 r_x19 hA_x19 ok_x19 => ?_)
      rcases r_x19 with ⟨_,⟨_,⟨Ax19_0,cpx19_0⟩⟩⟩
      refine GC.layQ (y := .tmp 5) (j := 3) rfl rfl (by omega) (gt_ok (by omega) (by omega)) (fun p_x24 r_x24 hA_x24 ok_x24 => ?_)
      rcases r_x24 with ⟨_,⟨_,⟨Ax24_0,cpx24_0⟩⟩⟩
      refine GC.layQ (y := .tmp 5) (j := 4) rfl rfl (by omega) (gt_ok (by omega) (by omega)) (fun p_x31 r_x31 hA_x31 ok_x31 => ?_)
      rcases r_x31 with ⟨_,⟨_,⟨Ax31_0,cpx31_0⟩⟩⟩
      refine GC.layQ (y := .tmp 5) (j := 7) rfl rfl (by omega) (gt_ok (by omega) (by omega)) (fun p_x36 r_x36 hA_x36 ok_x36 => ?_)
      rcases r_x36 with ⟨_,⟨_,⟨Ax36_0,cpx36_0⟩⟩⟩
      refine GC.layQ (y := .tmp 5) (j := 8) rfl rfl (by omega) (gt_ok (by omega) (by omega)) (fun p_x44 r_x44 hA_x44 ok_x44 => ?_)
      rcases r_x44 with ⟨_,⟨_,⟨Ax44_0,cpx44_0⟩⟩⟩
      refine GC.layQ (y := .tmp 5) (j := 11) rfl rfl (by omega) (gt_ok (by omega) (by omega)) (fun p_x50 r_x50 hA_x50 ok_x50 => ?_)
      rcases r_x50 with ⟨_,⟨_,⟨Ax50_0,cpx50_0⟩⟩⟩
      refine GC.regionQ wide_ (by kernel_rfl) ?_;refine GQ.rn 2 ?_;refine GQ.step rfl (q_pure (p_indexL hA_x19 rfl rfl Tryz.underlying58 sz_164 (by omega) (by omega))) ?_;refine GQ.step rfl (q_pure (p_fieldAddr' fo_164_0 rfl)) ?_
      refine GQ.step rfl (q_mem (m_loadP (i := 10) rfl rfl ag_3 rfl)) ?_;refine GQ.rn 2 ?_;refine GQ.step rfl (q_pure (p_indexL hA_x24 rfl rfl Tryz.underlying58 sz_164 (by omega) (by omega))) ?_;refine GQ.step rfl (q_pure (p_fieldAddr' fo_164_0 rfl)) ?_
      refine GQ.step rfl (q_mem (m_loadP (i := 8) rfl rfl ag_3 rfl)) ?_;refine GQ.rn 2 ?_;refine GQ.split (i := 28) rfl (fun h3 => ?_) (fun h3 => ?_)
      ·try simp only [tst_,str_eq] at h3
       first
       | (exfalso; omega)
       |(skip
         refine GQ.rn 27 ?_
         refine GQ.nil (?_ : GC _ _ _ _)
         refine GC.cond_true rfl ?_;refine GC.rg 1 ?_;refine GC.ret (Fin.b1 4 [] [] ?_)
         exact ⟨congrArg Value.bool (decide_eq_false (gt_ne (k := (k : Int)) fun e => by simp_all)).symm,rfl,rfl⟩)
      try simp only [tst_,str_eq] at h3
      first
      | (exfalso; omega)
      |(skip
        refine GQ.rn 2 ?_;refine GQ.stepG (s := 28) rfl rfl rfl (q_pure (p_indexL hA_x31 rfl rfl Tryz.underlying58 sz_164 (by omega) (by omega))) ?_;refine GQ.stepG (s := 28) rfl rfl rfl (q_pure (p_fieldAddr' fo_164_1 rfl)) ?_
        refine GQ.stepG (s := 28) rfl rfl rfl (q_mem (m_loadP (i := 6) rfl rfl ag_3 rfl)) ?_;refine GQ.rn 2 ?_;refine GQ.stepG (s := 28) rfl rfl rfl (q_pure (p_indexL hA_x36 rfl rfl Tryz.underlying58 sz_164 (by omega) (by omega))) ?_
        refine GQ.stepG (s := 28) rfl rfl rfl (q_pure (p_fieldAddr' fo_164_1 rfl)) ?_;refine GQ.stepG (s := 28) rfl rfl rfl (q_mem (m_loadP (i := 4) rfl rfl ag_3 rfl)) ?_;refine GQ.rn 3 ?_;refine GQ.split (i := 41) rfl (fun h4 => ?_) (fun h4 => ?_)
        ·try simp only [tst_,str_eq] at h4
         first
         | (exfalso; omega)
         |(skip
           refine GQ.rn 14 ?_
           refine GQ.nil (?_ : GC _ _ _ _)
           refine GC.cond_true rfl ?_;refine GC.rg 1 ?_;refine GC.ret (Fin.b1 4 [] [] ?_)
           exact ⟨congrArg Value.bool (decide_eq_false (gt_ne (k := (k : Int)) fun e => by simp_all)).symm,rfl,rfl⟩)
        try simp only [tst_,str_eq] at h4
        first
        | (exfalso; omega)
        |(skip
          refine GQ.rn 2 ?_;refine GQ.stepG (s := 41) rfl rfl rfl (q_pure (p_indexL hA_x44 rfl rfl Tryz.underlying58 sz_164 (by omega) (by omega))) ?_;refine GQ.stepG (s := 41) rfl rfl rfl (q_pure (p_fieldAddr' fo_164_2 rfl)) ?_
          refine GQ.stepG (s := 41) rfl rfl rfl (q_mem (m_loadP (i := 2) rfl rfl ag_47 rfl)) ?_;refine GQ.stepG (s := 41) rfl rfl rfl (q_mem (m_str (i := 3) rfl rfl Tryz.underlying47 Tryz.underlying5 Tryz.underlying9)) ?_
          refine GQ.rn 2 ?_;refine GQ.stepG (s := 41) rfl rfl rfl (q_pure (p_indexL hA_x50 rfl rfl Tryz.underlying58 sz_164 (by omega) (by omega))) ?_;refine GQ.stepG (s := 41) rfl rfl rfl (q_pure (p_fieldAddr' fo_164_2 rfl)) ?_
          refine GQ.stepG (s := 41) rfl rfl rfl (q_mem (m_loadP (i := 0) rfl rfl ag_47 rfl)) ?_;refine GQ.stepG (s := 41) rfl rfl rfl (q_mem (m_str (i := 1) rfl rfl Tryz.underlying47 Tryz.underlying5 Tryz.underlying9)) ?_
          refine GQ.stepG (s := 41) rfl rfl rfl (q_pure (p_sneq rfl rfl)) ?_;refine GQ.rn 1 ?_
          refine GQ.nil (?_ : GC _ _ _ _)
          refine GC.co ?_ ?_
          ·intro h5; try simp only [tst_,str_eq] at h5
           first
           | (exfalso; omega)
           |(skip
             refine GC.rg 1 ?_;refine GC.ret (Fin.b1 4 [] [] ?_)
             exact ⟨congrArg Value.bool (decide_eq_false (gt_ne (k := (k : Int)) fun e => by simp_all)).symm,rfl,rfl⟩)
          intro h5; try simp only [tst_,str_eq] at h5
          first
          | (exfalso; omega)
          |(skip
            refine GC.skip (?_ : GC _ _ _ _)
            refine GC.region ?_;refine GL.rn 1 ?_;refine GL.pure rfl (p_add rfl rfl (w64 (by omega) (by omega))) ?_;refine GL.rn 1 ?_;refine GL.nil ?_
            exact fun a w h => ⟨(k + 1),(by omega),⟨by omega,fun j hj => (Nat.lt_succ_iff_lt_or_eq.1 hj).elim (he j) (fun e => by subst e; exact (pg_ext _ _).2 ⟨by assumption,by assumption,by assumption⟩)⟩,h.cut (is := []) (js := [12,13]) ⟨rfl,rfl,rfl,trivial⟩ rfl rfl⟩))))
   intro h2; try simp only [tst_,str_eq] at h2
   first
   | (exfalso; omega)
   |(skip
     refine GC.exit (?_ : GC _ _ _ _)
     refine GC.rg 1 ?_;refine GC.ret (Fin.b1 4 [] [] ?_)
     exact ⟨congrArg Value.bool (decide_eq_true (list_ext_gt (by omega) fun j hj => he j (by omega))).symm,rfl,rfl⟩))
theorem rsen_ct (e f : Entry) (A : Option Addr) (cp : Nat) (B : Option Addr) (cq : Nat) (C : Option Addr) (cr : Nat) (A' : Option Addr) (cp' : Nat) (B' : Option Addr) (cq' : Nat) (C' : Option Addr) (cr' : Nat) (hl : e.grp.members.length ≤ 140737488355328) : Ct Tryz.prog 53 [entV e A cp B cq C cr,entV f A' cp' B' cq' C' cr'] [] (entQ e A B C ++ entQ f A' B' C') (fun u G Q => u = .bool (decide (e = f)) ∧ G = [] ∧ Q = []) := by
 refine Ct.intro Tryz.func53 rfl rfl rfl (fun c hc => ?_)
 refine GC.sr_ ?_;refine GL.step rfl (t_box rfl rfl rfl) (GL.ex fun b_t2 => ?_);refine GL.step rfl (t_box rfl rfl rfl) (GL.ex fun b_t3 => ?_);refine GL.rz 1 ?_;refine GC.rr 1 ?_;refine GL.ld_ 1 ?_;refine GL.rn 1 ?_
 refine GL.ld_ 0 ?_;refine GL.rn 2 ?_;refine GL.sp 10 ?_ ?_
 ·intro h1; try simp only [tst_] at h1
  refine GL.rn 1 ?_;refine GL.dg_ 1 ?_;refine GL.rn 1 ?_;refine GL.dg_ 0 ?_;refine GL.rn 3 ?_;refine GL.sp 17 ?_ ?_
  ·intro h2; try simp only [tst_] at h2
   refine GL.rn 1 ?_;refine GL.dg_ 1 ?_;refine GL.rn 1 ?_;refine GL.dg_ 0 ?_;refine GL.rn 3 ?_;refine GL.sp 24 ?_ ?_
   ·intro h3; try simp only [tst_] at h3
    refine GL.rn 1 ?_;refine GL.dg_ 1 ?_;refine GL.rn 1 ?_;refine GL.dg_ 0 ?_;refine GL.rn 3 ?_;refine GL.sp 31 ?_ ?_
    ·intro h4; try simp only [tst_] at h4
     refine GL.rn 1 ?_;refine GL.dg_ 1 ?_;refine GL.rn 1 ?_;refine GL.dg_ 0 ?_;refine GL.rn 3 ?_;refine GL.sp 38 ?_ ?_
     ·intro h5; try simp only [tst_] at h5
      refine GL.rn 1 ?_;refine GL.lg_ 1 5 ?_;refine GL.rn 1 ?_;refine GL.lg_ 0 5 ?_;refine GL.stepG rfl (s := 38) rfl rfl (t_call rfl Tryz.call25 rfl (is := []) (js := [0,1,3,4]) rfl rfl (by exact rbsame_ct e.op f.op _ _ _ _ _ _ _ _)) (GL.ret ?_)
      rintro _ _ _ ⟨rfl,rfl,rfl⟩
      refine GL.rn 2 ?_;refine GL.sp 45 ?_ ?_
      ·intro h6; try simp only [tst_] at h6
       refine GL.rn 1 ?_;refine GL.lg_ 1 2 ?_;refine GL.rn 1 ?_;refine GL.lg_ 0 2 ?_;refine GL.stepG rfl (s := 45) rfl rfl (t_call rfl Tryz.call27 rfl (is := []) (js := [2,5]) rfl rfl (by exact rgsg_ct e.grp f.grp _ _ _ _ (by first | assumption | omega))) (GL.ret ?_)
       rintro _ _ _ ⟨rfl,rfl,rfl⟩
       refine GL.rz 2 ?_;refine GC.ret (Fin.b1 4 [] [] ?_)
       refine ⟨congrArg Value.bool ?_,rfl,rfl⟩
       simp [en_ext, *]
      intro h6; try simp only [tst_] at h6
      refine GL.rz 7 ?_;refine GC.ret (Fin.b1 4 [] [] ?_)
      refine ⟨congrArg Value.bool ?_,rfl,rfl⟩
      simp [en_ext, *]
     intro h5; try simp only [tst_] at h5
     refine GL.rz 14 ?_;refine GC.ret (Fin.b1 4 [] [] ?_)
     refine ⟨congrArg Value.bool ?_,rfl,rfl⟩
     simp [en_ext, *]
    intro h4; try simp only [tst_] at h4
    refine GL.rz 21 ?_;refine GC.ret (Fin.b1 4 [] [] ?_)
    refine ⟨congrArg Value.bool ?_,rfl,rfl⟩
    simp [en_ext, *]
   intro h3; try simp only [tst_] at h3
   refine GL.rz 28 ?_;refine GC.ret (Fin.b1 4 [] [] ?_)
   refine ⟨congrArg Value.bool ?_,rfl,rfl⟩
   simp [en_ext, *]
  intro h2; try simp only [tst_] at h2
  refine GL.rz 35 ?_;refine GC.ret (Fin.b1 4 [] [] ?_)
  refine ⟨congrArg Value.bool ?_,rfl,rfl⟩
  simp [en_ext, *]
 intro h1; try simp only [tst_] at h1
 refine GL.rz 42 ?_;refine GC.ret (Fin.b1 4 [] [] ?_)
 refine ⟨congrArg Value.bool ?_,rfl,rfl⟩
 simp [en_ext, *]
theorem gt_elem {α : Type} [Inhabited α] {l : List α} {k : Nat} (h : k < l.length) : gt l (k : Int) ∈ l := by
  have := gt_ok (xs := l) (i := (k : Int)) (by omega) (by omega)
  exact List.mem_of_getElem? this
theorem rens_ct (A : Option Addr) (a_ : List Entry) (cp : Nat) (B : Option Addr) (b_ : List Entry) (cq : Nat) (hl : a_.length ≤ 140737488355328) (hm : ∀ e ∈ a_,EntLen e) : Ct Tryz.prog 29 [.slice A a_.length cp,.slice B b_.length cq] [] [Pers.row kEntry A a_,Pers.row kEntry B b_] (fun u G Q => u = .bool (decide (a_ = b_)) ∧ G = [] ∧ Q = []) := by
 refine Ct.intro Tryz.func29 rfl rfl rfl (fun c hc => ?_)
 refine GC.rg 1 ?_;refine GC.seq' ?_;refine GC.rg 5 ?_;refine GC.co ?_ ?_
 ·intro h1; try simp only [tst_] at h1
  first
  | (exfalso; omega)
  |(skip
    refine GC.rg 1 ?_;refine GC.ret (Fin.b1 4 [] [] ?_)
    exact ⟨congrArg Value.bool (decide_eq_false fun e => by subst e; omega).symm,rfl,rfl⟩)
 intro h1; try simp only [tst_] at h1
 first
 | (exfalso; omega)
 |(skip
   refine GC.skip (?_ : GC _ _ _ _)
   refine GC.seq' ?_;refine GC.rg 1 ?_;refine GC.block ?_;refine GC.loopK1 (ks := [0,1]) (is := []) (js := [0,1]) (fun (k : Nat) => k ≤ a_.length ∧ ∀ j : Nat,j < k → gt a_ (j : Int) = gt b_ (j : Int)) (fun (k : Nat) => [(5,.int .i64 (k : Int))]) (fun (k : Nat) => []) (fun (k : Nat) => []) (fun (k : Nat) => a_.length - k) (0) rfl rfl rfl (fun a w h => ⟨⟨by omega,fun j hj => by omega⟩,h.cutK (is := []) (js := [0,1]) (ks := [0,1]) ⟨rfl,trivial⟩ rfl rfl rfl⟩) ?_
   intro k hk
   try dsimp only [List.cons_append,List.nil_append] at hk ⊢
   obtain ⟨hk,he⟩ := hk
   refine GC.seq' ?_;refine GC.rg 4 ?_;refine GC.co ?_ ?_
   ·intro h2; try simp only [tst_] at h2
    first
    | (exfalso; omega)
    |(skip
      refine GC.skip (?_ : GC _ _ _ _)
      refine GC.seq' ?_;refine GC.block ?_;refine GC.seq' ?_;refine GC.layQ (y := .tmp 5) (j := 0) rfl rfl (by omega) (gt_ok (by omega) (by omega)) (fun p_x19 r_x19 hA_x19 ok_x19 => ?_)
      rcases r_x19 with ⟨_,⟨_,⟨_,⟨_,⟨_,⟨⟨_,⟨_,⟨_,⟨⟨Ax19_0,cpx19_0⟩,⟨Ax19_1,cpx19_1⟩⟩⟩⟩⟩,⟨_,⟨Ax19_2,cpx19_2⟩⟩⟩⟩⟩⟩⟩⟩
      refine GC.layQ (y := .tmp 5) (j := 5) rfl rfl (by omega) (gt_ok (by omega) (by omega)) (fun p_x23 r_x23 hA_x23 ok_x23 => ?_)
      rcases r_x23 with ⟨_,⟨_,⟨_,⟨_,⟨_,⟨⟨_,⟨_,⟨_,⟨⟨Ax23_0,cpx23_0⟩,⟨Ax23_1,cpx23_1⟩⟩⟩⟩⟩,⟨_,⟨Ax23_2,cpx23_2⟩⟩⟩⟩⟩⟩⟩⟩
      refine GC.regionQ wide_ (by kernel_rfl) ?_;refine GQ.rn 2 ?_;refine GQ.step rfl (q_pure (p_indexL hA_x19 rfl rfl Tryz.underlying62 sz_97 (by omega) (by omega))) ?_;refine GQ.step rfl (q_mem (m_loadPN (i := 4) rfl rfl ag_97 (vs := [_,_,_,_,_,_,_,_,_,_,_,_]) sz_97 ⟨rfl,rfl,rfl,rfl,rfl,rfl,rfl,rfl,rfl,rfl,rfl,rfl,trivial⟩)) ?_
      refine GQ.rn 2 ?_;refine GQ.step rfl (q_pure (p_indexL hA_x23 rfl rfl Tryz.underlying62 sz_97 (by omega) (by omega))) ?_;refine GQ.step rfl (q_mem (m_loadPN (i := 0) rfl rfl ag_97 (vs := [_,_,_,_,_,_,_,_,_,_,_,_]) sz_97 ⟨rfl,rfl,rfl,rfl,rfl,rfl,rfl,rfl,rfl,rfl,rfl,rfl,trivial⟩)) ?_
      refine GQ.step rfl (q_call Tryz.call53 rfl (js := [5,6,7,1,2,3]) rfl (by exact rsen_ct (gt a_ (k : Int)) (gt b_ (k : Int)) _ _ _ _ _ _ _ _ _ _ _ _ (by have := (hm _ (gt_elem (l := a_) (k := k) (by omega))).m; omega))) ?_
      refine GQ.rn 1 ?_
      refine GQ.nil (?_ : GC _ _ _ _)
      refine GC.co ?_ ?_
      ·intro h3; try simp only [tst_] at h3
       first
       | (exfalso; omega)
       |(skip
         refine GC.rg 1 ?_;refine GC.ret (Fin.b1 4 [] [] ?_)
         exact ⟨congrArg Value.bool (decide_eq_false (gt_ne (k := (k : Int)) (by assumption))).symm,rfl,rfl⟩)
      intro h3; try simp only [tst_] at h3
      first
      | (exfalso; omega)
      |(skip
        refine GC.skip (?_ : GC _ _ _ _)
        refine GC.region ?_;refine GL.rn 1 ?_;refine GL.pure rfl (p_add rfl rfl (w64 (by omega) (by omega))) ?_;refine GL.rn 1 ?_;refine GL.nil ?_
        exact fun a w h => ⟨(k + 1),(by omega),⟨by omega,fun j hj => (Nat.lt_succ_iff_lt_or_eq.1 hj).elim (he j) (fun e => by subst e; assumption)⟩,h.ct [] [8,9]⟩))
   intro h2; try simp only [tst_] at h2
   first
   | (exfalso; omega)
   |(skip
     refine GC.exit (?_ : GC _ _ _ _)
     refine GC.rg 1 ?_;refine GC.ret (Fin.b1 4 [] [] ?_)
     exact ⟨congrArg Value.bool (decide_eq_true (list_ext_gt (by omega) fun j hj => he j (by omega))).symm,rfl,rfl⟩))
theorem run_eqShape (w : World) (a b c d : Int) : (Op.equalIn 10000 57 (.agg #[.int .i64 a,.int .i64 b]) (.agg #[.int .i64 c,.int .i64 d])).run Tryz.prog w = .ok (decide (a = c) && decide (b = d)) w := by
  have h1 : Tryz.prog.fieldsOf 57 = (match Tryz.prog.underlying 57 with | some (.struct fs) => fs | _ => #[]) := rfl
  rw [run_equalIn_agg w 9999 _ _ _ (by rw [h1,Tryz.underlying57]) (by kernel_rfl),h1,Tryz.underlying57]
  have p1 : ∀ (l : List Value) (v : Value) (o : Nat) (w : World),nth l o = some v → (part 3 l.toArray o).run Tryz.prog w = .ok v w := fun l v o w h => part_one ag_3 h w
  have e0 : ∀ w,(part 3 #[.int .i64 a,.int .i64 b] 0).run Tryz.prog w = .ok (.int .i64 a) w := fun w => p1 [_,_] _ 0 w rfl
  have e1 : ∀ w,(part 3 #[.int .i64 a,.int .i64 b] 1).run Tryz.prog w = .ok (.int .i64 b) w := fun w => p1 [_,_] _ 1 w rfl
  have e2 : ∀ w,(part 3 #[.int .i64 c,.int .i64 d] 0).run Tryz.prog w = .ok (.int .i64 c) w := fun w => p1 [_,_] _ 0 w rfl
  have e3 : ∀ w,(part 3 #[.int .i64 c,.int .i64 d] 1).run Tryz.prog w = .ok (.int .i64 d) w := fun w => p1 [_,_] _ 1 w rfl
  have q : ∀ (x y : Int) (w : World),(Op.equalIn 9999 3 (.int .i64 x) (.int .i64 y)).run Tryz.prog w = .ok (x == y) w := fun x y w => run_equalIn_int w 9998 _ _ _ _ _ Tryz.underlying3
  simp only [Op.eqFields,Sem.run_bind,Sem.run_ite,e0,e1,e2,e3,q,Result.andThen_ok]
  by_cases h : a = c <;> by_cases h' : b = d <;> subst_vars <;> simp [Sem.run_ite,e0,e1,e2,e3,q,Result.andThen, *]
end Go.Proofs.YtliacpkblicnhaaGreat
