/- Texts of this claim, in one: what the law leans on (part 2). -/
import Derived.Test.YtliacpkblicnhaaGreatK1
set_option linter.unusedVariables false
set_option linter.unusedSimpArgs false
set_option maxRecDepth 100000
namespace Go.Proofs.YtliacpkblicnhaaGreat
open Go Go.Sx Go.Proofs
section
variable (p:Nat)(d s z:Int)(P M:Value)(a b:Int)
theorem storeD:CtD Tryz.prog 107 [.pointer (some ⟨p,0,none⟩),.bool true] [Ey p d s z P M a b] [] (λv G Q=>v=.tuple #[]/\G=[Ey p 1 s z P M a b]/\Q=[]):=by
 refine CtD.intro Tryz.func107 rfl rfl rfl (λc hc=>?_)
 refine BF (m:=6) (is:=[]) (js:=[]) Ef rfl rfl rfl ?_
 refine GA.take 0 rfl (by kernel_rfl) (by kernel_rfl) (by kernel_rfl) rfl (λa w h=>h.mem (is:=[]) (js:=[]) rfl rfl) (EK (Fe rfl)) ?_
 refine GA.take 1 rfl (by kernel_rfl) (by kernel_rfl) (by kernel_rfl) rfl (λa w h=>h.mem (is:=[]) (js:=[]) rfl rfl) (EK (Fb rfl)) ?_
 refine GA.take 2 rfl (by kernel_rfl) (by kernel_rfl) (by kernel_rfl) rfl (λa w h=>h.mem (is:=[]) (js:=[]) rfl rfl) (EK (En fo_29_1 rfl)) ?_
 refine GA.take 3 rfl (by kernel_rfl) (by kernel_rfl) (by kernel_rfl) rfl (λa w h=>h.mem (is:=[]) (js:=[]) rfl rfl) (EK (Fe rfl)) ?_
 refine GA.all (rs:=[4]) (by kernel_rfl) (by simp) ?_
 refine E8.cons (i:=4) rfl rfl (EI rfl Tryz.call161 rfl (is:=[]) (js:=[]) rfl rfl (by exact b32_ct)) (by rintro a w ⟨_,_,_,⟨rfl,rfl,rfl⟩,h⟩;exact h.mem (is:=[]) (js:=[]) rfl rfl) (GA.ret ?_) ?_
 ·rintro _ _ _ ⟨rfl,rfl,rfl⟩
  refine GA.all (rs:=[5]) (by kernel_rfl) (by simp) ?_
  refine E8.cons (i:=5) rfl rfl (MX (P:=Tryz.prog) (f:=160) rfl rfl (is:=[0]) (js:=[]) rfl rfl (by exact stu_x _ _ _ _ _ _ _ _ _)) (by rintro a w ⟨_,_,_,⟨rfl,rfl,rfl⟩,h⟩;exact h.mem (is:=[]) (js:=[]) rfl rfl) (GA.ret ?_) ?_
  ·rintro _ _ _ ⟨rfl,rfl,rfl⟩
   refine BG (by kernel_rfl) ?_
   refine λa w h=>Bz rfl (is:=[0]) (js:=[]) rfl rfl ?_ h
   clear h
   exact⟨rfl,rfl,rfl⟩
  exact Ag
 exact Ag
theorem unlockD:CtD Tryz.prog 106 [.pointer (some ⟨p,1,none⟩)] [Ey p d 1 z P M a b] [] (λv G Q=>v=.tuple #[]/\G=[Ey p d 0 z P M a b]/\Q=[]):=by
 refine CtD.intro Tryz.func106 rfl rfl rfl (λc hc=>?_)
 refine GC.region ?_
 refine AO rfl (Fe rfl) ?_
 refine AO rfl (Fb rfl) ?_
 refine AO rfl (En fo_33_1 rfl) ?_
 refine GL.step rfl (EI rfl Tryz.call159 rfl (is:=[0]) (js:=[]) rfl rfl (by exact iH _ _ _ _ _ _ _)) (GL.ret ?_)
 rintro _ _ _ ⟨rfl,rfl,rfl⟩
 refine Ac ?_
 refine λa w h=>Bz rfl (is:=[0]) (js:=[]) rfl rfl ?_ h
 clear h
 exact⟨rfl,rfl,rfl⟩
abbrev wbx(w p:Nat):Own:=.cells w [.pointer (some ⟨p,0,none⟩)] 87
theorem use1_ct(w:Nat):Ct Tryz.prog 45 [.pointer (some ⟨w,0,none⟩)] [wbx w p,Ey p d s z P M a b] [] (λv G Q=>∃m,v=.tuple #[]/\G=[.blk m (.map #[] 0),wbx w p,Ey p d s z P (.map (some m)) a b]/\Q=[]):=by
 refine Ct.intro Tryz.func45 rfl rfl rfl (λc hc=>?_)
 refine GC.region ?_;refine Ad 0 ?_;refine GL.step rfl (Xi rfl) (Aa λm_t2=>?_);refine AA 2 ?_;refine BI 2 ?_;refine Ac ?_
 refine λa w h=>Bz rfl (is:=[0,0,0]) (js:=[]) rfl rfl ?_ h
 clear h
 exact⟨_,rfl,rfl,rfl⟩
theorem slow_ct(w:Nat):Ct Tryz.prog 71 [.pointer (some ⟨p,0,none⟩),.func (.func 45) #[] #[.pointer (some ⟨w,0,none⟩)]] [wbx w p,Ey p 0 0 z P M a b] [] (λv G Q=>∃m,v=.tuple #[]/\G=[.blk m (.map #[] 0),wbx w p,Ey p 1 0 z P (.map (some m)) a b]/\Q=[]):=by
 refine Ct.WA Tryz.func71 rfl rfl rfl (λc hc tK=>?_)
 refine AV 3 ?_;refine Ah Tryz.call105 [1] [] rfl rfl rfl (by exact lock_ct _ _ _ _ _ _ _) ?_
 rintro _ _ _ ⟨rfl,rfl,rfl⟩
 refine BL 3 ?_;refine Dy (f:=106) (us:=[_]) rfl ?_;refine BL 3 ?_;refine Ah Tryz.call70 [0] [] rfl rfl rfl (by exact nX _ _ _ _ _ _ _) ?_
 rintro _ _ _ ⟨rfl,rfl,rfl⟩
 refine AL 1 ?_;refine AU rfl ?_;refine AV 3 ?_;refine Dy (f:=107) (us:=[_,_]) rfl ?_;refine Ap ?_;refine GC.region ?_;refine AA 1 ?_;refine GL.step rfl (QG rfl Tryz.call45 rfl rfl (is:=[1,0]) (js:=[]) rfl rfl (by exact use1_ct _ _ _ _ _ _ _ _ _)) (GL.ret ?_)
 rintro _ _ _ ⟨m20,rfl,rfl,rfl⟩
 refine Ac ?_
 refine λa w h=>?_
 refine(UD.pop Tryz.call107 (D:=dcall 106 [.pointer (some ⟨p,1,none⟩)]::c.D) rfl (storeD p 0 1 z P _ _ _) (is:=[2]) (js:=[]) rfl rfl (λu G2 Q2 a w hR h=>?_) h:UD _ _ _ _ .ret a w)
 obtain⟨rfl,rfl,rfl⟩:=hR
 refine UD.pop Tryz.call106 (D:=c.D) rfl (unlockD p 1 z P _ _ _) (is:=[0]) (js:=[]) rfl rfl (λu G2 Q2 a w hR h=>?_) h
 obtain⟨rfl,rfl,rfl⟩:=hR
 exact DU (c:=⟨c.w0,c.S0,c.L0,c.D⟩) tK (rs:=[]) (vs:=[]) (is:=[1,1,0]) (js:=[]) rfl trivial rfl rfl ⟨_,rfl,rfl,rfl⟩ h
theorem do0_ct(w:Nat):Ct Tryz.prog 44 [.pointer (some ⟨p,0,none⟩),.func (.func 45) #[] #[.pointer (some ⟨w,0,none⟩)]] [wbx w p,Ey p 0 0 z P M a b] [] (λv G Q=>∃m,v=.tuple #[]/\G=[.blk m (.map #[] 0),wbx w p,Ey p 1 0 z P (.map (some m)) a b]/\Q=[]):=by
 refine Ct.intro Tryz.func44 rfl rfl rfl (λc hc=>?_)
 refine AV 3 ?_;refine Ah Tryz.call70 [1] [] rfl rfl rfl (by exact nX _ _ _ _ _ _ _) ?_
 rintro _ _ _ ⟨rfl,rfl,rfl⟩
 refine AL 1 ?_;refine AU rfl ?_;refine GC.region ?_;refine AA 2 ?_;refine Ah Tryz.call71 [1,0] [] rfl rfl rfl (by exact slow_ct _ _ _ _ _ _ _) ?_
 rintro _ _ _ ⟨m11,rfl,rfl,rfl⟩
 refine Ac ?_
 refine λa w h=>Bz rfl (is:=[0,0,0]) (js:=[]) rfl rfl ?_ h
 clear h
 exact⟨_,rfl,rfl,rfl⟩
theorem do1_ct(w:Nat):Ct Tryz.prog 44 [.pointer (some ⟨p,0,none⟩),.func (.func 45) #[] #[.pointer (some ⟨w,0,none⟩)]] [wbx w p,Ey p 1 s z P M a b] [] (λv G Q=>v=.tuple #[]/\G=[wbx w p,Ey p 1 s z P M a b]/\Q=[]):=by
 refine Ct.intro Tryz.func44 rfl rfl rfl (λc hc=>?_)
 refine AV 3 ?_;refine Ah Tryz.call70 [1] [] rfl rfl rfl (by exact bld1_ct _ _ _ _ _ _ _) ?_
 rintro _ _ _ ⟨rfl,rfl,rfl⟩
 refine AL 1 ?_;refine AY rfl ?_;refine GC.skip ?_
 refine λa w h=>Bz rfl (is:=[1,0]) (js:=[]) rfl rfl ?_ h
 clear h
 exact⟨rfl,rfl,rfl⟩
theorem RP:Ct Tryz.prog 22 [.pointer (some ⟨p,0,none⟩)] [Ey p 0 0 z P M a b] [] (λv G Q=>∃m,v=.pointer (some ⟨p,0,none⟩)/\G=[Ey p 1 0 z P (.map (some m)) a b,.blk m (.map #[] 0)]/\Q=[]):=by
 refine Ct.intro Tryz.func22 rfl rfl rfl (λc hc=>?_)
 refine AX ?_;refine GL.step rfl (Ee rfl rfl rfl) (Aa λIJ=>?_);refine AL 1 ?_;refine AX ?_;refine Ad 0 ?_;refine AA 2 ?_;refine AO rfl (J5 rfl rfl) ?_;refine Ah Tryz.call44 [0,0] [] rfl rfl rfl (by exact do0_ct _ _ _ _ _ _ _) ?_
 rintro _ _ _ ⟨m7,rfl,rfl,rfl⟩
 refine Ap ?_;refine AX ?_;refine Ad 1 ?_;refine AL 1 ?_;refine GC.ret (AQ 2 [2,0] [] ?_)
 exact⟨_,rfl,rfl,rfl⟩
theorem OL:Ct Tryz.prog 22 [.pointer (some ⟨p,0,none⟩)] [Ey p 1 s z P M a b] [] (λv G Q=>v=.pointer (some ⟨p,0,none⟩)/\G=[Ey p 1 s z P M a b]/\Q=[]):=by
 refine Ct.intro Tryz.func22 rfl rfl rfl (λc hc=>?_)
 refine AX ?_;refine GL.step rfl (Ee rfl rfl rfl) (Aa λIJ=>?_);refine AL 1 ?_;refine AX ?_;refine Ad 0 ?_;refine AA 2 ?_;refine AO rfl (J5 rfl rfl) ?_;refine Ah Tryz.call44 [0,0] [] rfl rfl rfl (by exact do1_ct _ _ _ _ _ _ _ _) ?_
 rintro _ _ _ ⟨rfl,rfl,rfl⟩
 refine Ap ?_;refine AX ?_;refine Ad 0 ?_;refine AL 1 ?_;refine GC.ret (AQ 2 [1] [] ?_)
 exact⟨rfl,rfl,rfl⟩
end
end Go.Proofs.YtliacpkblicnhaaGreat
namespace Go.Sx
open Go
section
variable {P:Program}{c:Cx}{n:Nat}{env:List (Nat×Value)}{G G':List Own}{Q:List D7}{d:Nat}{ty:TypeId}{pos:String}{Ew:Array Edge}{g:Option (Nat×Bool)}{x y:Operand}{t:TypeId}
theorem dZ{i b o o2 n0 m cp cp2 sz:Nat}{ad:Addr}{l l' news:List Value}{e e':TypeId}(hd:Nat.blt d n=true)(ht:P.underlying t=some (.slice e))(hs:FN P e=some sz)(hi:FB G i=some (.cells b l e'))(hx:ev env x=some (.slice (some ⟨b,o,none⟩) n0 cp))(hy:ev env y=some (.slice (some ad) m cp2))
  (hat:m=0\/ad=⟨b,o2,none⟩/\o2+m * sz<=l.length) (hnews:news=(l.drop o2).take (m * sz)) (h1:∀u∈news,u.oneCell'=true) (hcp:n0+m<=cp) (hfit:o+n0 * sz+m * sz<=l.length) (hl':laid l (o+n0 * sz) news=l') (hr:Io G i (.cells b l' e')=some G') :
  Tr P ⟨some d,.call { callee:=.builtin .append,args:=#[x,y],argTypes:=#[t,t] },ty,pos,Ew,g⟩ (St c n env G Q) (St c n ((d,.slice (some ⟨b,o,none⟩) (n0+m) cp)::env) G' Q):=by
 intro a w hst K R hk
 have he:=hst.en
 have hb:w.heap[b]?=some (.cells l.toArray e' (0,0)):=hst.own hi
 have hlen:m=0\/news.length=m * sz:=by
  rcases hat with h|⟨_,h⟩
  ·exact .inl h
  ·right;rw[hnews,List.length_take,List.length_drop];omega
 have hload:(loadCells ad (m * sz)).run P w=.ok news.toArray w:=by
  rcases hat with h|⟨rfl,h⟩
  ·subst h
   have:news=[]:=by rw[hnews];simp
   subst this
   have:=run_loadCells_list (P:=P) w ad [] (DN w ad)
   simpa using this
  ·have hn:news.length=m * sz:=by rw[hnews,List.length_take,List.length_drop];omega
   rw[<-hn]
   exact run_loadCells_list w _ news (Jj hb λj u hj=>by
    rw[hnews,List.getElem?_take] at hj
    split at hj
    ·rw[List.getElem?_drop] at hj;exact hj
    ·cases hj)
 have hnl:news.length<=m * sz:=by rw[hnews,List.length_take];omega
 have WE:=run_storeCells_at (P:=P) b (o+n0 * sz) e' news 0 l.toArray w hb (by rw[List.size_toArray];omega) h1
 rw[Nat.add_zero] at WE
 have hrun0:(Builtin.append_ #[t,t] ty #[.slice (some ⟨b,o,none⟩) n0 cp,.slice (some ad) m cp2]).run P w=.ok (.slice (some ⟨b,o,none⟩) (n0+m) cp) (w.setRow b l'.toArray):=by
  simp[Builtin.append_,run_underlying ht,H_ hs,Builtin.lenOf,Builtin.firstCells,hcp,hload,add_lit,WE,<-hl',laid,Result.andThen]
 have hop:(execOp a.eval ⟨some d,.call { callee:=.builtin .append,args:=#[x,y],argTypes:=#[t,t] },ty,pos,Ew,g⟩).run P w=.ok (.value (.slice (some ⟨b,o,none⟩) (n0+m) cp)) (w.setRow b l'.toArray):=by
  simp only[execOp,resolve,invoke,builtin,Sem.run_bind,Sem.run_pure,Result.andThen_ok,List.map_toArray,List.map_cons,List.map_nil,he.eval hx,he.eval hy,hrun0]
 unfold Oper.wp
 rw[hop]
 exact hk _ _ (hst.write hi hr (Fr.setRow w b _) (setRow_heap w b _ _ _ _ hb) (λk hk=>.inl hk) (by simp[Own.keys]) (he.put hd _))
end
end Go.Sx
namespace Go.Proofs.YtliacpkblicnhaaGreat
open Go Go.Sx Go.Proofs
theorem eP(w:World)(a b c d:Int):(Op.equalIn 10000 112 (.agg #[.int .i64 a,.int .i64 b]) (.agg #[.int .i64 c,.int .i64 d])).run Tryz.prog w=.ok (decide (a=c) && decide (b=d)) w:=by
 have h1:Tryz.prog.fieldsOf 112=(match Tryz.prog.underlying 112 with|some (.struct fs)=>fs|_=>#[]):=rfl
 rw[run_equalIn_agg w 9999 _ _ _ (by rw[h1,Tryz.underlying112]) (by kernel_rfl),h1,Tryz.underlying112]
 have p1:∀(l:List Value) (v:Value) (o:Nat) (w:World),nth l o=some v->(part 3 l.toArray o).run Tryz.prog w=.ok v w:=λl v o w h=>Rf Ei h w
 have e0:∀w,(part 3 #[.int .i64 a,.int .i64 b] 0).run Tryz.prog w=.ok (.int .i64 a) w:=λw=>p1 [_,_] _ 0 w rfl
 have e1:∀w,(part 3 #[.int .i64 a,.int .i64 b] 1).run Tryz.prog w=.ok (.int .i64 b) w:=λw=>p1 [_,_] _ 1 w rfl
 have e2:∀w,(part 3 #[.int .i64 c,.int .i64 d] 0).run Tryz.prog w=.ok (.int .i64 c) w:=λw=>p1 [_,_] _ 0 w rfl
 have e3:∀w,(part 3 #[.int .i64 c,.int .i64 d] 1).run Tryz.prog w=.ok (.int .i64 d) w:=λw=>p1 [_,_] _ 1 w rfl
 have q:∀(x y:Int) (w:World),(Op.equalIn 9999 3 (.int .i64 x) (.int .i64 y)).run Tryz.prog w=.ok (x == y) w:=λx y w=>run_equalIn_int w 9998 _ _ _ _ _ Tryz.underlying3
 simp only[Op.eqFields,Sem.run_bind,Sem.run_ite,e0,e1,e2,e3,q,Result.andThen_ok]
 by_cases h:a=c<;>by_cases h':b=d<;>subst_vars<;>simp[Sem.run_ite,e0,e1,e2,e3,q,Result.andThen, *]
theorem XL(em:Bool)(w:World)(a b:Int):(Instr.checkKey em 10000 112 (.agg #[.int .i64 a,.int .i64 b])).run Tryz.prog w=.ok () w:=by
 have p1:∀(l:List Value) (v:Value) (o:Nat) (w:World),nth l o=some v->(part 3 l.toArray o).run Tryz.prog w=.ok v w:=λl v o w h=>Rf Ei h w
 have e0:∀w,(part 3 #[.int .i64 a,.int .i64 b] 0).run Tryz.prog w=.ok (.int .i64 a) w:=λw=>p1 [_,_] _ 0 w rfl
 have e1:∀w,(part 3 #[.int .i64 a,.int .i64 b] 1).run Tryz.prog w=.ok (.int .i64 b) w:=λw=>p1 [_,_] _ 1 w rfl
 have q:∀(n:Nat) (x:Int) (w:World),(Instr.checkKey em (n+1) 3 (.int .i64 x)).run Tryz.prog w=.ok () w:=λn x w=>by
  simp only[Instr.checkKey,Sem.run_bind,run_underlying Tryz.underlying3,Result.andThen_ok]
  rfl
 have key:∀n,(Instr.checkKey em (n+2) 112 (.agg #[.int .i64 a,.int .i64 b])).run Tryz.prog w=.ok () w:=λn=>by
  simp only[Instr.checkKey,Sem.run_bind,run_underlying Tryz.underlying112,Result.andThen_ok]
  simp[e0,e1,q,Result.andThen]
 exact key 9998
theorem Xw:Qe Tryz.prog 112 where
 wide:=by rw[Tryz.underlying112]
 check:=λem p w=>XL em w p.1 p.2
 eq:=λp q w=>by
  have:=eP w p.1 p.2 q.1 q.2
  refine this.trans ?_
  congr 1
  rw[Bool.eq_iff_iff]
  simp[Prod.ext_iff]
theorem lk0:NV [] (#[]:Array MapEntry).toList:=trivial
end Go.Proofs.YtliacpkblicnhaaGreat
namespace Go.Proofs.YtliacpkblicnhaaGreat
open Go Go.Sx Go.Proofs
section
variable (p:Nat)(z:Int)(P:Value)(a b:Int)
theorem lX(i:Int):Ct Tryz.prog 32 [.int .i64 i] [] [] (λv G Q=>v=.bool (decide (0<=i) && decide (i<64))/\G=[]/\Q=[]):=by
 refine Ct.intro Tryz.func32 rfl rfl rfl (λc hc=>?_)
 refine AP 1 ?_;refine AV 3 ?_;refine Ak 5 ?_ ?_
 ·intro h1;try simp only[D6] at h1
  refine AL 4 ?_;refine GC.ret (AQ 2 [] [] ?_)
  refine⟨congrArg Value.bool ?_,rfl,rfl⟩
  first|(simp_all;done)|(simp;omega)
 intro h1;try simp only[D6] at h1
 refine AL 4 ?_;refine GC.ret (AQ 2 [] [] ?_)
 refine⟨congrArg Value.bool ?_,rfl,rfl⟩
 first|(simp_all;done)|(simp;omega)
theorem is0_ct(i j:Int):Ct Tryz.prog 20 [.pointer (some ⟨p,0,none⟩),.int .i64 i,.int .i64 j] [Ey p 0 0 z P (.map none) a b] [] (λv G Q=>∃m,v=.bool false/\G=[Ey p 1 0 z P (.map (some m)) a b,.blk m (.map #[] 0)]/\Q=[]):=by
 refine Ct.intro Tryz.func20 rfl rfl rfl (λc hc=>?_)
 refine AP 1 ?_;refine AB ?_;refine AV 1 ?_;refine AO rfl (Gh Tryz.underlying87 rfl rfl) ?_;refine Ap ?_;refine AY rfl ?_
 refine GC.skip (?_:GC _ _ _ _)
 refine AV 1 ?_;refine Ah Tryz.call22 [0] [] rfl rfl rfl (by exact RP _ _ _ _ _ _) ?_
 rintro _ _ _ ⟨m13,rfl,rfl,rfl⟩
 refine AA 2 ?_;refine Ad 0 ?_;refine AA 2 ?_;refine AO rfl (ED Sv TQ rfl rfl) ?_;refine GL.step rfl (Xj (i:=1) (p:=(_,_)) Xw rfl rfl lk0 rfl rfl Tryz.underlying37 (by kernel_rfl)) ?_
 refine AA 3 ?_;refine GL.step rfl (EH rfl jm) (Aa λjJ=>?_);refine Ar 0 ?_;refine AL 1 ?_;refine AP 2 ?_;refine GC.ret (AQ 6 [1,1] [] ?_)
 exact⟨_,by first|rfl|simp,rfl,rfl⟩
theorem iI(s:Int)(m:Nat)(es:Array MapEntry)(ck:Nat)(T:List (Int×Int))(i j:Int)(hT:NV T es.toList):Ct Tryz.prog 20 [.pointer (some ⟨p,0,none⟩),.int .i64 i,.int .i64 j] [Ey p 1 s z P (.map (some m)) a b,.blk m (.map es ck)] [] (λv G Q=>v=.bool (decide ((i,j)∈T))/\G=[Ey p 1 s z P (.map (some m)) a b,.blk m (.map es ck)]/\Q=[]):=by
 refine Ct.intro Tryz.func20 rfl rfl rfl (λc hc=>?_)
 refine AP 1 ?_;refine AB ?_;refine AV 1 ?_;refine AO rfl (Gh Tryz.underlying87 rfl rfl) ?_;refine Ap ?_;refine AY rfl ?_
 refine GC.skip (?_:GC _ _ _ _)
 refine AV 1 ?_;refine Ah Tryz.call22 [0] [] rfl rfl rfl (by exact OL _ _ _ _ _ _ _) ?_
 rintro _ _ _ ⟨rfl,rfl,rfl⟩
 refine AA 2 ?_;refine Ad 0 ?_;refine AA 2 ?_;refine AO rfl (ED Sv TQ rfl rfl) ?_;refine GL.step rfl (Xj (i:=1) (p:=(_,_)) Xw rfl rfl hT rfl rfl Tryz.underlying37 (by kernel_rfl)) ?_
 refine AA 3 ?_;refine GL.step rfl (EH rfl jm) (Aa λjJ=>?_);refine Ar 0 ?_;refine AL 1 ?_;refine AP 2 ?_;refine GC.ret (AQ 6 [1,1] [] ?_)
 exact⟨rfl,rfl,rfl⟩
end
end Go.Proofs.YtliacpkblicnhaaGreat
namespace Go.Proofs.YtliacpkblicnhaaGreat
open Go Go.Sx Go.Proofs
section
variable (p:Nat)(z:Int)(P:Value)(a b:Int)
theorem Ro(i:Int)(h:0<=i/\i<64):Ct Tryz.prog 32 [.int .i64 i] [] [] (λv G Q=>v=.bool true/\G=[]/\Q=[]) :=
 Ct.mono (lX i) λu G Q hh=>⟨hh.1.trans (by simp;omega),hh.2⟩
theorem cut0_ct(i j:Int)(on:Bool)(hi:0<=i/\i<64)(hj:0<=j/\j<64):Ct Tryz.prog 14 [.pointer (some ⟨p,0,none⟩),.int .i64 i,.int .i64 j,.bool on] [Ey p 0 0 z P (.map none) a b] [] (λv G Q=>∃m es ck,NV (if on then [(i,j)] else []) es.toList/\v=.int .i64 0/\G=[Ey p 1 0 z P (.map (some m)) a b,.blk m (.map es ck)]/\Q=[]):=by
 refine Ct.intro Tryz.func14 rfl rfl rfl (λc hc=>?_)
 refine AP 1 ?_;refine AB ?_;refine AV 1 ?_;refine AO rfl (Gh Tryz.underlying87 rfl rfl) ?_;refine Ap ?_;refine AY rfl ?_
 refine GC.skip (?_:GC _ _ _ _)
 refine AB ?_;refine AV 1 ?_;refine Ah Tryz.call32 [] [] rfl rfl rfl (by exact Ro i hi) ?_
 rintro _ _ _ ⟨rfl,rfl,rfl⟩
 refine AA 3 ?_;refine Au rfl (s:=14) rfl rfl (EI rfl Tryz.call32 rfl (is:=[]) (js:=[]) rfl rfl (by exact Ro j hj)) (GL.ret ?_)
 rintro _ _ _ ⟨rfl,rfl,rfl⟩
 refine AL 2 ?_;refine AY rfl ?_
 refine GC.skip (?_:GC _ _ _ _)
 refine AB ?_;refine AP 1 ?_;refine Af ?_ ?_
 ·intro h1;try simp only[D6] at h1
  refine GC.region ?_;refine AA 1 ?_;refine Ah Tryz.call22 [0] [] rfl rfl rfl (by exact RP _ _ _ _ _ _) ?_
  rintro _ _ _ ⟨m21,rfl,rfl,rfl⟩
  refine AA 2 ?_;refine Ad 0 ?_;refine AA 2 ?_;refine AO rfl (ED Sv TQ rfl rfl) ?_;refine AO rfl (ED jm of_24 rfl rfl) ?_;refine GL.step rfl (Xh (i:=1) (p:=(_,_)) Xw rfl lk0 rfl rfl rfl Tryz.underlying37 (λ_ _=>rfl)) (Aa λes_mu6=>Aa λck_mu6=>GL.and λWJ=>?_)
  refine Ac (?_:GC _ _ _ _)
  refine AP 1 ?_;refine GC.ret (AQ 8 [0,0] [] ?_)
  exact⟨_,_,_,by subst on;first|exact WJ|simpa[*] using WJ,rfl,rfl,rfl⟩
 intro h1;try simp only[D6] at h1
 refine GC.region ?_;refine AA 1 ?_;refine Ah Tryz.call22 [0] [] rfl rfl rfl (by exact RP _ _ _ _ _ _) ?_
 rintro _ _ _ ⟨m30,rfl,rfl,rfl⟩
 refine AA 2 ?_;refine Ad 0 ?_;refine AA 2 ?_;refine AO rfl (ED Sv TQ rfl rfl) ?_;refine GL.step rfl (Xk (i:=1) (p:=(_,_)) Xw rfl lk0 rfl rfl Tryz.underlying37 (λ_ _=>rfl)) (Aa λes_md7=>Aa λck_md7=>GL.and λiQ=>?_)
 refine Ac (?_:GC _ _ _ _)
 refine AP 1 ?_;refine GC.ret (AQ 8 [0,0] [] ?_)
 exact⟨_,_,_,by simpa[*] using iQ,rfl,rfl,rfl⟩
theorem sF(d s:Int)(M:Value):Ct Tryz.prog 16 [.pointer (some ⟨p,0,none⟩)] [Ey p d s z P M a b] [] (λv G Q=>v=.tuple #[.int .i64 a,.int .i64 b]/\G=[Ey p d s z P M a b]/\Q=[]):=by
 refine Ct.intro Tryz.func16 rfl rfl rfl (λc hc=>?_)
 refine AP 2 ?_;refine AB ?_;refine AV 1 ?_;refine AO rfl (Gh Tryz.underlying87 rfl rfl) ?_;refine Ap ?_;refine AY rfl ?_
 refine GC.skip (?_:GC _ _ _ _)
 refine AB ?_;refine BP Ef (by kernel_rfl) ?_;refine Am 3 ?_;refine GQ.step rfl (kS Tryz.call33 rfl (is:=[0]) (js:=[]) rfl rfl (by exact ldS_ct _ _ _ _ _ _ _ _)) ?_;refine Am 3 ?_;refine GQ.step rfl (kS Tryz.call33 rfl (is:=[0]) (js:=[]) rfl rfl (by exact ldL_ct _ _ _ _ _ _ _ _)) ?_
 refine Am 2 ?_
 refine BO (?_:GC _ _ _ _)
 refine GC.ret (BR 2 3 [0] [] ?_)
 exact⟨rfl,rfl,rfl⟩
theorem len_ct(d s:Int)(M:Value)(A:Option Addr)(k cp:Nat):Ct Tryz.prog 15 [.pointer (some ⟨p,0,none⟩)] [Ey p d s z (.slice A k cp) M a b] [] (λv G Q=>v=.int .i64 k/\G=[Ey p d s z (.slice A k cp) M a b]/\Q=[]):=by
 refine Ct.intro Tryz.func15 rfl rfl rfl (λc hc=>?_)
 refine AP 1 ?_;refine AB ?_;refine AV 1 ?_;refine AO rfl (Gh Tryz.underlying87 rfl rfl) ?_;refine Ap ?_;refine AY rfl ?_
 refine GC.skip (?_:GC _ _ _ _)
 refine AV 3 ?_;refine Ad 0 ?_;refine AL 2 ?_;refine GC.ret (AQ 2 [0] [] ?_)
 exact⟨rfl,rfl,rfl⟩
end
end Go.Proofs.YtliacpkblicnhaaGreat
namespace Go.Proofs.YtliacpkblicnhaaGreat
open Go Go.Sx Go.Proofs
section
variable (p:Nat)(z:Int)(P:Value)(a b:Int)
theorem lW(i:Int)(h:¬(0<=i/\i<64)):Ct Tryz.prog 32 [.int .i64 i] [] [] (λv G Q=>v=.bool false/\G=[]/\Q=[]) :=
 Ct.mono (lX i) λu G Q hh=>⟨hh.1.trans (by simp;omega),hh.2⟩
theorem cut1_ct(s:Int)(m:Nat)(es:Array MapEntry)(ck:Nat)(T:List (Int×Int))(i j:Int)(on:Bool)(hT:NV T es.toList)(hi:0<=i/\i<64)(hj:0<=j/\j<64):Ct Tryz.prog 14 [.pointer (some ⟨p,0,none⟩),.int .i64 i,.int .i64 j,.bool on] [Ey p 1 s z P (.map (some m)) a b,.blk m (.map es ck)] [] (λv G Q=>∃es ck,NV (if on then O9 T (i,j) else T.erase (i,j)) es.toList/\v=.int .i64 0/\G=[Ey p 1 s z P (.map (some m)) a b,.blk m (.map es ck)]/\Q=[]):=by
 refine Ct.intro Tryz.func14 rfl rfl rfl (λc hc=>?_)
 refine AP 1 ?_;refine AB ?_;refine AV 1 ?_;refine AO rfl (Gh Tryz.underlying87 rfl rfl) ?_;refine Ap ?_;refine AY rfl ?_
 refine GC.skip (?_:GC _ _ _ _)
 refine AB ?_;refine AV 1 ?_;refine Ah Tryz.call32 [] [] rfl rfl rfl (by exact Ro i hi) ?_
 rintro _ _ _ ⟨rfl,rfl,rfl⟩
 refine AA 3 ?_;refine Au rfl (s:=14) rfl rfl (EI rfl Tryz.call32 rfl (is:=[]) (js:=[]) rfl rfl (by exact Ro j hj)) (GL.ret ?_)
 rintro _ _ _ ⟨rfl,rfl,rfl⟩
 refine AL 2 ?_;refine AY rfl ?_
 refine GC.skip (?_:GC _ _ _ _)
 refine AB ?_;refine AP 1 ?_;refine Af ?_ ?_
 ·intro h1;try simp only[D6] at h1
  refine GC.region ?_;refine AA 1 ?_;refine Ah Tryz.call22 [0] [] rfl rfl rfl (by exact OL _ _ _ _ _ _ _) ?_
  rintro _ _ _ ⟨rfl,rfl,rfl⟩
  refine AA 2 ?_;refine Ad 0 ?_;refine AA 2 ?_;refine AO rfl (ED Sv TQ rfl rfl) ?_;refine AO rfl (ED jm of_24 rfl rfl) ?_;refine GL.step rfl (Xh (i:=1) (p:=(_,_)) Xw rfl hT rfl rfl rfl Tryz.underlying37 (λ_ _=>rfl)) (Aa λes_mu6=>Aa λck_mu6=>GL.and λWJ=>?_)
  refine Ac (?_:GC _ _ _ _)
  refine AP 1 ?_;refine GC.ret (AQ 8 [0,0] [] ?_)
  exact⟨_,_,by subst on;first|exact WJ|simpa[*] using WJ,rfl,rfl,rfl⟩
 intro h1;try simp only[D6] at h1
 refine GC.region ?_;refine AA 1 ?_;refine Ah Tryz.call22 [0] [] rfl rfl rfl (by exact OL _ _ _ _ _ _ _) ?_
 rintro _ _ _ ⟨rfl,rfl,rfl⟩
 refine AA 2 ?_;refine Ad 0 ?_;refine AA 2 ?_;refine AO rfl (ED Sv TQ rfl rfl) ?_;refine GL.step rfl (Xk (i:=1) (p:=(_,_)) Xw rfl hT rfl rfl Tryz.underlying37 (λ_ _=>rfl)) (Aa λes_md7=>Aa λck_md7=>GL.and λiQ=>?_)
 refine Ac (?_:GC _ _ _ _)
 refine AP 1 ?_;refine GC.ret (AQ 8 [0,0] [] ?_)
 exact⟨_,_,by first|(subst on;exact iQ)|simp[*],rfl,rfl,rfl⟩
theorem cutxi_ct(d s:Int)(M:Value)(i j:Int)(on:Bool)(hi:¬(0<=i/\i<64)):Ct Tryz.prog 14 [.pointer (some ⟨p,0,none⟩),.int .i64 i,.int .i64 j,.bool on] [Ey p d s z P M a b] [] (λv G Q=>v=.int .i64 1/\G=[Ey p d s z P M a b]/\Q=[]):=by
 refine Ct.intro Tryz.func14 rfl rfl rfl (λc hc=>?_)
 refine AP 1 ?_;refine AB ?_;refine AV 1 ?_;refine AO rfl (Gh Tryz.underlying87 rfl rfl) ?_;refine Ap ?_;refine AY rfl ?_
 refine GC.skip (?_:GC _ _ _ _)
 refine AB ?_;refine AV 1 ?_;refine Ah Tryz.call32 [] [] rfl rfl rfl (by exact lW i hi) ?_
 rintro _ _ _ ⟨rfl,rfl,rfl⟩
 refine AL 6 ?_;refine AU rfl ?_;refine AP 1 ?_;refine GC.ret (AQ 8 [0] [] ?_)
 exact⟨rfl,rfl,rfl⟩
theorem cutxj_ct(d s:Int)(M:Value)(i j:Int)(on:Bool)(hi:0<=i/\i<64)(hj:¬(0<=j/\j<64)):Ct Tryz.prog 14 [.pointer (some ⟨p,0,none⟩),.int .i64 i,.int .i64 j,.bool on] [Ey p d s z P M a b] [] (λv G Q=>v=.int .i64 1/\G=[Ey p d s z P M a b]/\Q=[]):=by
 refine Ct.intro Tryz.func14 rfl rfl rfl (λc hc=>?_)
 refine AP 1 ?_;refine AB ?_;refine AV 1 ?_;refine AO rfl (Gh Tryz.underlying87 rfl rfl) ?_;refine Ap ?_;refine AY rfl ?_
 refine GC.skip (?_:GC _ _ _ _)
 refine AB ?_;refine AV 1 ?_;refine Ah Tryz.call32 [] [] rfl rfl rfl (by exact Ro i hi) ?_
 rintro _ _ _ ⟨rfl,rfl,rfl⟩
 refine AA 3 ?_;refine Au rfl (s:=14) rfl rfl (EI rfl Tryz.call32 rfl (is:=[]) (js:=[]) rfl rfl (by exact lW j hj)) (GL.ret ?_)
 rintro _ _ _ ⟨rfl,rfl,rfl⟩
 refine AL 2 ?_;refine AU rfl ?_;refine AP 1 ?_;refine GC.ret (AQ 8 [0] [] ?_)
 exact⟨rfl,rfl,rfl⟩
theorem cutx_ct(d s:Int)(M:Value)(i j:Int)(on:Bool)(h:¬((0<=i/\i<64)/\0<=j/\j<64)):Ct Tryz.prog 14 [.pointer (some ⟨p,0,none⟩),.int .i64 i,.int .i64 j,.bool on] [Ey p d s z P M a b] [] (λv G Q=>v=.int .i64 1/\G=[Ey p d s z P M a b]/\Q=[]):=by
 by_cases hi:0<=i/\i<64
 ·exact cutxj_ct p z P a b d s M i j on hi λhj=>h ⟨hi,hj⟩
 ·exact cutxi_ct p z P a b d s M i j on hi
theorem Si(d s:Int)(M:Value)(A:Option Addr)(k cp:Nat)(i:Int)(h0:0<=i)(h1:i<(k:Int)):Ct Tryz.prog 30 [.pointer (some ⟨p,0,none⟩),.int .i64 i] [Ey p d s z (.slice A k cp) M a b] [] (λv G Q=>v=.int .i64 0/\G=[Ey p d s z (.slice A k cp) M a b]/\Q=[]):=by
 refine Ct.intro Tryz.func30 rfl rfl rfl (λc hc=>?_)
 refine AP 1 ?_;refine AB ?_;refine GC.block ?_;refine AV 1 ?_;refine AO rfl (Gh Tryz.underlying87 rfl rfl) ?_;refine AL 1 ?_;refine AY rfl ?_;refine AV 3 ?_;refine Ak 11 ?_ ?_
 ·intro h1;try simp only[D6] at h1
  exfalso;omega
 intro h1;try simp only[D6] at h1
 refine AA 4 ?_;refine Aj 0 ?_;refine AL 4 ?_;refine Af ?_ ?_
 ·intro h2;try simp only[D6] at h2
  exfalso;omega
 intro h2;try simp only[D6] at h2
 refine GC.skip (?_:GC _ _ _ _)
 refine AP 1 ?_;refine GC.ret (AQ 4 [0] [] ?_)
 exact⟨rfl,rfl,rfl⟩
theorem XF(d s:Int)(M:Value)(A:Option Addr)(k cp:Nat)(i:Int)(h:¬(0<=i/\i<(k:Int))):Ct Tryz.prog 30 [.pointer (some ⟨p,0,none⟩),.int .i64 i] [Ey p d s z (.slice A k cp) M a b] [] (λv G Q=>v=.int .i64 5/\G=[Ey p d s z (.slice A k cp) M a b]/\Q=[]):=by
 refine Ct.intro Tryz.func30 rfl rfl rfl (λc hc=>?_)
 refine AP 1 ?_;refine AB ?_;refine GC.block ?_;refine AV 1 ?_;refine AO rfl (Gh Tryz.underlying87 rfl rfl) ?_;refine AL 1 ?_;refine AY rfl ?_;refine AV 3 ?_;refine Ak 11 ?_ ?_
 ·intro h1;try simp only[D6] at h1
  refine AL 9 ?_;refine AU rfl ?_;refine AP 1 ?_;refine GC.ret (AQ 4 [0] [] ?_)
  exact⟨rfl,rfl,rfl⟩
 intro h1;try simp only[D6] at h1
 refine AA 4 ?_;refine Aj 0 ?_;refine AL 4 ?_;refine Af ?_ ?_
 ·intro h2;try simp only[D6] at h2
  refine AP 1 ?_;refine GC.ret (AQ 4 [0] [] ?_)
  exact⟨rfl,rfl,rfl⟩
 intro h2;try simp only[D6] at h2
 exfalso;omega
end
end Go.Proofs.YtliacpkblicnhaaGreat
namespace Go.Sx
open Go
abbrev oldB(W:World):Blocks:=λk=>k<W.heap.size
def Opens(P:Program)(t:TypeId){α:Type}(d:Kd α)(B:α->Prop):Prop :=
 ∀(H:Type) (enc:TypeId×Value->H) (W:World) (fuel:Nat) (cs:List Value) (x:DataW H×List MemPlace),
  DataW.trod enc P W 0 (λ_=>true) true fuel t cs=some x->(∀n∈x.1.weights P t,n<=reachBytes) ->
   ∃a y,B a/\d.ok a y/\cs=d.cells a y/\∀q∈d.pers a y,q.h W (oldB W)
def E5(P:Program)(fs:List Field)(o:Nat){α:Type}(d:Kd α)(B:α->Prop):Prop :=
 ∀(H:Type) (enc:TypeId×Value->H) (W:World) (n:Nat) (cs:List Value) (xs:List (DataW H×List MemPlace)),
  (∀(i:Nat) (f:Field),fs[i]?=some f->DataW.trod enc P W 0 (λ_=>true) true n f.type ((cs.drop f.offset).take (P.cellsOf f.type))=xs[i]?)->xs.length=fs.length ->
  (∀k∈DataW.weightsEach P (fs.map (·.type)) (xs.map (·.1)),k<=reachBytes)->o+d.sz<=cs.length ->
   ∃a y,B a/\d.ok a y/\(cs.drop o).take d.sz=d.cells a y/\∀q∈d.pers a y,q.h W (oldB W)
theorem Opens.int{P:Program}{t:TypeId}{k:IntKind}(ht:P.underlying t=some (.int k)):Opens P t (Kd.int k) (λn=>(Lit.int k n).wf=true):=by
 intro H enc W fuel cs x h hw
 obtain⟨n,h1,_,h3⟩:=DataW.trod_int ht h
 exact⟨n,(),h3,trivial,h1,by intro q hq;cases hq⟩
theorem Opens.bool{P:Program}{t:TypeId}(ht:P.underlying t=some .bool):Opens P t Kd.bool (λ_=>True):=by
 intro H enc W fuel cs x h hw
 obtain⟨n,h1,_⟩:=DataW.trod_bool ht h
 exact⟨n,(),trivial,trivial,h1,by intro q hq;cases hq⟩
theorem u8_of{n:Int}(h:(Lit.int .u8 n).wf=true):∃b:UInt8,n=(b.toNat:Int):=by
 have h2:0<=n/\n<=255:=by
  simp[Lit.wf,IntKind.min,IntKind.max,IntKind.signed,IntKind.bits] at h
  exact h
 refine⟨UInt8.ofNat n.toNat,?_⟩
 simp
 omega
theorem Opens.u8{P:Program}{t:TypeId}(ht:P.underlying t=some (.int .u8)):Opens P t Kd.u8 (λ_=>True):=by
 intro H enc W fuel cs x h hw
 obtain⟨n,h1,_,h3⟩:=DataW.trod_int ht h
 obtain⟨b,rfl⟩:=u8_of h3
 exact⟨b,(),trivial,trivial,h1,by intro q hq;cases hq⟩
theorem E5.one{P:Program}{f:Field}{α:Type}{d:Kd α}{B:α->Prop}(h:Opens P f.type d B)(hs:P.cellsOf f.type=d.sz):E5 P [f] f.offset d B:=by
 intro H enc W n cs xs hx hl hw ho
 match xs,hl with
 |[x],_ =>
  have h0:=hx 0 f rfl
  obtain⟨a,y,h1,h2,h3,h4⟩:=h H enc W n _ x h0 (λk hk=>hw k (by simp[DataW.weightsEach];exact hk))
  exact⟨a,y,h1,h2,by rw[<-hs];exact h3,h4⟩
theorem E5.cons{P:Program}{f:Field}{fs:List Field}{α β:Type}{d:Kd α}{e:Kd β}{B:α->Prop}{C:β->Prop}{o:Nat}(h:Opens P f.type d B)(hs:P.cellsOf f.type=d.sz)(ho:f.offset+d.sz=o)(hr:E5 P fs o e C) :
  E5 P (f::fs) f.offset (BU d e) (λx=>B x.1/\C x.2):=by
 intro H enc W n cs xs hx hl hw hle
 match xs,hl with
 |x::xs,hl =>
  have h0:=hx 0 f rfl
  have hle':f.offset+(d.sz+e.sz)<=cs.length:=hle
  obtain⟨a,y,h1,h2,h3,h4⟩:=h H enc W n _ x h0 (λk hk=>hw k (by simp only[List.map_cons,DataW.weightsEach,List.mem_append];exact .inl hk))
  obtain⟨b,z,g1,g2,g3,g4⟩:=hr H enc W n cs xs (λi g hg=>hx (i+1) g hg) (by simpa using hl) (λk hk=>hw k (by simp only[List.map_cons,DataW.weightsEach,List.mem_append];exact .inr hk)) (by omega)
  refine⟨(a,b),(y,z),⟨h1,g1⟩,⟨h2,g2⟩,?_,λq hq=>?_⟩
  ·show(cs.drop f.offset).take (d.sz+e.sz)=d.cells a y++e.cells b z
   rw[<-h3,<-g3,hs,<-ho,List.take_add,List.drop_drop]
  ·rcases List.mem_append.1 hq with hq|hq
   ·exact h4 q hq
   ·exact g4 q hq
theorem Opens.struct{P:Program}{t:TypeId}{fs:Array Field}{α β:Type}{d:Kd α}{B:α->Prop}(ht:P.underlying t=some (.struct fs))(h:E5 P fs.toList 0 d B)(hs:P.cellsOf t=d.sz)(f:β->α)(g:α->β)(hfg:∀a,f (g a)=a) :
  Opens P t (Cj d f) (λb=>B (f b)):=by
 intro H enc W fuel cs x hx hw
 obtain⟨xs,n,rfl,rfl,hl,hlen,hf⟩:=DataW.trod_struct ht hx
 obtain⟨a,y,h1,h2,h3,h4⟩:=h H enc W n cs xs (λi f hi=>hf i f (by simpa using hi)) (by simpa using hlen) (by simpa[DataW.weights,ht] using hw) (by omega)
 refine⟨g a,y,?_,?_,?_,?_⟩
 ·show B (f (g a))
  rw[hfg];exact h1
 ·show d.ok (f (g a)) y
  rw[hfg];exact h2
 ·show cs=d.cells (f (g a)) y
  rw[hfg,<-h3,List.drop_zero,List.take_of_length_le (by omega)]
 ·show ∀q∈d.pers (f (g a)) y,_
  rw[hfg];exact h4
theorem UO{α:Type}{p:Nat->α->Prop}:∀(n:Nat),(∀i,i<n->∃a,p i a)->∃l:List α,l.length=n/\∀i a,l[i]?=some a->p i a
 |0,_=>⟨[],rfl,by simp⟩
 |n+1,h=>by
  obtain⟨l,hl,hp⟩:=UO n (λi hi=>h i (by omega))
  obtain⟨a,ha⟩:=h n (by omega)
  refine⟨l++[a],by simp[hl],λi b hb=>?_⟩
  by_cases hi:i<n
  ·rw[List.getElem?_append_left (by omega)] at hb
   exact hp i b hb
  ·have hi2:i<(l++[a]).length:=(List.getElem?_eq_some_iff.1 hb).1
   simp[hl] at hi2
   obtain rfl:i=n:=by omega
   rw[List.getElem?_append_right (by omega)] at hb
   simp[hl] at hb
   subst hb;exact ha
theorem O6{H:Type}{P:Program}{e:TypeId}:∀{l:List (DataW H)} {d:DataW H},d∈l->∀n∈d.weights P e,n∈DataW.weightsAll P e l
 |d0::r,d,hd,n,hn=>by
  simp only[DataW.weightsAll,List.mem_append]
  rcases List.mem_cons.1 hd with rfl|hd
  ·exact .inl hn
  ·exact .inr (O6 hd n hn)
theorem Opens.slice{P:Program}{t e:TypeId}{α:Type}{d:Kd α}{B:α->Prop}(ht:P.underlying t=some (.slice e))(h:Opens P e d B)(hs:P.cellsOf e=d.sz)(hpos:0<d.sz){N:Nat}(hN:P.bytesOf e=N) :
  Opens P t (Kd.slice d) (λxs=>xs.length * N<=140737488351232/\∀x∈xs,B x):=by
 intro H enc W fuel cs x hx hw
 rcases DataW.trod_slice ht hx with⟨rfl,rfl⟩|⟨a,len,cap,elems,rest,n,rfl,rfl,rfl,hb,hl,hm,hlen,hel,hsp,_⟩
 ·exact⟨[],(none,0),⟨by simp,by simp⟩,⟨by simp,by simp⟩,rfl,λq hq=>by rw[List.mem_singleton.1 hq];exact .inl rfl⟩
 ·have hwe:∀d∈elems.map (·.1),∀n∈d.weights P e,n<=reachBytes:=λd hd n hn=>hw n (by
   simp only[DataW.weights,ht,List.mem_cons,List.mem_append]
   exact .inr (.inl (O6 hd n hn)))
  have hsz:(elems.length+rest.length) * N<=reachBytes:=hw _ (by simp only[DataW.weights,ht,List.mem_cons,List.length_map,hN];exact .inl trivial)
  have each:∀i,i<len->∃u:α,B u/\∃y,d.ok u y/\W.cells? 0 (a.add (i * P.cellsOf e)) (P.cellsOf e)=some (d.cells u y)/\∀q∈d.pers u y,q.h W (oldB W):=by
   intro i hi
   have h1:=hel i hi
   obtain⟨x,hx⟩:∃x,elems[i]?=some x:=⟨elems[i]'(by omega),List.getElem?_eq_getElem (by omega)⟩
   rw[hx,Option.bind_eq_some_iff] at h1
   obtain⟨cs,hcs,hr⟩:=h1
   obtain⟨u,y,k1,k2,rfl,k4⟩:=h H enc W n cs x hr (hwe _ (List.mem_map.2 ⟨x,List.mem_of_getElem? hx,rfl⟩))
   exact⟨u,k1,y,k2,hcs,k4⟩
  obtain⟨xs,hxl,hxs⟩:=UO len each
  refine⟨xs,(some a,cap),⟨?_,λx hx=>?_⟩,⟨by rw[hxl];exact hl,hm⟩,by rw[<-hxl];rfl,λq hq=>?_⟩
  ·refine Nat.le_trans (Nat.mul_le_mul_right _ ?_) hsz
   omega
  ·obtain⟨i,hi⟩:=List.getElem?_of_mem hx
   exact(hxs i x hi).1
  ·rw[List.mem_singleton.1 hq]
   match xs,hxl,hxs with
   |[],_,_=>exact .inl rfl
   |x0::r,hxl,hxs =>
    right
    have hlt:a.block<W.heap.size:=by
     obtain⟨_,y,_,hc,_⟩:=hxs 0 x0 rfl
     have:=World.cells?_block hc (by omega)
     rwa [add_block] at this
    refine⟨a,rfl,hlt,hlt,λi x hi=>?_⟩
    obtain⟨_,y,hok,hc,hp⟩:=hxs i x hi
    refine⟨d.cells x y,⟨y,hok,rfl,hp⟩,λj u hj=>?_⟩
    obtain⟨_,hlc,hcell⟩:=World.cells?_some hc
    have hj2:j<P.cellsOf e:=by
     have:=(List.getElem?_eq_some_iff.1 hj).1
     rw[d.len] at this
     omega
    rw[<-hs,hcell j hj2,hj]
theorem Opens.arg{P:Program}{t:TypeId}{α:Type}{d:Kd α}{B:α->Prop}(ho:Opens P t d B){H:Type}{enc:TypeId×Value->H}{W:World}{v:Value}{x:DataW H}{p:List MemPlace}(h:DataW.Trod enc P W 0 (λ_=>true) true t v x p)
  {ts:List TypeId} {ds:List (DataW H)} (hsz:(DataW.weightsEach P ts ds).all (·<=reachBytes)=true) (j:Nat) (h1:ts[j]?=some t) (h2:ds[j]?=some x) :
  (∃a y,B a/\d.ok a y/\v.cells.toList=d.cells a y/\∀q∈d.pers a y,q.h W (oldB W))/\∀x∈p,x.block<W.heap.size:=by
 obtain⟨fuel,hf⟩:=h
 refine⟨ho H enc W fuel _ _ hf (λn hn=>?_),DataW.trod_lt _ _ _ _ hf⟩
 have:=List.all_eq_true.1 hsz _ (DataW.weights_mem_each h1 h2 n hn)
 simpa using this
theorem cells_slice{v:Value}{a:Option Addr}{l c:Nat}(hv:∃a l c,v=.slice a l c)(h:v.cells.toList=[.slice a l c]):v=.slice a l c:=by
 obtain⟨_,_,_,rfl⟩:=hv
 simpa[Value.cells] using h
theorem Ct.law{P:Program}{f:FuncId}{args:List Value}{Q:List D7}(h:Ct P f args [] Q (λv G Q=>v=.bool true/\G=[]/\Q=[]))(W:World)(hq:∀q∈Q,q.h W (oldB W)) :
  Calls P f args.toArray W λe W'=>e=.returned (.bool true)/\RowKit.Below W.heap.size W W':=by
 refine(h W (oldB W) ⟨by simp,by simp[keysOf],by simp[keysOf],hq⟩).mono λe W' ⟨v,G',Q',S',he,⟨hv,_,_⟩,_,hfr,_⟩=>?_
 subst hv
 exact⟨he,hfr.below⟩
end Go.Sx
namespace Go.Proofs.YtliacpkblicnhaaGreat
open Go Go.Sx Go.Proofs
def okRes(r:J4):Prop:=((Lit.int .u8 r.code).wf=true)/\((r.data.length * 1<=140737488351232/\∀y∈r.data,True))
theorem Z_:Opens Tryz.prog 52 kRes okRes:=Opens.struct Tryz.underlying52 (E5.cons (Opens.int Tryz.underlying50) (by kernel_rfl) rfl (E5.one (Opens.slice Tryz.underlying47 (Opens.u8 Tryz.underlying5) (by kernel_rfl) (by decide) (by kernel_rfl:Program.bytesOf Tryz.prog 5=1)) (by kernel_rfl))) (by kernel_rfl) (λr:J4=>(r.code,r.data)) (λp=>(⟨p.1,p.2⟩:J4)) (λ_=>rfl)
structure Shp where
 bl:Int
 sz:Int
 deriving Inhabited,DecidableEq
def kShp:Kd Shp:=Cj (BU (Kd.int .i64) (Kd.int .i64)) (λr=>(r.bl,r.sz))
def okShp(r:Shp):Prop:=((Lit.int .i64 r.bl).wf=true)/\((Lit.int .i64 r.sz).wf=true)
theorem opensShp:Opens Tryz.prog 57 kShp okShp:=Opens.struct Tryz.underlying57 (E5.cons (Opens.int Tryz.underlying3) (by kernel_rfl) rfl (E5.one (Opens.int Tryz.underlying3) (by kernel_rfl))) (by kernel_rfl) (λr:Shp=>(r.bl,r.sz)) (λp=>(⟨p.1,p.2⟩:Shp)) (λ_=>rfl)
structure LM where
 kind:Int
 at_:Int
 n:Int
 data:List UInt8
 old:List UInt8
 deriving Inhabited,DecidableEq
def kOpD:Kd LM:=Cj (BU (Kd.int .u8) (BU (Kd.int .i64) (BU (Kd.int .i64) (BU Fz (Fz))))) (λr=>(r.kind,r.at_,r.n,r.data,r.old))
def okOpD(r:LM):Prop:=((Lit.int .u8 r.kind).wf=true)/\((Lit.int .i64 r.at_).wf=true)/\((Lit.int .i64 r.n).wf=true)/\((r.data.length * 1<=140737488351232/\∀y∈r.data,True))/\((r.old.length * 1<=140737488351232/\∀y∈r.old,True))
theorem aA:Opens Tryz.prog 49 kOpD okOpD:=Opens.struct Tryz.underlying49 (E5.cons (Opens.int Tryz.underlying46) (by kernel_rfl) rfl (E5.cons (Opens.int Tryz.underlying3) (by kernel_rfl) rfl (E5.cons (Opens.int Tryz.underlying3) (by kernel_rfl) rfl (E5.cons (Opens.slice Tryz.underlying47 (Opens.u8 Tryz.underlying5) (by kernel_rfl) (by decide) (by kernel_rfl:Program.bytesOf Tryz.prog 5=1)) (by kernel_rfl) rfl (E5.one (Opens.slice Tryz.underlying47 (Opens.u8 Tryz.underlying5) (by kernel_rfl) (by decide) (by kernel_rfl:Program.bytesOf Tryz.prog 5=1)) (by kernel_rfl)))))) (by kernel_rfl) (λr:LM=>(r.kind,r.at_,r.n,r.data,r.old)) (λp=>(⟨p.1,p.2.1,p.2.2.1,p.2.2.2.1,p.2.2.2.2⟩:LM)) (λ_=>rfl)
structure F5 where
 at_:Int
 ver:Int
 data:List UInt8
 deriving Inhabited,DecidableEq
def GR:Kd F5:=Cj (BU (Kd.int .i64) (BU (Kd.int .i64) (Fz))) (λr=>(r.at_,r.ver,r.data))
def okPage(r:F5):Prop:=((Lit.int .i64 r.at_).wf=true)/\((Lit.int .i64 r.ver).wf=true)/\((r.data.length * 1<=140737488351232/\∀y∈r.data,True))
theorem qJ:Opens Tryz.prog 164 GR okPage:=Opens.struct Tryz.underlying164 (E5.cons (Opens.int Tryz.underlying3) (by kernel_rfl) rfl (E5.cons (Opens.int Tryz.underlying3) (by kernel_rfl) rfl (E5.one (Opens.slice Tryz.underlying47 (Opens.u8 Tryz.underlying5) (by kernel_rfl) (by decide) (by kernel_rfl:Program.bytesOf Tryz.prog 5=1)) (by kernel_rfl)))) (by kernel_rfl) (λr:F5=>(r.at_,r.ver,r.data)) (λp=>(⟨p.1,p.2.1,p.2.2⟩:F5)) (λ_=>rfl)
def rz:J4:=⟨0,[]⟩
def G5(bl sz:Int):Prop:=1<=bl/\bl<=4096/\1<=sz/\sz<=4096
instance (bl sz:Int):Decidable (G5 bl sz):=by unfold G5;infer_instance
def Nz(bl sz:Int):Int:=if G5 bl sz then 0 else 40
def PD(kind a n:Int)(dl ol:Nat):Prop:=(kind=4/\a=0/\n=0/\dl=0/\ol=0)\/((kind=1\/kind=3)/\dl=0/\ol=0)\/(kind=2/\ol=0)\/(kind=5/\n=0)
instance (kind a n:Int)(dl ol:Nat):Decidable (PD kind a n dl ol):=by unfold PD;infer_instance
def SE(kind a n:Int)(dl ol:Nat):Prop:=0<=a/\a<=2147483647/\0<=n/\n<=2147483647/\dl<=262144/\ol<=4096/\PD kind a n dl ol
instance (kind a n:Int)(dl ol:Nat):Decidable (SE kind a n dl ol):=by unfold SE;infer_instance
def SG(kind a n:Int)(dl ol:Nat):Int:=if SE kind a n dl ol then 0 else 41
abbrev Ua(bl sz:Int):Value:=.agg #[.int .i64 bl,.int .i64 sz]
abbrev opV(kind a n:Int)(A:Option Addr)(dl cp:Nat)(B:Option Addr)(ol cq:Nat):Value:=.agg #[.int .u8 kind,.int .i64 a,.int .i64 n,.slice A dl cp,.slice B ol cq]
theorem XI{X:Prop}(h:X:=by(refine⟨congrArg (Value.int .i64) ?_,rfl,rfl⟩;unfold Nz;first|rw[if_pos (by unfold G5;omega)]|rw[if_neg (by unfold G5;omega)])):X:=h
theorem shape_ct(bl sz:Int):Ct Tryz.prog 211 [Ua bl sz] [] [] (λv G Q=>v=.int .i64 (Nz bl sz)/\G=[]/\Q=[]):=by
 refine Ct.intro Tryz.func211 rfl rfl rfl (λc hc=>?_)
 refine AX ?_;refine GL.step rfl (Ee rfl rfl rfl) (Aa λIJ=>?_);refine AL 1 ?_;refine AB ?_;refine AV 1 ?_;refine Ad 0 ?_;refine AA 2 ?_;refine Ak 6 ?_ ?_
 ·intro h1;try simp only[D6] at h1
  refine AL 14 ?_;refine AU rfl ?_;refine AP 1 ?_;refine GC.ret (AQ 2 [] [] ?_)
  exact XI
 intro h1;try simp only[D6] at h1
 refine AA 1 ?_;refine Aj 0 ?_;refine AA 3 ?_;refine Ak 11 ?_ ?_
 ·intro h2;try simp only[D6] at h2
  refine AL 9 ?_;refine AU rfl ?_;refine AP 1 ?_;refine GC.ret (AQ 2 [] [] ?_)
  exact XI
 intro h2;try simp only[D6] at h2
 refine AA 1 ?_;refine Aj 0 ?_;refine AA 3 ?_;refine Ak 16 ?_ ?_
 ·intro h3;try simp only[D6] at h3
  refine AL 4 ?_;refine AU rfl ?_;refine AP 1 ?_;refine GC.ret (AQ 2 [] [] ?_)
  exact XI
 intro h3;try simp only[D6] at h3
 refine AA 1 ?_;refine Aj 0 ?_;refine AL 2 ?_;refine Af ?_ ?_
 ·intro h4;try simp only[D6] at h4
  refine AP 1 ?_;refine GC.ret (AQ 2 [] [] ?_)
  exact XI
 intro h4;try simp only[D6] at h4
 refine GC.skip (?_:GC _ _ _ _)
 refine AP 1 ?_;refine GC.ret (AQ 2 [] [] ?_)
 exact XI
theorem oq(bl sz:Int):Ct Tryz.prog 173 [Ua bl sz] [] [] (λv G Q=>v=.int .i64 (Nz bl sz)/\G=[]/\Q=[]):=by
 refine Ct.intro Tryz.func173 rfl rfl rfl (λc hc=>?_)
 refine AX ?_;refine GL.step rfl (Ee rfl rfl rfl) (Aa λIJ=>?_);refine AL 1 ?_;refine AB ?_;refine AV 1 ?_;refine Ad 0 ?_;refine AA 2 ?_;refine Ak 6 ?_ ?_
 ·intro h1;try simp only[D6] at h1
  refine AL 14 ?_;refine AU rfl ?_;refine AP 1 ?_;refine GC.ret (AQ 2 [] [] ?_)
  exact XI
 intro h1;try simp only[D6] at h1
 refine AA 1 ?_;refine Aj 0 ?_;refine AA 3 ?_;refine Ak 11 ?_ ?_
 ·intro h2;try simp only[D6] at h2
  refine AL 9 ?_;refine AU rfl ?_;refine AP 1 ?_;refine GC.ret (AQ 2 [] [] ?_)
  exact XI
 intro h2;try simp only[D6] at h2
 refine AA 1 ?_;refine Aj 0 ?_;refine AA 3 ?_;refine Ak 16 ?_ ?_
 ·intro h3;try simp only[D6] at h3
  refine AL 4 ?_;refine AU rfl ?_;refine AP 1 ?_;refine GC.ret (AQ 2 [] [] ?_)
  exact XI
 intro h3;try simp only[D6] at h3
 refine AA 1 ?_;refine Aj 0 ?_;refine AL 2 ?_;refine Af ?_ ?_
 ·intro h4;try simp only[D6] at h4
  refine AP 1 ?_;refine GC.ret (AQ 2 [] [] ?_)
  exact XI
 intro h4;try simp only[D6] at h4
 refine GC.skip (?_:GC _ _ _ _)
 refine AP 1 ?_;refine GC.ret (AQ 2 [] [] ?_)
 exact XI
theorem VD{X:Prop}(h:X:=by(refine⟨congrArg Value.bool ?_,rfl,rfl⟩;first|exact decide_eq_decide.2 (by unfold PD;omega)|exact(decide_eq_true (by unfold PD;omega)).symm|exact(decide_eq_false (by unfold PD;omega)).symm)):X:=h
theorem bare_ct(kind a_ n:Int)(A:Option Addr)(dl cp:Nat)(B:Option Addr)(ol cq:Nat):Ct Tryz.prog 143 [opV kind a_ n A dl cp B ol cq] [] [] (λv G Q=>v=.bool (decide (PD kind a_ n dl ol))/\G=[]/\Q=[]):=by
 refine Ct.intro Tryz.func143 rfl rfl rfl (λc hc=>?_)
 refine AX ?_;refine GL.step rfl (Ee rfl rfl rfl) (Aa λIJ=>?_);refine AL 1 ?_;refine AB ?_;refine BP Ef (by kernel_rfl) ?_;refine Am 1 ?_;refine GQ.step rfl (Ea (EF (i:=0) rfl rfl G_ rfl)) ?_
 refine Am 3 ?_;refine GQ.step rfl (Ea (EF (i:=0) rfl rfl G_ rfl)) ?_;refine Am 4 ?_
 refine BO (?_:GC _ _ _ _)
 refine AB ?_;refine AV 1 ?_;refine Ad 0 ?_;refine Ap ?_;refine GC.block ?_;refine AB ?_;refine GC.block ?_;refine AB ?_;refine GC.block ?_;refine AB ?_
 iterate 2 refine GC.block ?_
 refine AB ?_;refine GC.block ?_
 iterate 2 refine AB ?_
 refine AP 2 ?_;refine Af ?_ ?_
 ·intro h1;try simp only[D6] at h1
  refine GC.exit (?_:GC _ _ _ _)
  refine AV 1 ?_;refine Ad 0 ?_;refine AA 2 ?_;refine Ak 28 ?_ ?_
  ·intro h2;try simp only[D6] at h2
   refine AL 4 ?_;refine AU rfl ?_;refine AP 1 ?_;refine GC.ret (AQ 2 [] [] ?_)
   exact VD
  intro h2;try simp only[D6] at h2
  refine AA 1 ?_;refine Aj 0 ?_;refine AL 2 ?_;refine Af ?_ ?_
  ·intro h3;try simp only[D6] at h3
   refine AP 1 ?_;refine GC.ret (AQ 2 [] [] ?_)
   exact VD
  intro h3;try simp only[D6] at h3
  refine GC.skip (?_:GC _ _ _ _)
  refine AB ?_;refine AV 2 ?_;refine Ak 34 ?_ ?_
  ·intro h4;try simp only[D6] at h4
   refine AL 3 ?_;refine GC.ret (AQ 2 [] [] ?_)
   exact VD
  intro h4;try simp only[D6] at h4
  refine AL 3 ?_;refine GC.ret (AQ 2 [] [] ?_)
  exact VD
 intro h1;try simp only[D6] at h1
 refine GC.skip (?_:GC _ _ _ _)
 refine AB ?_;refine AP 2 ?_;refine Af ?_ ?_
 ·intro h5;try simp only[D6] at h5
  refine GC.exit (?_:GC _ _ _ _)
  refine AB ?_;refine AV 2 ?_;refine Ak 34 ?_ ?_
  ·intro h6;try simp only[D6] at h6
   refine AL 3 ?_;refine GC.ret (AQ 2 [] [] ?_)
   exact VD
  intro h6;try simp only[D6] at h6
  refine AL 3 ?_;refine GC.ret (AQ 2 [] [] ?_)
  exact VD
 intro h5;try simp only[D6] at h5
 refine GC.skip (?_:GC _ _ _ _)
 refine AB ?_;refine AP 2 ?_;refine Af ?_ ?_
 ·intro h7;try simp only[D6] at h7
  refine GC.exit (?_:GC _ _ _ _)
  refine AB ?_;refine AV 2 ?_;refine Ak 34 ?_ ?_
  ·intro h8;try simp only[D6] at h8
   refine AL 3 ?_;refine GC.ret (AQ 2 [] [] ?_)
   exact VD
  intro h8;try simp only[D6] at h8
  refine AL 3 ?_;refine GC.ret (AQ 2 [] [] ?_)
  exact VD
 intro h7;try simp only[D6] at h7
 refine GC.skip (?_:GC _ _ _ _)
 refine AB ?_;refine AP 2 ?_;refine Af ?_ ?_
 ·intro h9;try simp only[D6] at h9
  refine GC.exit (?_:GC _ _ _ _)
  refine AB ?_;refine AP 2 ?_;refine GC.ret (AQ 2 [] [] ?_)
  exact VD
 intro h9;try simp only[D6] at h9
 refine GC.skip (?_:GC _ _ _ _)
 refine AP 2 ?_;refine Af ?_ ?_
 ·intro h10;try simp only[D6] at h10
  refine GC.exit (?_:GC _ _ _ _)
  refine AB ?_;refine AV 1 ?_;refine Ad 0 ?_;refine AL 2 ?_;refine GC.ret (AQ 2 [] [] ?_)
  exact VD
 intro h10;try simp only[D6] at h10
 refine GC.skip (?_:GC _ _ _ _)
 refine GC.exit (?_:GC _ _ _ _)
 refine AP 1 ?_;refine GC.ret (AQ 2 [] [] ?_)
 exact VD
theorem oK{X:Prop}(h:X:=by(refine⟨congrArg (Value.int .i64) ?_,rfl,rfl⟩;unfold SG;first|rw[if_pos (by simp only[SE,PD] at *;omega)]|rw[if_neg (by simp only[SE,PD] at *;omega)])):X:=h
theorem Oq(kind a_ n:Int)(A:Option Addr)(dl cp:Nat)(B:Option Addr)(ol cq:Nat):Ct Tryz.prog 87 [opV kind a_ n A dl cp B ol cq] [] [] (λv G Q=>v=.int .i64 (SG kind a_ n dl ol)/\G=[]/\Q=[]):=by
 refine Ct.intro Tryz.func87 rfl rfl rfl (λc hc=>?_)
 refine AX ?_;refine GL.step rfl (Ee rfl rfl rfl) (Aa λIJ=>?_);refine AL 1 ?_;refine AB ?_;refine AV 1 ?_;refine Ad 0 ?_;refine AA 1 ?_;refine Ad 0 ?_;refine AO rfl (p_min2 rfl rfl) ?_
 refine AA 2 ?_;refine Ak 9 ?_ ?_
 ·intro h1;try simp only[D6] at h1
  refine AL 24 ?_;refine AU rfl ?_;refine AP 1 ?_;refine GC.ret (AQ 2 [] [] ?_)
  exact oK
 intro h1;try simp only[D6] at h1
 refine AA 1 ?_;refine Aj 0 ?_;refine AA 1 ?_;refine Aj 0 ?_;refine Ba (s:=9) rfl rfl rfl (p_max2 rfl rfl) ?_;refine AA 3 ?_;refine Ak 17 ?_ ?_
 ·intro h2;try simp only[D6] at h2
  refine AL 16 ?_;refine AU rfl ?_;refine AP 1 ?_;refine GC.ret (AQ 2 [] [] ?_)
  exact oK
 intro h2;try simp only[D6] at h2
 refine AA 1 ?_;refine Aj 0 ?_;refine AA 4 ?_;refine Ak 23 ?_ ?_
 ·intro h3;try simp only[D6] at h3
  refine AL 10 ?_;refine AU rfl ?_;refine AP 1 ?_;refine GC.ret (AQ 2 [] [] ?_)
  exact oK
 intro h3;try simp only[D6] at h3
 refine AA 1 ?_;refine Aj 0 ?_;refine AA 4 ?_;refine Ak 29 ?_ ?_
 ·intro h4;try simp only[D6] at h4
  refine AL 4 ?_;refine AU rfl ?_;refine AP 1 ?_;refine GC.ret (AQ 2 [] [] ?_)
  exact oK
 intro h4;try simp only[D6] at h4
 refine BX 0 5 ?_;refine Au rfl (s:=29) rfl rfl (EI rfl Tryz.call143 rfl (is:=[]) (js:=[]) rfl rfl (by exact bare_ct _ _ _ _ _ _ _ _ _)) (GL.ret ?_)
 rintro _ _ _ ⟨rfl,rfl,rfl⟩
 refine AL 2 ?_;refine Af ?_ ?_
 ·intro h5;try simp only[D6] at h5
  refine AP 1 ?_;refine GC.ret (AQ 2 [] [] ?_)
  exact oK
 intro h5;try simp only[D6] at h5
 refine GC.skip (?_:GC _ _ _ _)
 refine AP 1 ?_;refine GC.ret (AQ 2 [] [] ?_)
 exact oK
theorem Kq{X:Prop}(h:X:=by(refine⟨congrArg (Value.int .i64) ?_,rfl,rfl⟩;first|(exfalso;omega)|(unfold SG;first|rw[if_pos (by simp only[SE,PD] at *;omega)]|rw[if_neg (by simp only[SE,PD] at *;omega)]))):X:=h
theorem SC(kind a_ n:Int)(A:Option Addr)(dl cp:Nat)(B:Option Addr)(ol cq:Nat)(hdl:dl<=140737488355328)(hol:ol<=140737488355328):Ct Tryz.prog 118 [opV kind a_ n A dl cp B ol cq] [] [] (λv G Q=>v=.int .i64 (SG kind a_ n dl ol)/\G=[]/\Q=[]):=by
 refine Ct.intro Tryz.func118 rfl rfl rfl (λc hc=>?_)
 refine AX ?_;refine GL.step rfl (Ee rfl rfl rfl) (Aa λIJ=>?_);refine AL 1 ?_;refine AB ?_;refine AV 1 ?_;refine Ad 0 ?_;refine AA 2 ?_;refine Ak 7 ?_ ?_
 ·intro h1;try simp only[D6] at h1
  refine AL 26 ?_;refine AU rfl ?_;refine AP 1 ?_;refine GC.ret (AQ 2 [] [] ?_)
  exact Kq
 intro h1;try simp only[D6] at h1
 refine AA 1 ?_;refine Aj 0 ?_;refine AA 3 ?_;refine Ak 12 ?_ ?_
 ·intro h2;try simp only[D6] at h2
  refine AL 21 ?_;refine AU rfl ?_;refine AP 1 ?_;refine GC.ret (AQ 2 [] [] ?_)
  exact Kq
 intro h2;try simp only[D6] at h2
 refine AA 1 ?_;refine Aj 0 ?_;refine AA 3 ?_;refine Ak 17 ?_ ?_
 ·intro h3;try simp only[D6] at h3
  refine AL 16 ?_;refine AU rfl ?_;refine AP 1 ?_;refine GC.ret (AQ 2 [] [] ?_)
  exact Kq
 intro h3;try simp only[D6] at h3
 refine AA 1 ?_;refine Aj 0 ?_;refine AA 3 ?_;refine Ak 22 ?_ ?_
 ·intro h4;try simp only[D6] at h4
  refine AL 11 ?_;refine AU rfl ?_;refine AP 1 ?_;refine GC.ret (AQ 2 [] [] ?_)
  exact Kq
 intro h4;try simp only[D6] at h4
 refine AA 1 ?_;refine Aj 0 ?_;refine AA 4 ?_;refine Ak 28 ?_ ?_
 ·intro h5;try simp only[D6] at h5
  refine AL 5 ?_;refine AU rfl ?_;refine AP 1 ?_;refine GC.ret (AQ 2 [] [] ?_)
  exact Kq
 intro h5;try simp only[D6] at h5
 refine AA 1 ?_;refine Aj 0 ?_;refine AL 3 ?_;refine Af ?_ ?_
 ·intro h6;try simp only[D6] at h6
  refine AP 1 ?_;refine GC.ret (AQ 2 [] [] ?_)
  exact Kq
 intro h6;try simp only[D6] at h6
 refine GC.skip (?_:GC _ _ _ _)
 refine AP 1 ?_;refine AB ?_;refine AV 1 ?_;refine Ad 0 ?_;refine Ap ?_;refine GC.block ?_;refine AB ?_;refine AP 2 ?_;refine Af ?_ ?_
 ·intro h7;try simp only[D6] at h7
  refine GC.skip (?_:GC _ _ _ _)
  refine Af ?_ ?_
  ·intro h8;try simp only[D6] at h8
   refine GC.region ?_;refine AA 1 ?_;refine Ad 0 ?_;refine AA 2 ?_;refine Ad 0 ?_;refine AA 1 ?_;refine AO rfl (EU rfl rfl (Fh (by omega) (by omega))) ?_;refine AA 2 ?_
   refine Ac (?_:GC _ _ _ _)
   refine AB ?_;refine AP 2 ?_;refine Af ?_ ?_
   ·intro h9;try simp only[D6] at h9
    refine AP 1 ?_;refine GC.ret (AQ 2 [] [] ?_)
    exact Kq
   intro h9;try simp only[D6] at h9
   refine GC.skip (?_:GC _ _ _ _)
   refine AP 1 ?_;refine GC.ret (AQ 2 [] [] ?_)
   exact Kq
  intro h8;try simp only[D6] at h8
  refine AP 2 ?_;refine Af ?_ ?_
  ·intro h10;try simp only[D6] at h10
   refine GC.region ?_;refine AA 1 ?_;refine Ad 0 ?_;refine AA 3 ?_
   refine Ac (?_:GC _ _ _ _)
   refine AB ?_;refine AP 2 ?_;refine Af ?_ ?_
   ·intro h11;try simp only[D6] at h11
    refine AP 1 ?_;refine GC.ret (AQ 2 [] [] ?_)
    exact Kq
   intro h11;try simp only[D6] at h11
   refine GC.skip (?_:GC _ _ _ _)
   refine AP 1 ?_;refine GC.ret (AQ 2 [] [] ?_)
   exact Kq
  intro h10;try simp only[D6] at h10
  refine AP 2 ?_;refine Af ?_ ?_
  ·intro h12;try simp only[D6] at h12
   refine GC.region ?_;refine AA 1 ?_;refine Ad 0 ?_;refine AA 2 ?_
   refine Ac (?_:GC _ _ _ _)
   refine AB ?_;refine AP 2 ?_;refine Af ?_ ?_
   ·intro h13;try simp only[D6] at h13
    refine AP 1 ?_;refine GC.ret (AQ 2 [] [] ?_)
    exact Kq
   intro h13;try simp only[D6] at h13
   refine GC.skip (?_:GC _ _ _ _)
   refine AP 1 ?_;refine GC.ret (AQ 2 [] [] ?_)
   exact Kq
  intro h12;try simp only[D6] at h12
  refine AP 2 ?_;refine Af ?_ ?_
  ·intro Nb;try simp only[D6] at Nb
   refine GC.region ?_;refine AA 1 ?_;refine Ad 0 ?_;refine AA 2 ?_;refine Ak 63 ?_ ?_
   ·intro h15;try simp only[D6] at h15
    refine AA 1 ?_;refine Aj 0 ?_;refine AA 3 ?_;refine Ak 68 ?_ ?_
    ·intro h16;try simp only[D6] at h16
     refine AA 1 ?_;refine Aj 0 ?_;refine AA 2 ?_;refine Aj 0 ?_;refine AA 1 ?_;refine Ba (s:=68) rfl rfl rfl (EU rfl rfl (Fh (by omega) (by omega))) ?_;refine AA 3 ?_
     refine Ac (?_:GC _ _ _ _)
     refine AB ?_;refine AP 2 ?_;refine Af ?_ ?_
     ·intro h17;try simp only[D6] at h17
      refine AP 1 ?_;refine GC.ret (AQ 2 [] [] ?_)
      exact Kq
     intro h17;try simp only[D6] at h17
     refine GC.skip (?_:GC _ _ _ _)
     refine AP 1 ?_;refine GC.ret (AQ 2 [] [] ?_)
     exact Kq
    intro h16;try simp only[D6] at h16
    refine AA 10 ?_
    refine Ac (?_:GC _ _ _ _)
    refine AB ?_;refine AP 2 ?_;refine AU rfl ?_;refine AP 1 ?_;refine GC.ret (AQ 2 [] [] ?_)
    exact Kq
   intro h15;try simp only[D6] at h15
   refine AA 15 ?_
   refine Ac (?_:GC _ _ _ _)
   refine AB ?_;refine AP 2 ?_;refine AU rfl ?_;refine AP 1 ?_;refine GC.ret (AQ 2 [] [] ?_)
   exact Kq
  intro Nb;try simp only[D6] at Nb
  refine GC.region ?_;refine AA 1 ?_
  refine Ac (?_:GC _ _ _ _)
  refine AB ?_;refine AP 2 ?_;refine AU rfl ?_;refine AP 1 ?_;refine GC.ret (AQ 2 [] [] ?_)
  exact Kq
 intro h7;try simp only[D6] at h7
 refine GC.region ?_;refine AA 2 ?_
 refine Ac (?_:GC _ _ _ _)
 refine Af ?_ ?_
 ·intro h18;try simp only[D6] at h18
  refine GC.region ?_;refine AA 1 ?_;refine Ad 0 ?_;refine AA 2 ?_;refine Ad 0 ?_;refine AA 1 ?_;refine AO rfl (EU rfl rfl (Fh (by omega) (by omega))) ?_;refine AA 2 ?_
  refine Ac (?_:GC _ _ _ _)
  refine AB ?_;refine AP 2 ?_;refine Af ?_ ?_
  ·intro h19;try simp only[D6] at h19
   refine AP 1 ?_;refine GC.ret (AQ 2 [] [] ?_)
   exact Kq
  intro h19;try simp only[D6] at h19
  refine GC.skip (?_:GC _ _ _ _)
  refine AP 1 ?_;refine GC.ret (AQ 2 [] [] ?_)
  exact Kq
 intro h18;try simp only[D6] at h18
 refine AP 2 ?_;refine Af ?_ ?_
 ·intro h20;try simp only[D6] at h20
  refine GC.region ?_;refine AA 1 ?_;refine Ad 0 ?_;refine AA 3 ?_
  refine Ac (?_:GC _ _ _ _)
  refine AB ?_;refine AP 2 ?_;refine Af ?_ ?_
  ·intro h21;try simp only[D6] at h21
   refine AP 1 ?_;refine GC.ret (AQ 2 [] [] ?_)
   exact Kq
  intro h21;try simp only[D6] at h21
  refine GC.skip (?_:GC _ _ _ _)
  refine AP 1 ?_;refine GC.ret (AQ 2 [] [] ?_)
  exact Kq
 intro h20;try simp only[D6] at h20
 refine AP 2 ?_;refine Af ?_ ?_
 ·intro h22;try simp only[D6] at h22
  refine GC.region ?_;refine AA 1 ?_;refine Ad 0 ?_;refine AA 2 ?_
  refine Ac (?_:GC _ _ _ _)
  refine AB ?_;refine AP 2 ?_;refine Af ?_ ?_
  ·intro h23;try simp only[D6] at h23
   refine AP 1 ?_;refine GC.ret (AQ 2 [] [] ?_)
   exact Kq
  intro h23;try simp only[D6] at h23
  refine GC.skip (?_:GC _ _ _ _)
  refine AP 1 ?_;refine GC.ret (AQ 2 [] [] ?_)
  exact Kq
 intro h22;try simp only[D6] at h22
 refine AP 2 ?_;refine Af ?_ ?_
 ·intro h24;try simp only[D6] at h24
  refine GC.region ?_;refine AA 1 ?_;refine Ad 0 ?_;refine AA 2 ?_;refine Ak 63 ?_ ?_
  ·intro h25;try simp only[D6] at h25
   refine AA 1 ?_;refine Aj 0 ?_;refine AA 3 ?_;refine Ak 68 ?_ ?_
   ·intro h26;try simp only[D6] at h26
    refine AA 1 ?_;refine Aj 0 ?_;refine AA 2 ?_;refine Aj 0 ?_;refine AA 1 ?_;refine Ba (s:=68) rfl rfl rfl (EU rfl rfl (Fh (by omega) (by omega))) ?_;refine AA 3 ?_
    refine Ac (?_:GC _ _ _ _)
    refine AB ?_;refine AP 2 ?_;refine Af ?_ ?_
    ·intro h27;try simp only[D6] at h27
     refine AP 1 ?_;refine GC.ret (AQ 2 [] [] ?_)
     exact Kq
    intro h27;try simp only[D6] at h27
    refine GC.skip (?_:GC _ _ _ _)
    refine AP 1 ?_;refine GC.ret (AQ 2 [] [] ?_)
    exact Kq
   intro h26;try simp only[D6] at h26
   refine AA 10 ?_
   refine Ac (?_:GC _ _ _ _)
   refine AB ?_;refine AP 2 ?_;refine AU rfl ?_;refine AP 1 ?_;refine GC.ret (AQ 2 [] [] ?_)
   exact Kq
  intro h25;try simp only[D6] at h25
  refine AA 15 ?_
  refine Ac (?_:GC _ _ _ _)
  refine AB ?_;refine AP 2 ?_;refine AU rfl ?_;refine AP 1 ?_;refine GC.ret (AQ 2 [] [] ?_)
  exact Kq
 intro h24;try simp only[D6] at h24
 refine GC.region ?_;refine AA 1 ?_
 refine Ac (?_:GC _ _ _ _)
 refine AB ?_;refine AP 2 ?_;refine AU rfl ?_;refine AP 1 ?_;refine GC.ret (AQ 2 [] [] ?_)
 exact Kq
theorem ZY(bl sz e:Int)(h:Nz bl sz=e):Ct Tryz.prog 211 [Ua bl sz] [] [] (λv G Q=>v=.int .i64 e/\G=[]/\Q=[]):=h▸shape_ct bl sz
theorem mulB{x a y b:Int}(h0:0<=x)(h1:x<=a)(h2:0<=y)(h3:y<=b):0<=x * y/\x * y<=a * b :=
 ⟨Int.mul_nonneg h0 h2,Int.mul_le_mul h1 h3 h2 (by omega)⟩
theorem Gg(bl sz:Int):(Nz bl sz=0)↔G5 bl sz:=by unfold Nz;split<;>simp[*]
theorem D8(k a n:Int)(x y:Nat):(SG k a n x y=0)↔SE k a n x y:=by unfold SG;split<;>simp[*]
theorem dB(A:Option Addr)(xs:List UInt8)(cp:Nat)(hx:xs.length<=140737488355328):Ct Tryz.prog 40 [.slice A xs.length cp] [] [D7.row Kd.u8 A xs]
    (λv G Q=>∃A' cp',xs.length<=cp'/\cp'<=9223372036854775807/\v=.slice A' xs.length cp'/\G=[.row (.slice A' xs.length cp') 5 1 xs.length (xs.map JE)]/\Q=[]):=by
 cases A with
 |none =>
   refine Ct.pure (λw S h=>VW (h.per _ (List.mem_singleton.2 rfl))) λhx0=>?_
   subst hx0
   refine Ct.intro Tryz.func40 rfl rfl rfl (λc hc=>?_)
   refine AP 1 ?_;refine AB ?_;refine AV 1 ?_;refine AO rfl (J9 Tryz.underlying47 rfl rfl) ?_;refine Ap ?_;refine AU rfl ?_;refine AP 1 ?_;refine GC.Hu 5 1 ?_;refine GC.ret (AQ 2 [0] [] ?_)
   exact⟨_,_,by simp,by simp,rfl,rfl,rfl⟩
 |some a =>
   refine Ct.intro Tryz.func40 rfl rfl rfl (λc hc=>?_)
   refine AP 1 ?_;refine AB ?_;refine AV 1 ?_;refine AO rfl (J9 Tryz.underlying47 rfl rfl) ?_;refine Ap ?_;refine AY rfl ?_
   refine GC.skip (?_:GC _ _ _ _)
   refine AX ?_;refine GL.step rfl (EC rfl Tryz.underlying47 Fa Jd rfl rfl rfl rfl rfl rfl) (Aa λRD=>?_);refine AA 1 ?_;refine Ci (i:=0) (m:=0) (sz:=1) rfl rfl (by decide) rfl ?_
   refine GL.step rfl (Ep (i:=0) (k:=0) rfl Fv rfl rfl rfl rfl (by simp;omega) (λ_=>rfl)) (Aa λv7=>?_);refine AL 1 ?_;refine GC.shape (i:=0) rfl (λA1 c1 e1 l1 l2=>?_)
   subst e1
   simp only[Nat.zero_add,List.nil_append] at l1 ⊢
   refine GC.ret (AQ 2 [0] [] ?_)
   exact⟨_,_,l1,l2,rfl,rfl,rfl⟩
theorem str_eq(x y:List UInt8):((⟨x.toArray⟩:ByteArray)=⟨y.toArray⟩)=(x=y):=by
 simp
theorem P_(A:Option Addr)(xs:List UInt8)(cp:Nat)(B:Option Addr)(ys:List UInt8)(cq:Nat):Ct Tryz.prog 50 [.slice A xs.length cp,.slice B ys.length cq] [] [D7.row Kd.u8 A xs,D7.row Kd.u8 B ys]
    (λv G Q=>v=.bool (decide (xs=ys))/\G=[]/\Q=[]):=by
 refine Ct.intro Tryz.func50 rfl rfl rfl (λc hc=>?_)
 refine AP 1 ?_;refine AV 1 ?_;refine GL.step rfl (Ed rfl (Lu (i:=0) rfl rfl Tryz.underlying47 Tryz.underlying5 Tryz.underlying9)) ?_;refine AA 1 ?_;refine GL.step rfl (Ed rfl (Lu (i:=1) rfl rfl Tryz.underlying47 Tryz.underlying5 Tryz.underlying9)) ?_
 refine AO rfl (YV rfl rfl) ?_;refine AL 1 ?_;refine GC.ret (AQ 4 [] [] ?_)
 refine⟨congrArg Value.bool ?_,rfl,rfl⟩;simp
def Og(r s:J4):Bool:=decide (r.code=s.code) && decide (r.data=s.data)
theorem kG(r s:J4)(A B:Option Addr)(cp cq:Nat):Ct Tryz.prog 26 [.agg #[.int .u8 r.code,.slice A r.data.length cp],.agg #[.int .u8 s.code,.slice B s.data.length cq]] [] [D7.row Kd.u8 A r.data,D7.row Kd.u8 B s.data]
    (λv G Q=>v=.bool (Og r s)/\G=[]/\Q=[]):=by
 refine Ct.intro Tryz.func26 rfl rfl rfl (λc hc=>?_)
 refine AX ?_;refine GL.step rfl (Ee rfl rfl rfl) (Aa λGm=>?_);refine GL.step rfl (Ee rfl rfl rfl) (Aa λFQ=>?_);refine AL 1 ?_;refine AV 1 ?_;refine Ad 1 ?_;refine AA 1 ?_
 refine Ad 0 ?_;refine AA 2 ?_;refine Ak 10 ?_ ?_
 ·intro h1;try simp only[D6] at h1
  refine AA 1 ?_;refine Aj 1 ?_;refine Au rfl (s:=10) rfl rfl (Ed rfl (Lu (i:=0) rfl rfl Tryz.underlying47 Tryz.underlying5 Tryz.underlying9)) ?_;refine AA 1 ?_;refine Aj 0 ?_;refine Au rfl (s:=10) rfl rfl (Ed rfl (Lu (i:=1) rfl rfl Tryz.underlying47 Tryz.underlying5 Tryz.underlying9)) ?_
  refine Ba (s:=10) rfl rfl rfl (YV rfl rfl) ?_;refine AL 2 ?_;refine GC.ret (AQ 4 [] [] ?_)
  refine⟨congrArg Value.bool ?_,rfl,rfl⟩;simp[Og, *]
 intro h1;try simp only[D6] at h1
 refine AL 9 ?_;refine GC.ret (AQ 4 [] [] ?_)
 refine⟨congrArg Value.bool ?_,rfl,rfl⟩;simp[Og, *]
structure Sl where
 bl:Int
 sz:Int
 b:List UInt8
 vs:List Int
 last:Int
 deriving Inhabited,DecidableEq
structure Kv(v:Sl):Prop where
 Jo:G5 v.bl v.sz
 lb:v.b.length=(v.bl * v.sz).toNat
 lv:v.vs.length=v.bl.toNat
 ver:∀x∈v.vs,0<=x/\x<=4611686018427387904
 last:0<=v.last/\v.last<=4611686018427387904
abbrev OJ(p pb pv:Nat)(v:Sl):List Own:=[.cells p [.int .i64 v.bl,.int .i64 v.sz,.slice (some ⟨pb,0,none⟩) (v.bl * v.sz).toNat (v.bl * v.sz).toNat,.slice (some ⟨pv,0,none⟩) v.bl.toNat v.bl.toNat,.int .i64 v.last] 287,
 .cells pb (v.b.map JE) 5,.cells pv (v.vs.map (Value.int .i64)) 3]
def newV(bl sz:Int):Sl:=⟨bl,sz,List.replicate (bl * sz).toNat 0,List.replicate bl.toNat 0,0⟩
theorem lq{bl sz:Int}(h:G5 bl sz):Kv (newV bl sz):=⟨h,by simp[newV],by simp[newV],λx hx=>by rw[List.eq_of_mem_replicate hx];decide,by simp[newV]⟩
theorem atB{bl sz i n:Int}(hs:G5 bl sz)(h0:0<=i)(h1:1<=n)(h2:i+n<=bl):0<=i * sz/\i * sz+1<=(i+n) * sz/\(i+n) * sz<=bl * sz/\bl * sz<=16777216:=by
 obtain⟨s1,s2,s3,s4⟩:=hs
 refine⟨Int.mul_nonneg h0 (by omega),?_,Int.mul_le_mul_of_nonneg_right h2 (by omega),(mulB (a:=4096) (b:=4096) (by omega) s2 (by omega) s4).2⟩
 rw[Int.add_mul]
 have:1 * 1<=n * sz:=Int.mul_le_mul h1 s3 (by omega) (by omega)
 omega
theorem mulS{bl sz:Int}(hs:G5 bl sz):0<=bl * sz/\bl * sz<=16777216/\1<=bl * sz:=by
 obtain⟨s1,s2,s3,s4⟩:=hs
 have:=mulB (x:=bl) (a:=4096) (y:=sz) (b:=4096) (by omega) s2 (by omega) s4
 have h1:1 * 1<=bl * sz:=Int.mul_le_mul s1 s3 (by omega) (by omega)
 omega
theorem made_ct(p pb pv:Nat)(v:Sl):Ct Tryz.prog 212 [.pointer (some ⟨p,0,none⟩)] (OJ p pb pv v) [] (λu G Q=>u=.bool true/\G=OJ p pb pv v/\Q=[]):=by
 refine Ct.intro Tryz.func212 rfl rfl rfl (λc hc=>?_)
 refine AP 1 ?_;refine AV 1 ?_;refine AO rfl (Vp Tryz.underlying219 rfl rfl) ?_;refine AA 4 ?_;refine Aj 0 ?_;refine Ba (s:=5) rfl rfl rfl (Z5 Tryz.underlying47 rfl rfl) ?_
 refine AL 2 ?_;refine GC.ret (AQ 2 [0,0,0] [] ?_)
 exact⟨rfl,rfl,rfl⟩
theorem qY{vs:List Int}{i k:Nat}{num:Int}(h:i+k<vs.length):(laid vs i (List.replicate k num)).set (i+k) num=laid vs i (List.replicate (k+1) num):=by
 apply List.ext_getElem?
 intro j
 simp only[laid,List.length_replicate]
 rw[List.getElem?_set]
 have hl:(List.take i vs++List.replicate k num++List.drop (i+k) vs).length=vs.length:=by simp;omega
 by_cases hj:i+k=j
 ·subst hj
  rw[if_pos rfl,if_pos (by omega)]
  simp[List.getElem?_append,List.getElem?_replicate,show min i vs.length=i by omega]
 ·rw[if_neg hj]
  simp only[List.getElem?_append,List.getElem?_replicate,List.length_append,List.length_take,List.length_replicate,show min i vs.length=i by omega,List.getElem?_drop]
  by_cases h1:j<i
  ·simp[h1,show j<i+k by omega,show j<i+(k+1) by omega]
  ·by_cases h2:j<i+k
   ·simp[h1,h2,show j<i+(k+1) by omega,show j - i<k by omega,show j - i<k+1 by omega]
   ·simp[h1,h2,show ¬j<i+(k+1) by omega]
    congr 1
    omega
theorem laid_nil{α:Type}(vs:List α)(i:Nat):laid vs i []=vs:=by simp[laid]
theorem at_ct(p pb pv:Nat)(v:Sl)(i n:Int)(hv:Kv v)(h0:0<=i)(h1:1<=n)(h2:i+n<=v.bl):Ct Tryz.prog 214 [.pointer (some ⟨p,0,none⟩),.int .i64 i,.int .i64 n] (OJ p pb pv v) []
    (λu G Q=>u=.slice (some ⟨pb,(i * v.sz).toNat,none⟩) (seg v.b (i * v.sz).toNat ((i+n) * v.sz).toNat).length (((i+n) * v.sz).toNat - (i * v.sz).toNat)/\G=OJ p pb pv v/\Q=[]):=by
 have hb:=atB hv.Jo h0 h1 h2
 have hs:=hv.Jo
 have hl:=hv.lb
 simp only[G5] at hs
 refine Ct.intro Tryz.func214 rfl rfl rfl (λc hc=>?_)
 refine AP 1 ?_;refine AB ?_;refine BP Ef (by kernel_rfl) ?_;refine Am 5 ?_;refine GQ.step rfl (Ea (EF (i:=0) rfl rfl Ei rfl)) ?_;refine GQ.step rfl (EP (Vr rfl rfl (Fh (by omega) (by omega)))) ?_
 refine Am 2 ?_;refine GQ.step rfl (EP (EU rfl rfl (Fh (by omega) (by omega)))) ?_;refine Am 4 ?_;refine GQ.step rfl (Ea (EF (i:=0) rfl rfl Ei rfl)) ?_;refine GQ.step rfl (EP (Vr rfl rfl (Fh (by omega) (by omega)))) ?_
 refine Am 2 ?_
 refine BO (?_:GC _ _ _ _)
 refine AV 3 ?_;refine Ad 0 ?_;refine AA 3 ?_;refine AO rfl (Xr rfl rfl rfl rfl Tryz.underlying47 Fa (by omega) (by omega) (by omega) (by omega) (seg_length (xs:=v.b) (by omega)).symm rfl (Um (by omega))) ?_
 refine AL 1 ?_;refine GC.ret (AQ 6 [0,0,0] [] ?_)
 exact⟨by rw[Nat.zero_add,Nat.mul_one];rfl,rfl,rfl⟩
theorem stamp_ct(p pb pv:Nat)(v:Sl)(i n num:Int)(hv:Kv v)(h0:0<=i)(h1:1<=n)(h2:i+n<=v.bl):Ct Tryz.prog 215 [.pointer (some ⟨p,0,none⟩),.int .i64 i,.int .i64 n,.int .i64 num] (OJ p pb pv v) []
    (λu G Q=>u=.tuple #[]/\G=OJ p pb pv { v with vs:=laid v.vs i.toNat (List.replicate n.toNat num) }/\Q=[]):=by
 have hs:=hv.Jo
 have hl:=hv.lv
 simp only[G5] at hs
 refine Ct.intro Tryz.func215 rfl rfl rfl (λc hc=>?_)
 refine AP 2 ?_;refine GC.block ?_;refine GC.imp (λa w h=>(⟨by simp;omega,by rw[List.replicate_zero,laid_nil];exact h.ct [0,0,0] []⟩:(fun(k:Nat) (a:Act) (w:World)=>(k:Int)<=n/\St c 23 [(0,.pointer (some ⟨p,0,none⟩)),(1,.int .i64 i),(3,.int .i64 num),(9,.int .i64 n),(10,.int .i64 (k:Int))] [.cells p [.int .i64 v.bl,.int .i64 v.sz,.slice (some ⟨pb,0,none⟩) (v.bl * v.sz).toNat (v.bl * v.sz).toNat,.slice (some ⟨pv,0,none⟩) v.bl.toNat v.bl.toNat,.int .i64 v.last] 287,.cells pb (v.b.map JE) 5,.cells pv ((laid v.vs i.toNat (List.replicate k num)).map (Value.int .i64)) 3] [] a w) 0 a w)) (GC.loop (fun(k:Nat) (a:Act) (w:World)=>(k:Int)<=n/\St c 23 [(0,.pointer (some ⟨p,0,none⟩)),(1,.int .i64 i),(3,.int .i64 num),(9,.int .i64 n),(10,.int .i64 (k:Int))] [.cells p [.int .i64 v.bl,.int .i64 v.sz,.slice (some ⟨pb,0,none⟩) (v.bl * v.sz).toNat (v.bl * v.sz).toNat,.slice (some ⟨pv,0,none⟩) v.bl.toNat v.bl.toNat,.int .i64 v.last] 287,.cells pb (v.b.map JE) 5,.cells pv ((laid v.vs i.toNat (List.replicate k num)).map (Value.int .i64)) 3] [] a w) (λk=>n.toNat - k) 0 ?_)
 intro k
 refine GC.and λhk=>?_;refine AP 1 ?_;refine AB ?_;refine Af ?_ ?_
 ·intro h1;try simp only[D6] at h1
  refine GC.skip (?_:GC _ _ _ _)
  refine AB ?_;refine GC.block ?_;refine AP 2 ?_;refine GC.region ?_;refine AA 3 ?_;refine Ad 0 ?_;refine AA 2 ?_;refine AO rfl (EU rfl rfl (Fh (by(first|omega|(rw[Gw (by simp;omega)];omega))) (by(first|omega|(rw[Gw (by simp;omega)];omega))))) ?_
  refine AA 1 ?_;refine AO rfl (G6 rfl rfl Tryz.underlying53 GV (by(first|omega|(rw[Gw (by simp;omega)];omega))) (by(first|omega|(rw[Gw (by simp;omega)];omega)))) ?_
  refine GL.step rfl (Et (i:=2) rfl rfl rfl rfl GV rfl (jv _ (by(first|omega|(rw[Gw (by simp;omega)];omega))) (by(first|omega|(rw[Gw (by simp;omega)];omega)))) rfl) ?_
  refine Ac (?_:GC _ _ _ _)
  refine GC.region ?_;refine AO rfl (EU rfl rfl (Fh (by(first|omega|(rw[Gw (by simp;omega)];omega))) (by(first|omega|(rw[Gw (by simp;omega)];omega))))) ?_
  refine AA 1 ?_;refine Ac ?_
  exact λa w h=>⟨(k+1),(by omega),(by omega),by rw[<-qY (by omega),show i.toNat+k=(i+(k:Int)).toNat by omega];exact h.ct [0,0,0] []⟩
 intro h1;try simp only[D6] at h1
 refine GC.exit ?_
 refine λa w h=>Bz rfl (is:=[0,0,0]) (js:=[]) rfl rfl ?_ h
 clear h
 obtain rfl:n.toNat=k:=by omega
 exact⟨rfl,rfl,rfl⟩
theorem new_bad(bl sz:Int)(h:¬G5 bl sz):Ct Tryz.prog 190 [Ua bl sz] [] [] (λv G Q=>v=.tuple #[.pointer none,.int .i64 40]/\G=[]/\Q=[]):=by
 have he:Nz bl sz=40:=by simp[Nz,h]
 refine Ct.intro Tryz.func190 rfl rfl rfl (λc hc=>?_)
 refine AX ?_;refine GL.step rfl (Ee rfl rfl rfl) (Aa λIJ=>?_);refine AL 2 ?_;refine AB ?_;refine AX ?_;refine Az 0 2 ?_;refine Ah Tryz.call211 [] [] rfl rfl rfl (by exact ZY _ _ _ he) ?_
 rintro _ _ _ ⟨rfl,rfl,rfl⟩
 refine AL 1 ?_;refine AP 2 ?_;refine AU rfl ?_;refine AP 3 ?_;refine GC.ret (BR 2 3 [] [] ?_)
 exact⟨rfl,rfl,rfl⟩
theorem new_ok(bl sz:Int)(h:G5 bl sz):Ct Tryz.prog 190 [Ua bl sz] [] [] (λv G Q=>∃p pb pv,v=.tuple #[.pointer (some ⟨p,0,none⟩),.int .i64 0]/\G=OJ p pb pv (newV bl sz)/\Q=[]):=by
 have he:Nz bl sz=0:=by simp[Nz,h]
 have hm:=mulS h
 have hs:=h
 simp only[G5] at hs
 refine Ct.intro Tryz.func190 rfl rfl rfl (λc hc=>?_)
 refine AX ?_;refine GL.step rfl (Ee rfl rfl rfl) (Aa λIJ=>?_);refine AL 2 ?_;refine AB ?_;refine AX ?_;refine Az 0 2 ?_;refine Ah Tryz.call211 [] [] rfl rfl rfl (by exact ZY _ _ _ he) ?_
 rintro _ _ _ ⟨rfl,rfl,rfl⟩
 refine AL 1 ?_;refine AP 2 ?_;refine AY rfl ?_
 refine GC.skip (?_:GC _ _ _ _)
 refine AB ?_;refine CS (m:=14) (M:=λa w=>∃p:Nat,∃pb:Nat,∃pv:Nat,St c 22 [(2,.pointer (some ⟨p,0,none⟩)),(3,.int .i64 0)] [.cells p [.int .i64 bl,.int .i64 sz,.slice (some ⟨pb,0,none⟩) (bl * sz).toNat (bl * sz).toNat,.slice (some ⟨pv,0,none⟩) bl.toNat bl.toNat,.int .i64 0] 287,.cells pb ((List.replicate (bl * sz).toNat 0).map JE) 5,.cells pv ((List.replicate bl.toNat 0).map (Value.int .i64)) 3] [] a w) (is:=[0]) (js:=[]) Ef rfl rfl rfl ?_ ?_
 ·refine BA 0 rfl [0] [] (i_mem (G7 (i:=0) rfl rfl ag_57 (vs:=[_,_]) sz_57 ⟨rfl,rfl,trivial⟩)) ?_;refine AZ 1 [0] [] ?_;refine BA 2 rfl [0] [] (i_mem (EF (i:=0) rfl rfl Ei rfl)) ?_;refine AZ 3 [0] [] ?_
  refine BA 4 rfl [0] [] (i_mem (EF (i:=0) rfl rfl Ei rfl)) ?_;refine BA 5 rfl [0] [] (EK (Vr rfl rfl (Fh (by omega) (by omega)))) ?_;refine AZ 7 [0] [] ?_;refine BA 8 rfl [0] [] (i_mem (EF (i:=0) rfl rfl Ei rfl)) ?_
  refine Aw [6,9] ?_
  refine E8.cons (i:=6) rfl rfl (VJ rfl Fv rfl rfl (by omega) (by omega)) (by rintro a w ⟨_,h⟩;exact h.me [1] []) (BZ λdG=>?_) ?_
  ·rw[YN]
   refine Aw [9] ?_
   refine E8.cons (i:=9) rfl rfl (VJ rfl NS rfl rfl (by omega) (by omega)) (by rintro a w ⟨_,h⟩;exact h.me [2] []) (BZ λXD=>?_) Ag
   rw[Zk]
   refine BA 10 rfl [2] [] (EK (ED ze_287 of_287 rfl rfl)) ?_;refine Aw [11] ?_
   refine E8.cons (i:=11) rfl rfl (Ee rfl rfl rfl) (by rintro a w ⟨_,h⟩;exact h.me [3] []) (BZ λX_=>?_) Ag
   refine AZ 12 [3] [] ?_;refine AZ 13 [3] [] ?_
   exact BG (by kernel_rfl) (λa w h=>⟨X_,dG,XD,h.ct [0,1,0] []⟩)
  refine E8.cons (i:=9) rfl rfl (VJ rfl NS rfl rfl (by omega) (by omega)) (by rintro a w ⟨_,h⟩;exact h.me [1] []) (BZ λXD=>?_) Ag
  rw[Zk]
  refine Aw [6] ?_
  refine E8.cons (i:=6) rfl rfl (VJ rfl Fv rfl rfl (by omega) (by omega)) (by rintro a w ⟨_,h⟩;exact h.me [2] []) (BZ λdG=>?_) Ag
  rw[YN]
  refine BA 10 rfl [2] [] (EK (ED ze_287 of_287 rfl rfl)) ?_;refine Aw [11] ?_
  refine E8.cons (i:=11) rfl rfl (Ee rfl rfl rfl) (by rintro a w ⟨_,h⟩;exact h.me [3] []) (BZ λX_=>?_) Ag
  refine AZ 12 [3] [] ?_;refine AZ 13 [3] [] ?_
  exact BG (by kernel_rfl) (λa w h=>⟨X_,dG,XD,h.ct [0,0,0] []⟩)
 refine(?_:GC _ _ _ _)
 refine BQ λp=>BQ λpb=>BQ λpv=>?_;refine GC.ret (BR 2 3 [0,0,0] [] ?_)
 exact⟨p,pb,pv,rfl,rfl,rfl⟩
def pc(v:Sl)(a n:Int):List UInt8:=seg v.b (a * v.sz).toNat ((a+n) * v.sz).toNat
theorem Kv.last'{v:Sl}(h:Kv v){num:Int}(h0:0<=num)(h1:num<=4611686018427387904):Kv { v with last:=num }:=⟨h.Jo,h.lb,h.lv,h.ver,h0,h1⟩
theorem Kv.setb{v:Sl}(h:Kv v){o:Nat}{ys:List UInt8}(hf:o+ys.length<=v.b.length):Kv { v with b:=laid v.b o ys }:=⟨h.Jo,by rw[Gw hf];exact h.lb,h.lv,h.ver,h.last⟩
theorem mem_laid{α:Type}{xs ys:List α}{o:Nat}{x:α}(h:x∈laid xs o ys):x∈xs\/x∈ys:=by
 unfold laid at h
 simp only[List.mem_append] at h
 rcases h with(h|h)|h
 ·exact .inl (List.mem_of_mem_take h)
 ·exact .inr h
 ·exact .inl (List.mem_of_mem_drop h)
theorem Kv.setv{v:Sl}(h:Kv v){o k:Nat}{num:Int}(hf:o+k<=v.vs.length)(h0:0<=num)(h1:num<=4611686018427387904):Kv { v with vs:=laid v.vs o (List.replicate k num) } :=
 ⟨h.Jo,h.lb,by rw[Gw (by simpa using hf)];exact h.lv,λx hx=>by
  rcases mem_laid hx with hx|hx
  ·exact h.ver x hx
  ·rw[List.eq_of_mem_replicate hx];exact⟨h0,h1⟩,h.last⟩
abbrev resV(r:J4)(A:Option Addr)(cp:Nat)(e:Int):Value:=.tuple #[.agg #[.int .u8 r.code,.slice A r.data.length cp],.int .i64 e]
def Q_(bl sz last:Int)(p:F5):Prop:=p.at_<=last\/bl<=p.at_\/p.ver<1\/4611686018427387904<p.ver\/(p.data.length:Int)≠sz
instance (bl sz last:Int)(p:F5):Decidable (Q_ bl sz last p):=by unfold Q_;infer_instance
def IC(bl sz:Int):Int->List F5->Bool
 |_,[]=>true
 |last,p::r=>if Q_ bl sz last p then false else IC bl sz p.at_ r
theorem Y4{α:Type}[Inhabited α]{l:List α}{k:Nat}(h:k<l.length):l.drop k=gt l (k:Int)::l.drop (k+1):=by
 have:=EW (xs:=l) (i:=(k:Int)) (by omega) (by omega)
 rw[List.drop_eq_getElem_cons h]
 congr 1
 have h2:l[k]?=some l[k]:=List.getElem?_eq_getElem h
 simp only[Int.toNat_natCast] at this
 rw[h2] at this
 exact Option.some.inj this
theorem Xy{bl sz last:Int}{l:List F5}{k:Nat}(h:k<l.length)(hb:Q_ bl sz last (gt l (k:Int))):IC bl sz last (l.drop k)=false:=by rw[Y4 h,IC,if_pos hb]
theorem V8{bl sz last:Int}{l:List F5}{k:Nat}(h:k<l.length)(hb:¬Q_ bl sz last (gt l (k:Int))):IC bl sz last (l.drop k)=IC bl sz (gt l (k:Int)).at_ (l.drop (k+1)):=by rw[Y4 h,IC,if_neg hb]
theorem Xx{bl sz last:Int}{l:List F5}{k:Nat}(h:l.length<=k):IC bl sz last (l.drop k)=true:=by rw[List.drop_of_length_le h];rfl
abbrev kW(pg:F5)(A:Option Addr)(cp:Nat):Value:=.agg #[.int .i64 pg.at_,.int .i64 pg.ver,.slice A pg.data.length cp]
abbrev sJ(q wb p:Nat)(last:Int):List Own:=[.cells q [.int .i64 last] 3,.cells wb [.pointer (some ⟨p,0,none⟩)] 219]
theorem zq5_{X:Prop}(h:X:=by(refine⟨congrArg Value.bool ?_,rfl,rfl⟩;first|exact decide_eq_decide.2 (by unfold Q_;omega)|exact(decide_eq_true (by unfold Q_;omega)).symm|exact(decide_eq_false (by unfold Q_;omega)).symm)):X:=h
theorem laidc_ct(q wb p pb pv:Nat)(v:Sl)(last:Int)(pg:F5)(A:Option Addr)(cp:Nat):Ct Tryz.prog 226 [kW pg A cp,.pointer (some ⟨q,0,none⟩),.pointer (some ⟨wb,0,none⟩)] (sJ q wb p last++OJ p pb pv v) []
    (λu G Q=>u=.bool (decide (Q_ v.bl v.sz last pg))/\G=sJ q wb p pg.at_++OJ p pb pv v/\Q=[]):=by
 refine Ct.intro Tryz.func226 rfl rfl rfl (λc hc=>?_)
 refine AX ?_;refine GL.step rfl (Ee rfl rfl rfl) (Aa λFQ=>?_);refine AL 1 ?_;refine AB ?_;refine BP Ef (by kernel_rfl) ?_;refine Am 1 ?_;refine GQ.step rfl (Ea (EF (i:=0) rfl rfl Ei rfl)) ?_
 refine GQ.step rfl (Ea (EF (i:=1) rfl rfl Ei rfl)) ?_;refine Am 2 ?_;refine BJ (i:=10) rfl (λh1=>?_) (λh1=>?_)
 ·try simp only[D6] at h1
  refine Am 31 ?_
  refine BO (?_:GC _ _ _ _)
  refine AV 1 ?_;refine Ad 0 ?_;refine BI 1 ?_;refine BL 2 ?_;refine Ap ?_;refine GC.ret (AQ 4 [1,1,1,1,1] [] ?_)
  exact zq5_
 try simp only[D6] at h1
 refine Am 1 ?_;refine Ai (s:=10) rfl rfl rfl (Ea (EF (i:=0) rfl rfl Ei rfl)) ?_;refine Ai (s:=10) rfl rfl rfl (Ea (EF (i:=2) rfl rfl ag_219 rfl)) ?_;refine Am 3 ?_;refine Ai (s:=10) rfl rfl rfl (Ea (EF (i:=3) rfl rfl Ei rfl)) ?_
 refine Am 3 ?_;refine BJ (i:=20) rfl (λh2=>?_) (λh2=>?_)
 ·try simp only[D6] at h2
  refine Am 21 ?_
  refine BO (?_:GC _ _ _ _)
  refine AV 1 ?_;refine Ad 0 ?_;refine BI 1 ?_;refine BL 2 ?_;refine Ap ?_;refine GC.ret (AQ 4 [1,1,1,1,1] [] ?_)
  exact zq5_
 try simp only[D6] at h2
 refine Am 1 ?_;refine Ai (s:=20) rfl rfl rfl (Ea (EF (i:=0) rfl rfl Ei rfl)) ?_;refine Am 3 ?_;refine BJ (i:=25) rfl (λh3=>?_) (λh3=>?_)
 ·try simp only[D6] at h3
  refine Am 16 ?_
  refine BO (?_:GC _ _ _ _)
  refine AV 1 ?_;refine Ad 0 ?_;refine BI 1 ?_;refine BL 2 ?_;refine Ap ?_;refine GC.ret (AQ 4 [1,1,1,1,1] [] ?_)
  exact zq5_
 try simp only[D6] at h3
 refine Am 1 ?_;refine Ai (s:=25) rfl rfl rfl (Ea (EF (i:=0) rfl rfl Ei rfl)) ?_;refine Am 3 ?_;refine BJ (i:=30) rfl (λh4=>?_) (λh4=>?_)
 ·try simp only[D6] at h4
  refine Am 11 ?_
  refine BO (?_:GC _ _ _ _)
  refine AV 1 ?_;refine Ad 0 ?_;refine BI 1 ?_;refine BL 2 ?_;refine Ap ?_;refine GC.ret (AQ 4 [1,1,1,1,1] [] ?_)
  exact zq5_
 try simp only[D6] at h4
 refine Am 1 ?_;refine Ai (s:=30) rfl rfl rfl (Ea (EF (i:=0) rfl rfl G_ rfl)) ?_;refine Am 1 ?_;refine Ai (s:=30) rfl rfl rfl (Ea (EF (i:=2) rfl rfl ag_219 rfl)) ?_;refine Am 3 ?_
 refine Ai (s:=30) rfl rfl rfl (Ea (EF (i:=3) rfl rfl Ei rfl)) ?_;refine Am 3 ?_
 refine BO (?_:GC _ _ _ _)
 refine AV 1 ?_;refine Ad 0 ?_;refine BI 1 ?_;refine BL 2 ?_;refine Ap ?_;refine GC.ret (AQ 4 [1,1,1,1,1] [] ?_)
 exact zq5_
theorem index_ct(q wb p pb pv:Nat)(v:Sl)(A:Option Addr)(l:List F5)(cp:Nat)(hl:l.length<=140737488355328):Ct Tryz.prog 194 [.slice A l.length cp,.func (.func 226) #[] #[.pointer (some ⟨q,0,none⟩),.pointer (some ⟨wb,0,none⟩)]] (sJ q wb p (-1)++OJ p pb pv v) [D7.row GR A l]
    (λu G Q=>∃r la,(0<=r↔IC v.bl v.sz (-1) l=false)/\u=.int .i64 r/\G=sJ q wb p la++OJ p pb pv v/\Q=[]):=by
 refine Ct.intro Tryz.func194 rfl rfl rfl (λc hc=>?_)
 refine AP 1 ?_;refine AB ?_;refine AP 3 ?_;refine GC.block ?_;refine GC.imp (λa w h=>(⟨⟨by simp,rfl⟩,h.ct (zs 5) [0]⟩:(fun(y:Nat×Int) (a:Act) (w:World)=>(y.1<=l.length/\IC v.bl v.sz (-1) l=IC v.bl v.sz y.2 (l.drop y.1))/\St c 19 [(0,.slice A l.length cp),(1,.func (.func 226) #[] #[.pointer (some ⟨q,0,none⟩),.pointer (some ⟨wb,0,none⟩)]),(7,.int .i64 (l.length:Int)),(8,.int .i64 (y.1:Int))] [.cells q [.int .i64 y.2] 3,.cells wb [.pointer (some ⟨p,0,none⟩)] 219,.cells p [.int .i64 v.bl,.int .i64 v.sz,.slice (some ⟨pb,0,none⟩) (v.bl * v.sz).toNat (v.bl * v.sz).toNat,.slice (some ⟨pv,0,none⟩) v.bl.toNat v.bl.toNat,.int .i64 v.last] 287,.cells pb (v.b.map JE) 5,.cells pv (v.vs.map (Value.int .i64)) 3] [D7.row GR A l] a w) (0,-1) a w)) (GC.loop (fun(y:Nat×Int) (a:Act) (w:World)=>(y.1<=l.length/\IC v.bl v.sz (-1) l=IC v.bl v.sz y.2 (l.drop y.1))/\St c 19 [(0,.slice A l.length cp),(1,.func (.func 226) #[] #[.pointer (some ⟨q,0,none⟩),.pointer (some ⟨wb,0,none⟩)]),(7,.int .i64 (l.length:Int)),(8,.int .i64 (y.1:Int))] [.cells q [.int .i64 y.2] 3,.cells wb [.pointer (some ⟨p,0,none⟩)] 219,.cells p [.int .i64 v.bl,.int .i64 v.sz,.slice (some ⟨pb,0,none⟩) (v.bl * v.sz).toNat (v.bl * v.sz).toNat,.slice (some ⟨pv,0,none⟩) v.bl.toNat v.bl.toNat,.int .i64 v.last] 287,.cells pb (v.b.map JE) 5,.cells pv (v.vs.map (Value.int .i64)) 3] [D7.row GR A l] a w) (λy=>l.length - y.1) (0,-1) ?_)
 intro y
 refine GC.and λhk=>?_
 obtain⟨k,last⟩:=y
 dsimp only at hk ⊢
 obtain⟨hk,he⟩:=hk
 refine AP 1 ?_;refine AB ?_;refine Af ?_ ?_
 ·intro h1;try simp only[D6] at h1
  refine GC.skip (?_:GC _ _ _ _)
  refine AB ?_;refine GC.block ?_;refine AP 2 ?_;refine AV 3 ?_;refine GL.step rfl (Ej (i:=0) rfl rfl rfl rfl Tryz.underlying58 Gs (by omega) (EW (by omega) (by omega))) (Aa λp_x14=>Aa λVk=>GL.and λgV=>?_)
  rcases Vk with⟨_,⟨_,⟨Ax14_0,cpx14_0⟩⟩⟩
  refine GL.step rfl (Ed rfl (FX (i:=0) rfl rfl RF (vs:=[_,_,_]) Gs ⟨rfl,rfl,rfl,trivial⟩)) ?_;refine GL.step rfl (QG rfl Tryz.call226 rfl rfl (is:=(zs 5)) (js:=[]) rfl rfl (by exact laidc_ct _ _ _ _ _ _ _ (gt l (k:Int)) _ _)) (GL.ret ?_)
  rintro _ _ _ ⟨rfl,rfl,rfl⟩
  refine Ap ?_;refine Af ?_ ?_
  ·intro h2;try simp only[D6] at h2
   refine AP 2 ?_;refine GC.ret (AQ 4 (zs 5) [] ?_)
   exact⟨_,_,⟨λ_=>by rw[he];exact Xy (by omega) (by simpa using h2),λ_=>by omega⟩,rfl,rfl,rfl⟩
  intro h2;try simp only[D6] at h2
  refine GC.skip (?_:GC _ _ _ _)
  refine GC.region ?_;refine AO rfl (EU rfl rfl (Fh (by omega) (by omega))) ?_;refine AA 1 ?_;refine Ac ?_
  exact λa w h=>⟨(k+1,(gt l (k:Int)).at_),(by simp only;omega),⟨by simp only;omega,by simp only;rw[he];exact V8 (by omega) (by simpa using h2)⟩,h.ct (zs 5) [2]⟩
 intro h1;try simp only[D6] at h1
 refine GC.exit (?_:GC _ _ _ _)
 refine AP 1 ?_;refine GC.ret (AQ 4 (zs 5) [] ?_)
 exact⟨_,_,⟨λg=>by omega,λg=>by rw[he,Xx (by omega)] at g;cases g⟩,rfl,rfl,rfl⟩
theorem dA(q wb p pb pv:Nat)(v:Sl)(A:Option Addr)(l:List F5)(cp:Nat)(hl:l.length<=140737488355328):Ct Tryz.prog 153 [.slice A l.length cp,.func (.func 226) #[] #[.pointer (some ⟨q,0,none⟩),.pointer (some ⟨wb,0,none⟩)]] (sJ q wb p (-1)++OJ p pb pv v) [D7.row GR A l]
    (λu G Q=>∃la,u=.bool (!IC v.bl v.sz (-1) l)/\G=sJ q wb p la++OJ p pb pv v/\Q=[]):=by
 refine Ct.intro Tryz.func153 rfl rfl rfl (λc hc=>?_)
 refine AP 1 ?_;refine AV 2 ?_;refine Ah Tryz.call194 (zs 5) [0] rfl rfl rfl (by exact index_ct _ _ _ _ _ v _ _ _ hl) ?_
 rintro _ _ _ ⟨r7,la7,hr7,rfl,rfl,rfl⟩
 refine AL 2 ?_;refine GC.ret (AQ 4 (zs 5) [] ?_)
 refine⟨_,congrArg Value.bool ?_,rfl,rfl⟩
 cases hb:IC v.bl v.sz (-1) l
 ·exact decide_eq_true (hr7.2 hb)
 exact decide_eq_false (λg=>by have:=hr7.1 g;rw[hb] at this;cases this)
theorem laid_ct(p pb pv:Nat)(v:Sl)(A:Option Addr)(l:List F5)(cp:Nat)(hl:l.length<=140737488355328):Ct Tryz.prog 213 [.pointer (some ⟨p,0,none⟩),.slice A l.length cp] (OJ p pb pv v) [D7.row GR A l]
    (λu G Q=>u=.bool (IC v.bl v.sz (-1) l)/\G=OJ p pb pv v/\Q=[]):=by
 refine Ct.intro Tryz.func213 rfl rfl rfl (λc hc=>?_)
 refine AX ?_;refine GL.step rfl (Ee rfl rfl rfl) (Aa λGm=>?_);refine AL 1 ?_;refine AX ?_;refine GL.step rfl (EH rfl Ja) (Aa λRD=>?_);refine BI 0 ?_;refine BL 1 ?_;refine AO rfl (J5 rfl rfl) ?_
 refine Ah Tryz.call153 (zs 5) [0] rfl rfl rfl (by exact dA _ _ _ _ _ v _ _ _ hl) ?_
 rintro _ _ _ ⟨la8,rfl,rfl,rfl⟩
 refine AL 2 ?_;refine GC.ret (AQ 4 [2,2,2] [] ?_)
 exact⟨by rw[Bool.not_not];rfl,rfl,rfl⟩
def lastOf(l:List F5):Nat->Int
 |0 => -1
 |k+1=>(gt l (k:Int)).at_
theorem UU{X:Prop}(h:X:=by(first|(exact⟨by rw[he,Xx (by omega)];rfl,rfl,rfl⟩)|(exact⟨by rw[he,Xy (by omega) (by unfold Q_;(try simp only[lastOf] at *);(try simp only[show ∀x:Nat,((x+1:Nat):Int) - 1=x by omega] at *);omega)];rfl,rfl,rfl⟩))):X:=h
theorem rlaid_ct(bl sz:Int)(A:Option Addr)(l:List F5)(cp:Nat)(hl:l.length<=140737488355328)(hd:∀x∈l,x.data.length<=140737488355328):Ct Tryz.prog 174 [Ua bl sz,.slice A l.length cp] [] [D7.row GR A l] (λu G Q=>u=.bool (IC bl sz (-1) l)/\G=[]/\Q=[]):=by
 refine Ct.intro Tryz.func174 rfl rfl rfl (λc hc=>?_)
 refine AX ?_;refine GL.step rfl (Ee rfl rfl rfl) (Aa λGm=>?_);refine AL 1 ?_;refine AB ?_;refine AP 1 ?_;refine GC.block ?_;refine GC.imp (λa w h=>(⟨⟨by simp,rfl,by simp[lastOf]⟩,h.ct [0] [0]⟩:(fun(k:Nat) (a:Act) (w:World)=>(k<=l.length/\IC bl sz (-1) l=IC bl sz (lastOf l k) (l.drop k) /\ -1<=lastOf l k)/\St c 60 [(1,.slice A l.length cp),(2,.pointer (some ⟨Gm,0,none⟩)),(5,.int .i64 (k:Int))] [.cells Gm [.int .i64 bl,.int .i64 sz] 57] [D7.row GR A l] a w) 0 a w)) (GC.loop (fun(k:Nat) (a:Act) (w:World)=>(k<=l.length/\IC bl sz (-1) l=IC bl sz (lastOf l k) (l.drop k) /\ -1<=lastOf l k)/\St c 60 [(1,.slice A l.length cp),(2,.pointer (some ⟨Gm,0,none⟩)),(5,.int .i64 (k:Int))] [.cells Gm [.int .i64 bl,.int .i64 sz] 57] [D7.row GR A l] a w) (λk=>l.length - k) 0 ?_)
 intro k
 refine GC.and λhk=>?_
 obtain⟨hk,he,hlast⟩:=hk
 refine AB ?_;refine AP 4 ?_;refine Af ?_ ?_
 ·intro h1;try simp only[D6] at h1
  refine GC.skip (?_:GC _ _ _ _)
  refine AB ?_;refine GC.block ?_;refine AV 2 ?_;refine GL.step rfl (Ej (i:=0) rfl rfl rfl rfl Tryz.underlying58 Gs (by omega) (EW (by omega) (by omega))) (Aa λp_x15=>Aa λVj=>GL.and λgU=>?_)
  rcases Vj with⟨_,⟨_,⟨Ax15_0,nP⟩⟩⟩
  refine GL.step rfl (Ed rfl (FX (i:=0) rfl rfl RF (vs:=[_,_,_]) Gs ⟨rfl,rfl,rfl,trivial⟩)) ?_;refine GL.step rfl (EH rfl Je) (Aa λKr=>?_);refine Ar 0 ?_;refine Ap ?_
  refine AB ?_
  rcases k with _|k
  ·skip
   refine BP Ef (by kernel_rfl) ?_;refine Am 1 ?_;refine GQ.step rfl (Ea (EF (i:=0) rfl rfl Ei rfl)) ?_;refine Am 2 ?_;refine BJ (i:=20) rfl (λh2=>?_) (λh2=>?_)
   ·try simp only[D6] at h2
    refine Am 10 ?_
    iterate 9 refine Bo (s:=30) rfl rfl rfl ?_
    refine Am 20 ?_
    refine BO (?_:GC _ _ _ _)
    refine AU rfl ?_;refine AP 1 ?_;refine GC.ret (AQ 4 [] [] ?_)
    exact UU
   try simp only[D6] at h2
   refine Am 1 ?_;refine Ai (s:=20) rfl rfl rfl (Ea (EF (i:=0) rfl rfl Ei rfl)) ?_;refine Am 1 ?_;refine Ai (s:=20) rfl rfl rfl (Ea (EF (i:=1) rfl rfl Ei rfl)) ?_;refine Am 3 ?_
   refine BJ (i:=27) rfl (λh3=>?_) (λh3=>?_)
   ·try simp only[D6] at h3
    refine Am 3 ?_
    iterate 9 refine Bo (s:=30) rfl rfl rfl ?_
    refine Am 20 ?_
    refine BO (?_:GC _ _ _ _)
    refine AU rfl ?_;refine AP 1 ?_;refine GC.ret (AQ 4 [] [] ?_)
    exact UU
   try simp only[D6] at h3
   refine Am 3 ?_;refine BJ (i:=30) rfl (λh4=>?_) (λh4=>?_)
   ·try simp only[D6] at h4
    exfalso;omega
   try simp only[D6] at h4
   refine Am 13 ?_;refine Ai (s:=42) rfl rfl rfl (Ea (EF (i:=0) rfl rfl Ei rfl)) ?_;refine Am 3 ?_;refine BJ (i:=47) rfl (λh5=>?_) (λh5=>?_)
   ·try simp only[D6] at h5
    refine Am 12 ?_
    refine BO (?_:GC _ _ _ _)
    refine AU rfl ?_;refine AP 1 ?_;refine GC.ret (AQ 4 [] [] ?_)
    exact UU
   try simp only[D6] at h5
   refine Am 1 ?_;refine Ai (s:=47) rfl rfl rfl (Ea (EF (i:=0) rfl rfl Ei rfl)) ?_;refine Am 3 ?_;refine BJ (i:=52) rfl (λh6=>?_) (λh6=>?_)
   ·try simp only[D6] at h6
    refine Am 7 ?_
    refine BO (?_:GC _ _ _ _)
    refine AU rfl ?_;refine AP 1 ?_;refine GC.ret (AQ 4 [] [] ?_)
    exact UU
   try simp only[D6] at h6
   refine Am 1 ?_;refine Ai (s:=52) rfl rfl rfl (Ea (EF (i:=0) rfl rfl G_ rfl)) ?_;refine Am 2 ?_;refine Ai (s:=52) rfl rfl rfl (Ea (EF (i:=1) rfl rfl Ei rfl)) ?_;refine Am 2 ?_
   refine BO (?_:GC _ _ _ _)
   refine Af ?_ ?_
   ·intro h7;try simp only[D6] at h7
    refine AP 1 ?_;refine GC.ret (AQ 4 [] [] ?_)
    exact UU
   intro h7;try simp only[D6] at h7
   refine GC.skip (?_:GC _ _ _ _)
   refine GC.region ?_;refine AA 1 ?_;refine AO rfl (EU rfl rfl (Fh (by omega) (by omega))) ?_;refine AA 1 ?_;refine Ac ?_
   exact λa w h=>⟨(_+1),(by omega),⟨by omega,by rw[he];exact V8 (by omega) (by unfold Q_;(try simp only[lastOf] at *);(try simp only[show ∀x:Nat,((x+1:Nat):Int) - 1=x by omega] at *);omega),by simp only[lastOf];omega⟩,h.cut (is:=[1]) (js:=[2]) ⟨rfl,rfl,rfl,trivial⟩ rfl rfl⟩
  skip
  refine Di (x:=.tmp 1) (y:=.const (.int .i64 (((k+1:Nat):Int) - 1))) (j:=2) rfl rfl rfl (by omega) (EW (by omega) (by omega)) (λp_xp Ve P6 aC=>?_)
  rcases Ve with⟨_,⟨_,⟨oH,Y5⟩⟩⟩
  refine BP Ef (by kernel_rfl) ?_;refine Am 1 ?_;refine GQ.step rfl (Ea (EF (i:=0) rfl rfl Ei rfl)) ?_;refine Am 2 ?_;refine BJ (i:=20) rfl (λh8=>?_) (λh8=>?_)
  ·try simp only[D6] at h8
   refine Am 10 ?_
   iterate 9 refine Bo (s:=30) rfl rfl rfl ?_
   refine Am 20 ?_
   refine BO (?_:GC _ _ _ _)
   refine AU rfl ?_;refine AP 1 ?_;refine GC.ret (AQ 4 [] [] ?_)
   exact UU
  try simp only[D6] at h8
  refine Am 1 ?_;refine Ai (s:=20) rfl rfl rfl (Ea (EF (i:=0) rfl rfl Ei rfl)) ?_;refine Am 1 ?_;refine Ai (s:=20) rfl rfl rfl (Ea (EF (i:=1) rfl rfl Ei rfl)) ?_;refine Am 3 ?_
  refine BJ (i:=27) rfl (λh9=>?_) (λh9=>?_)
  ·try simp only[D6] at h9
   refine Am 3 ?_
   iterate 9 refine Bo (s:=30) rfl rfl rfl ?_
   refine Am 20 ?_
   refine BO (?_:GC _ _ _ _)
   refine AU rfl ?_;refine AP 1 ?_;refine GC.ret (AQ 4 [] [] ?_)
   exact UU
  try simp only[D6] at h9
  refine Am 3 ?_;refine BJ (i:=30) rfl (λh10=>?_) (λh10=>?_)
  ·try simp only[D6] at h10
   refine Am 1 ?_;refine Ai (s:=30) rfl rfl rfl (Ea (EF (i:=0) rfl rfl Ei rfl)) ?_;refine Am 2 ?_;refine Ai (s:=30) rfl rfl rfl (EP (Jv rfl rfl (Fh (by omega) (by omega)))) ?_;refine Ai (s:=30) rfl rfl rfl (EP (Eb P6 rfl rfl Tryz.underlying58 Gs (by omega) (by omega))) ?_
   refine Ai (s:=30) rfl rfl rfl (EP (EM SI rfl)) ?_;refine Ai (s:=30) rfl rfl rfl (Ea (ES (i:=0) rfl rfl Ei rfl)) ?_;refine Am 4 ?_;refine BJ (i:=42) rfl (λh11=>?_) (λh11=>?_)
   ·try simp only[D6] at h11
    refine Am 17 ?_
    refine BO (?_:GC _ _ _ _)
    refine AU rfl ?_;refine AP 1 ?_;refine GC.ret (AQ 4 [] [] ?_)
    exact UU
   try simp only[D6] at h11
   refine Am 1 ?_;refine Ai (s:=42) rfl rfl rfl (Ea (EF (i:=0) rfl rfl Ei rfl)) ?_;refine Am 3 ?_;refine BJ (i:=47) rfl (λh12=>?_) (λh12=>?_)
   ·try simp only[D6] at h12
    refine Am 12 ?_
    refine BO (?_:GC _ _ _ _)
    refine AU rfl ?_;refine AP 1 ?_;refine GC.ret (AQ 4 [] [] ?_)
    exact UU
   try simp only[D6] at h12
   refine Am 1 ?_;refine Ai (s:=47) rfl rfl rfl (Ea (EF (i:=0) rfl rfl Ei rfl)) ?_;refine Am 3 ?_;refine BJ (i:=52) rfl (λh13=>?_) (λh13=>?_)
   ·try simp only[D6] at h13
    refine Am 7 ?_
    refine BO (?_:GC _ _ _ _)
    refine AU rfl ?_;refine AP 1 ?_;refine GC.ret (AQ 4 [] [] ?_)
    exact UU
   try simp only[D6] at h13
   refine Am 1 ?_;refine Ai (s:=52) rfl rfl rfl (Ea (EF (i:=0) rfl rfl G_ rfl)) ?_;refine Am 2 ?_;refine Ai (s:=52) rfl rfl rfl (Ea (EF (i:=1) rfl rfl Ei rfl)) ?_;refine Am 2 ?_
   refine BO (?_:GC _ _ _ _)
   refine Af ?_ ?_
   ·intro Nb;try simp only[D6] at Nb
    refine AP 1 ?_;refine GC.ret (AQ 4 [] [] ?_)
    exact UU
   intro Nb;try simp only[D6] at Nb
   refine GC.skip (?_:GC _ _ _ _)
   refine GC.region ?_;refine AA 1 ?_;refine AO rfl (EU rfl rfl (Fh (by omega) (by omega))) ?_;refine AA 1 ?_;refine Ac ?_
   exact λa w h=>⟨(_+1),(by omega),⟨by omega,by rw[he];exact V8 (by omega) (by unfold Q_;(try simp only[lastOf] at *);(try simp only[show ∀x:Nat,((x+1:Nat):Int) - 1=x by omega] at *);omega),by simp only[lastOf];omega⟩,h.cut (is:=[1]) (js:=[4]) ⟨rfl,rfl,rfl,trivial⟩ rfl rfl⟩
  try simp only[D6] at h10
  exfalso;omega
 intro h1;try simp only[D6] at h1
 refine GC.exit (?_:GC _ _ _ _)
 refine AP 1 ?_;refine GC.ret (AQ 4 [] [] ?_)
 exact UU
def put1(v:Sl)(p:F5):Sl:={ v with b:=laid v.b (p.at_ * v.sz).toNat p.data,vs:=laid v.vs p.at_.toNat [p.ver],last:=max v.last p.ver }
def Vm(v:Sl):List F5->Sl
 |[]=>v
 |p::r=>Vm (put1 v p) r
def NG(v:Sl)(l:List F5):Int×Sl:=if IC v.bl v.sz (-1) l=true then (0,Vm v l) else (50,v)
def fQ(bl sz:Int)(p:F5):Prop:=0<=p.at_/\p.at_<bl/\1<=p.ver/\p.ver<=4611686018427387904/\(p.data.length:Int)=sz
theorem TU{bl sz:Int}:∀{l:List F5} {last:Int},IC bl sz last l=true -> -1<=last->∀p∈l,fQ bl sz p
 |[],_,_,_,p,hp=>by cases hp
 |q::r,last,h,hl,p,hp=>by
  rw[IC] at h
  split at h
  ·cases h
  ·rename_i hb
   simp only[Q_] at hb
   rcases List.mem_cons.1 hp with rfl|hp
   ·simp only[fQ];omega
   ·exact TU h (by omega) p hp
theorem put1_ok{v:Sl}(h:Kv v){p:F5}(hp:fQ v.bl v.sz p):Kv (put1 v p):=by
 obtain⟨h0,h1,h2,h3,h4⟩:=hp
 have hB:=atB h.Jo h0 (n:=1) (by omega) (by omega)
 have e1:(p.at_+1) * v.sz=p.at_ * v.sz+v.sz:=by rw[Int.add_mul,Int.one_mul]
 have hl:=h.lb
 have hv:=h.lv
 have hla:=h.last
 exact(((h.last' (num:=max v.last p.ver) (by omega) (by omega)).setb (o:=(p.at_ * v.sz).toNat) (ys:=p.data) (by show _<=v.b.length;omega)).setv (o:=p.at_.toNat) (k:=1) (num:=p.ver) (by show _<=v.vs.length;omega) (by omega) h3)
theorem gt_mem{α:Type}[Inhabited α]{l:List α}{k:Nat}(h:k<l.length):gt l (k:Int)∈l:=by
 have:=EW (xs:=l) (i:=(k:Int)) (by omega) (by omega)
 exact List.mem_of_getElem? this
theorem qH{v u:Sl}{l:List F5}{k:Nat}(hk:k<l.length)(h:Vm v l=Vm u (l.drop k)):Vm v l=Vm (put1 u (gt l (k:Int))) (l.drop (k+1)):=by
 rw[h,Y4 hk];rfl
theorem patch_ct(p pb pv:Nat)(v:Sl)(A:Option Addr)(l:List F5)(cp:Nat)(hv:Kv v)(hl:l.length<=140737488355328):Ct Tryz.prog 191 [.pointer (some ⟨p,0,none⟩),.slice A l.length cp] (OJ p pb pv v) [D7.row GR A l]
    (λu G Q=>u=.int .i64 (NG v l).1/\G=OJ p pb pv (NG v l).2/\Q=[]):=by
 refine Ct.intro Tryz.func191 rfl rfl rfl (λc hc=>?_)
 refine AP 1 ?_;refine AB ?_;refine AV 1 ?_;refine Ah Tryz.call212 [0,0,0] [] rfl rfl rfl (by exact made_ct _ _ _ v) ?_
 rintro _ _ _ ⟨rfl,rfl,rfl⟩
 refine AL 1 ?_;refine AY rfl ?_
 refine GC.skip (?_:GC _ _ _ _)
 refine AB ?_;refine AV 2 ?_;refine Ah Tryz.call213 [0,0,0] [0] rfl rfl rfl (by exact laid_ct _ _ _ v _ _ _ hl) ?_
 rintro _ _ _ ⟨rfl,rfl,rfl⟩
 refine AL 1 ?_;refine Af ?_ ?_
 ·intro h1;try simp only[D6] at h1
  refine AP 1 ?_;refine GC.ret (AQ 4 [0,0,0] [] ?_)
  have e:NG v l=(50,v):=by simp[NG,h1]
  rw[e];exact⟨rfl,rfl,rfl⟩
 intro h1;try simp only[D6] at h1
 refine GC.skip (?_:GC _ _ _ _)
 refine AB ?_;refine AX ?_
 have hall:=TU h1 (by omega)
 refine AL 3 ?_;refine GC.block ?_;refine GC.imp (λa w h=>(⟨⟨by simp,rfl,hv,rfl,rfl⟩,h.ct [0,0,0] [0]⟩:(fun(y:Nat×Sl) (a:Act) (w:World)=>(y.1<=l.length/\Vm v l=Vm y.2 (l.drop y.1)/\Kv y.2/\y.2.bl=v.bl/\y.2.sz=v.sz)/\St c 44 [(0,.pointer (some ⟨p,0,none⟩)),(14,.slice A l.length cp),(15,.int .i64 (l.length:Int)),(16,.int .i64 (y.1:Int))] [.cells p [.int .i64 y.2.bl,.int .i64 y.2.sz,.slice (some ⟨pb,0,none⟩) (y.2.bl * y.2.sz).toNat (y.2.bl * y.2.sz).toNat,.slice (some ⟨pv,0,none⟩) y.2.bl.toNat y.2.bl.toNat,.int .i64 y.2.last] 287,.cells pb (y.2.b.map JE) 5,.cells pv (y.2.vs.map (Value.int .i64)) 3] [D7.row GR A l] a w) (0,v) a w)) (GC.loop (fun(y:Nat×Sl) (a:Act) (w:World)=>(y.1<=l.length/\Vm v l=Vm y.2 (l.drop y.1)/\Kv y.2/\y.2.bl=v.bl/\y.2.sz=v.sz)/\St c 44 [(0,.pointer (some ⟨p,0,none⟩)),(14,.slice A l.length cp),(15,.int .i64 (l.length:Int)),(16,.int .i64 (y.1:Int))] [.cells p [.int .i64 y.2.bl,.int .i64 y.2.sz,.slice (some ⟨pb,0,none⟩) (y.2.bl * y.2.sz).toNat (y.2.bl * y.2.sz).toNat,.slice (some ⟨pv,0,none⟩) y.2.bl.toNat y.2.bl.toNat,.int .i64 y.2.last] 287,.cells pb (y.2.b.map JE) 5,.cells pv (y.2.vs.map (Value.int .i64)) 3] [D7.row GR A l] a w) (λy=>l.length - y.1) (0,v) ?_)
 intro y
 refine GC.and λhk=>?_
 obtain⟨k,u⟩:=y
 dsimp only at hk ⊢
 obtain⟨hk,hput,hu,hbl,hsz⟩:=hk
 refine AP 1 ?_;refine AB ?_;refine Af ?_ ?_
 ·intro h2;try simp only[D6] at h2
  refine GC.skip (?_:GC _ _ _ _)
  refine AB ?_;refine GC.block ?_;refine AX ?_
  have hp:=hall _ (gt_mem (l:=l) (k:=k) (by omega))
  rw[<-hbl,<-hsz] at hp
  have hp2:=hp
  obtain⟨q0,q1,q2,q3,q4⟩:=hp
  have hB:=atB hu.Jo q0 (n:=1) (by omega) (by omega)
  have e1:((gt l (k:Int)).at_+1) * u.sz=(gt l (k:Int)).at_ * u.sz+u.sz:=by rw[Int.add_mul,Int.one_mul]
  have hlb:=hu.lb
  have hsh:=hu.Jo
  simp only[G5] at hsh
  have hv2:=hu.setb (o:=((gt l (k:Int)).at_ * u.sz).toNat) (ys:=(gt l (k:Int)).data) (by omega)
  refine GL.step rfl (Ej (i:=0) rfl rfl rfl rfl Tryz.underlying58 Gs (by(first|omega|(rw[seg_length (by omega)];omega)|(dsimp only;rw[seg_length (by omega)];omega)|(dsimp only;omega))) (EW (by(first|omega|(rw[seg_length (by omega)];omega)|(dsimp only;rw[seg_length (by omega)];omega)|(dsimp only;omega))) (by(first|omega|(rw[seg_length (by omega)];omega)|(dsimp only;rw[seg_length (by omega)];omega)|(dsimp only;omega))))) (Aa λp_x18=>Aa λVh=>GL.and λgQ=>?_)
  rcases Vh with⟨_,⟨_,⟨Ax18_0,nO⟩⟩⟩
  refine GL.step rfl (Ed rfl (FX (i:=0) rfl rfl RF (vs:=[_,_,_]) Gs ⟨rfl,rfl,rfl,trivial⟩)) ?_;refine GL.step rfl (EH rfl Je) (Aa λKr=>?_);refine Ar 0 ?_;refine Ap ?_
  refine AB ?_;refine CS (m:=7) (M:=λa w=>St c 44 [(0,.pointer (some ⟨p,0,none⟩)),(6,.pointer (some ⟨Kr,0,none⟩)),(14,.slice A l.length cp),(15,.int .i64 (l.length:Int)),(16,.int .i64 (k:Int))] [.cells p [.int .i64 u.bl,.int .i64 u.sz,.slice (some ⟨pb,0,none⟩) (u.bl * u.sz).toNat (u.bl * u.sz).toNat,.slice (some ⟨pv,0,none⟩) u.bl.toNat u.bl.toNat,.int .i64 u.last] 287,.cells pb ((laid u.b ((gt l (k:Int)).at_ * u.sz).toNat (gt l (k:Int)).data).map JE) 5,.cells pv (u.vs.map (Value.int .i64)) 3,.cells Kr [.int .i64 (gt l (k:Int)).at_,.int .i64 (gt l (k:Int)).ver,.slice Ax18_0 (gt l (k:Int)).data.length nO] 164] [D7.row GR A l] a w) (is:=[0,0,1]) (js:=[0,1,2]) Ef rfl rfl rfl ?_ ?_
  ·refine AZ 0 [0,0,1] [0,1,2] ?_;refine AZ 1 [0,0,1] [0,1,2] ?_;refine BA 2 rfl [0,0,1] [0,1,2] (i_mem (EF (i:=0) rfl rfl Ei rfl)) ?_;refine AZ 4 [0,0,1] [0,1,2] ?_;refine BA 5 rfl [0,0,1] [0,1,2] (i_mem (EF (i:=0) rfl rfl G_ rfl)) ?_
   refine Aw [3] ?_
   refine E8.cons (i:=3) rfl rfl (EI rfl Tryz.call214 rfl (is:=[1,1,1]) (js:=[]) rfl rfl (by exact at_ct _ _ _ u (gt l (k:Int)).at_ 1 hu (by omega) (by omega) (by omega))) (by rintro a w ⟨_,_,_,⟨rfl,rfl,rfl⟩,h⟩;exact h.me [3,0,1] [0,1,2]) (GA.ret ?_) Ag
   rintro _ _ _ ⟨rfl,rfl,rfl⟩
   refine Aw [6] ?_
   refine E8.cons (i:=6) rfl rfl (t_copyB (i:=1) (k:=1) rfl rfl rfl rfl rfl Tryz.underlying47 Fa (by(first|omega|(rw[seg_length (by omega)];omega)|(dsimp only;rw[seg_length (by omega)];omega)|(dsimp only;omega))) (by simp;(first|omega|(rw[seg_length (by omega)];omega)|(dsimp only;rw[seg_length (by omega)];omega)|(dsimp only;omega))) (laid_map _ _ _ _).symm rfl) (by rintro a w h;exact h.me [3,0,1] [0,1,2]) ?_ Ag
   exact BG (by kernel_rfl) (λa w h=>h.ct [0,0,0,0] [2])
  refine(?_:GC _ _ _ _)
  refine AV 2 ?_;refine Ad 3 ?_;refine AA 1 ?_;refine Ad 3 ?_;refine Ah Tryz.call215 [0,0,0] [] rfl rfl rfl (by exact stamp_ct _ _ _ _ (gt l (k:Int)).at_ 1 (gt l (k:Int)).ver hv2 (by omega) (by omega) (by show _<=u.bl;omega)) ?_
  rintro _ _ _ ⟨rfl,rfl,rfl⟩
  refine Ap ?_;refine CS (m:=11) (M:=λa w=>St c 44 [(0,.pointer (some ⟨p,0,none⟩)),(14,.slice A l.length cp),(15,.int .i64 (l.length:Int)),(16,.int .i64 (k:Int))] [.cells p [.int .i64 u.bl,.int .i64 u.sz,.slice (some ⟨pb,0,none⟩) (u.bl * u.sz).toNat (u.bl * u.sz).toNat,.slice (some ⟨pv,0,none⟩) u.bl.toNat u.bl.toNat,.int .i64 (max u.last (gt l (k:Int)).ver)] 287,.cells pb ((laid u.b ((gt l (k:Int)).at_ * u.sz).toNat (gt l (k:Int)).data).map JE) 5,.cells pv ((laid u.vs (gt l (k:Int)).at_.toNat [(gt l (k:Int)).ver]).map (Value.int .i64)) 3] [D7.row GR A l] a w) (is:=[1,1,1]) (js:=[0]) Ef rfl rfl rfl ?_ ?_
  ·refine AZ 0 [1,1,1] [0] ?_;refine AZ 1 [1,1,1] [0] ?_;refine AZ 2 [1,1,1] [0] ?_;refine AZ 3 [1,1,1] [0] ?_;refine AZ 5 [1,1,1] [0] ?_;refine BA 6 rfl [1,1,1] [0] (i_mem (EF (i:=2) rfl rfl Ei rfl)) ?_
   refine Aw [4] ?_
   refine E8.cons (i:=4) rfl rfl (Ed rfl (EF (i:=0) rfl rfl Ei rfl)) (by rintro a w h;exact h.me [1,1,1] [0]) ?_ Ag
   refine BA 7 rfl [1,1,1] [0] (EK (p_max2 rfl rfl)) ?_;refine AZ 8 [1,1,1] [0] ?_;refine AZ 9 [1,1,1] [0] ?_;refine Aw [10] ?_
   refine E8.cons (i:=10) rfl rfl (Et (i:=0) rfl rfl rfl rfl GV rfl rfl rfl) (by rintro a w h;exact h.me [1,1,1] [0]) ?_ Ag
   exact BG (by kernel_rfl) (λa w h=>h.ct [0,0,0] [0])
  refine(?_:GC _ _ _ _)
  refine GC.region ?_;refine AO rfl (EU rfl rfl (Fh (by(first|omega|(rw[seg_length (by omega)];omega)|(dsimp only;rw[seg_length (by omega)];omega)|(dsimp only;omega))) (by(first|omega|(rw[seg_length (by omega)];omega)|(dsimp only;rw[seg_length (by omega)];omega)|(dsimp only;omega))))) ?_
  refine AA 1 ?_;refine Ac ?_
  exact λa w h=>⟨(k+1,put1 u (gt l (k:Int))),(by simp only;omega),⟨by simp only;omega,qH (by omega) hput,put1_ok hu hp2,hbl,hsz⟩,h.ct [0,0,0] [0]⟩
 intro h2;try simp only[D6] at h2
 refine GC.exit (?_:GC _ _ _ _)
 refine AP 1 ?_;refine GC.ret (AQ 4 [0,0,0] [] ?_)
 have e:NG v l=(0,u):=by rw[List.drop_of_length_le (by omega)] at hput;simp only[NG,h1,if_true];rw[hput];rfl
 rw[e];exact⟨rfl,rfl,rfl⟩
def loadV(bl sz:Int)(l:List F5):Sl:=Vm (newV bl sz) l
theorem qI{bl sz:Int}{l:List F5}(hl:IC bl sz (-1) l=true):NG (newV bl sz) l=(0,loadV bl sz l):=by
 unfold NG;rw[if_pos (show IC (newV bl sz).bl (newV bl sz).sz (-1) l=true from hl)];rfl
theorem patch_no{v:Sl}{l:List F5}(hl:IC v.bl v.sz (-1) l=false):NG v l=(50,v):=by
 unfold NG;rw[if_neg (by rw[hl];simp)]
theorem Zy(p pb pv:Nat)(v:Sl)(A:Option Addr)(l:List F5)(cp:Nat)(hv:Kv v)(hl:l.length<=140737488355328)(e:Int)(v':Sl)(h:NG v l=(e,v')):Ct Tryz.prog 191 [.pointer (some ⟨p,0,none⟩),.slice A l.length cp] (OJ p pb pv v) [D7.row GR A l]
  (λu G Q=>u=.int .i64 e/\G=OJ p pb pv v'/\Q=[]):=by
 have:=patch_ct p pb pv v A l cp hv hl
 rw[h] at this;exact this
theorem load_bad(bl sz:Int)(A:Option Addr)(l:List F5)(cp:Nat)(h:¬G5 bl sz):Ct Tryz.prog 151 [Ua bl sz,.slice A l.length cp] [] [D7.row GR A l] (λv G Q=>v=.tuple #[.pointer none,.int .i64 40]/\G=[]/\Q=[]):=by
 refine Ct.intro Tryz.func151 rfl rfl rfl (λc hc=>?_)
 refine AX ?_;refine GL.step rfl (Ee rfl rfl rfl) (Aa λGm=>?_);refine AL 2 ?_;refine AX ?_;refine Az 0 2 ?_;refine Ah Tryz.call190 [] [] rfl rfl rfl (by exact new_bad _ _ h) ?_
 rintro _ _ _ ⟨rfl,rfl,rfl⟩
 refine AL 5 ?_;refine AB ?_;refine AP 2 ?_;refine AY rfl ?_
 refine GC.skip (?_:GC _ _ _ _)
 refine AB ?_;refine AP 2 ?_;refine AU rfl ?_;refine AP 3 ?_;refine GC.ret (BR 4 5 [] [] ?_)
 exact⟨rfl,rfl,rfl⟩
theorem load_no(bl sz:Int)(A:Option Addr)(l:List F5)(cp:Nat)(h:G5 bl sz)(hl:l.length<=140737488355328)(hn:IC bl sz (-1) l=false):Ct Tryz.prog 151 [Ua bl sz,.slice A l.length cp] [] [D7.row GR A l] (λv G Q=>v=.tuple #[.pointer none,.int .i64 50]/\G=[]/\Q=[]):=by
 refine Ct.intro Tryz.func151 rfl rfl rfl (λc hc=>?_)
 refine AX ?_;refine GL.step rfl (Ee rfl rfl rfl) (Aa λGm=>?_);refine AL 2 ?_;refine AX ?_;refine Az 0 2 ?_;refine Ah Tryz.call190 [] [] rfl rfl rfl (by exact new_ok _ _ h) ?_
 rintro _ _ _ ⟨p10,pb10,pv10,rfl,rfl,rfl⟩
 refine AL 5 ?_;refine AB ?_;refine AP 2 ?_;refine AU rfl ?_;refine GC.region ?_;refine AA 2 ?_;refine Ah Tryz.call191 [0,0,0] [0] rfl rfl rfl (by exact Zy _ _ _ (newV bl sz) _ _ _ (lq h) hl _ _ (patch_no hn)) ?_
 rintro _ _ _ ⟨rfl,rfl,rfl⟩
 refine AA 1 ?_
 refine Ac (?_:GC _ _ _ _)
 refine AB ?_;refine AP 2 ?_;refine AU rfl ?_;refine AP 3 ?_;refine GC.ret (BR 4 5 [] [] ?_)
 exact⟨rfl,rfl,rfl⟩
theorem load_ok(bl sz:Int)(A:Option Addr)(l:List F5)(cp:Nat)(h:G5 bl sz)(hl:l.length<=140737488355328)(hn:IC bl sz (-1) l=true):Ct Tryz.prog 151 [Ua bl sz,.slice A l.length cp] [] [D7.row GR A l] (λv G Q=>∃p pb pv,v=.tuple #[.pointer (some ⟨p,0,none⟩),.int .i64 0]/\G=OJ p pb pv (loadV bl sz l)/\Q=[]):=by
 refine Ct.intro Tryz.func151 rfl rfl rfl (λc hc=>?_)
 refine AX ?_;refine GL.step rfl (Ee rfl rfl rfl) (Aa λGm=>?_);refine AL 2 ?_;refine AX ?_;refine Az 0 2 ?_;refine Ah Tryz.call190 [] [] rfl rfl rfl (by exact new_ok _ _ h) ?_
 rintro _ _ _ ⟨p10,pb10,pv10,rfl,rfl,rfl⟩
 refine AL 5 ?_;refine AB ?_;refine AP 2 ?_;refine AU rfl ?_;refine GC.region ?_;refine AA 2 ?_;refine Ah Tryz.call191 [0,0,0] [0] rfl rfl rfl (by exact Zy _ _ _ (newV bl sz) _ _ _ (lq h) hl _ _ (qI hn)) ?_
 rintro _ _ _ ⟨rfl,rfl,rfl⟩
 refine AA 1 ?_
 refine Ac (?_:GC _ _ _ _)
 refine AB ?_;refine AP 2 ?_;refine AY rfl ?_
 refine GC.skip (?_:GC _ _ _ _)
 refine AP 3 ?_;refine GC.ret (BR 4 5 [0,0,0] [] ?_)
 exact⟨_,_,_,rfl,rfl,rfl⟩
def poly:BitVec 32:=0x82f63b78#32
def H8(s:BitVec 32):BitVec 32:=if s.getLsbD 0=true then (s >>> 1) ^^^ poly else s >>> 1
def nibT:List (BitVec 32):=[0x00000000#32,0x105ec76f#32,0x20bd8ede#32,0x30e349b1#32,0x417b1dbc#32,0x5125dad3#32,0x61c69362#32,0x7198540d#32,0x82f63b78#32,0x92a8fc17#32,0xa24bb5a6#32,0xb21572c9#32,0xc38d26c4#32,0xd3d3e1ab#32,0xe330a81a#32,0xf36e6f75#32]
def nibB(i:BitVec 32):BitVec 32:=nibT.getD i.toNat 0
theorem OO(a b:BitVec 32):H8 (a ^^^ b)=H8 a ^^^ H8 b:=by
 unfold H8
 rw[BitVec.getLsbD_xor,BitVec.ushiftRight_xor_distrib]
 have e:∀x:BitVec 32,poly ^^^ (x ^^^ poly)=x:=λx=>by rw[BitVec.xor_comm x,<-BitVec.xor_assoc,BitVec.xor_self,BitVec.zero_xor]
 cases a.getLsbD 0<;>cases b.getLsbD 0
 ·simp
 ·simp[BitVec.xor_assoc]
 ·simp only[Bool.xor_false,if_true,Bool.false_eq_true,if_false]
  rw[BitVec.xor_assoc,BitVec.xor_assoc,BitVec.xor_comm poly]
 ·simp only[Bool.xor_true,Bool.not_true,Bool.false_eq_true,if_false,if_true]
  rw[BitVec.xor_assoc,e]
theorem Oe{t:BitVec 32}(k:Nat)(h:t.toNat<2 ^ (32 - (k+1))):H8 (t <<< (k+1))=t <<< k:=by
 have h0:(t <<< (k+1)).getLsbD 0=false:=by simp
 unfold H8
 rw[h0]
 simp only[Bool.false_eq_true,if_false]
 apply BitVec.eq_of_toNat_eq
 have hk:k+1<=32\/32<k+1:=by omega
 rw[BitVec.toNat_ushiftRight,BitVec.toNat_shiftLeft,BitVec.toNat_shiftLeft,Nat.shiftLeft_eq,Nat.shiftLeft_eq,Nat.shiftRight_eq_div_pow]
 rcases hk with hk|hk
 ·have hp:2 ^ (32 - (k+1)) * 2 ^ (k+1)=2 ^ 32:=by rw[<-Nat.pow_add];congr 1;omega
  have h1:t.toNat * 2 ^ (k+1)<2 ^ 32:=by rw[<-hp];exact Nat.mul_lt_mul_of_pos_right h (Nat.pow_pos (by decide))
  have h2:t.toNat * 2 ^ k<2 ^ 32:=by
   refine Nat.lt_of_le_of_lt (Nat.mul_le_mul_left _ ?_) h1
   exact Nat.pow_le_pow_right (by decide) (by omega)
  rw[Nat.mod_eq_of_lt h1,Nat.mod_eq_of_lt h2,Nat.pow_succ,<-Nat.mul_assoc]
  simp
 ·have:t.toNat=0:=by
   rw[show 32 - (k+1)=0 by omega] at h
   omega
  rw[this];simp
theorem nib16:∀l:BitVec 4,H8 (H8 (H8 (H8 (l.zeroExtend 32))))=nibB (l.zeroExtend 32):=by decide +kernel
theorem aK(s:BitVec 32):(s >>> 4) ^^^ nibB (s &&& 15#32)=H8 (H8 (H8 (H8 s))):=by
 have hs:s=((s >>> 4) <<< 4) ^^^ (s &&& 15#32):=by
  apply BitVec.eq_of_getLsbD_eq
  intro i hi
  rw[BitVec.getLsbD_xor,BitVec.getLsbD_shiftLeft,BitVec.getLsbD_ushiftRight,BitVec.getLsbD_and]
  by_cases h4:i<4
  ·have:(15#32).getLsbD i=true:=by
    rcases(show i=0\/i=1\/i=2\/i=3 by omega) with rfl|rfl|rfl|rfl<;>decide
   simp[h4,this]
  ·have:(15#32).getLsbD i=false:=by
    have:(15#32).toNat<2 ^ 4:=by decide
    rw[<-BitVec.testBit_toNat]
    exact Nat.testBit_lt_two_pow (Nat.lt_of_lt_of_le this (Nat.pow_le_pow_right (by decide) (by omega)))
   rw[this,Bool.and_false,Bool.xor_false,show 4+(i - 4)=i by omega]
   simp[h4,hi]
 have ht:(s >>> 4).toNat<2 ^ 28:=by
  rw[BitVec.toNat_ushiftRight,Nat.shiftRight_eq_div_pow]
  have:=s.isLt
  omega
 have e4:H8 (H8 (H8 (H8 ((s >>> 4) <<< 4))))=s >>> 4:=by
  rw[Oe 3 ht,Oe 2 (Nat.lt_of_lt_of_le ht (by decide)),Oe 1 (Nat.lt_of_lt_of_le ht (by decide)),Oe 0 (Nat.lt_of_lt_of_le ht (by decide)),BitVec.shiftLeft_zero]
 have el:s &&& 15#32=((s.truncate 4:BitVec 4)).zeroExtend 32:=by
  apply BitVec.eq_of_toNat_eq
  simp
  have:s.toNat &&& 15=s.toNat % 2 ^ 4:=Nat.and_two_pow_sub_one_eq_mod s.toNat 4
  omega
 conv=>rhs;rw[hs]
 rw[OO,OO,OO,OO,e4,el,nib16]
def KX(s:BitVec 32)(b:UInt8):BitVec 32:=H8 (H8 (H8 (H8 (H8 (H8 (H8 (H8 (s ^^^ b.toBitVec.zeroExtend 32))))))))
def Rw(s:BitVec 32)(b:List UInt8):BitVec 32 := ~~~ (b.foldl KX (~~~ s))
theorem oh(s:BitVec 32):Ct Tryz.prog 225 [w32 s] [] [] (λu G Q=>u=w32 (H8 s)/\G=[]/\Q=[]):=by
 refine Ct.intro Tryz.func225 rfl rfl rfl (λc hc=>?_)
 refine AP 1 ?_;refine AB ?_;refine AV 1 ?_;refine AO rfl (Pn rfl rfl (by decide) rfl) ?_;refine AL 1 ?_;refine Af ?_ ?_
 ·intro h1;try simp only[D6] at h1
  refine AV 1 ?_;refine AO rfl (Z8 rfl rfl) ?_;refine AO rfl (Rh (b:=2197175160#32) rfl rfl) ?_;refine AL 1 ?_;refine GC.ret (AQ 2 [] [] ?_)
  have e:=(odd32 s).1 h1
  exact⟨by simp only[H8,e,if_true];rfl,rfl,rfl⟩
 intro h1;try simp only[D6] at h1
 refine GC.skip (?_:GC _ _ _ _)
 refine AV 1 ?_;refine AO rfl (Z8 rfl rfl) ?_;refine AL 1 ?_;refine GC.ret (AQ 2 [] [] ?_)
 have e:¬s.getLsbD 0=true:=λg=>h1 ((odd32 s).2 g)
 exact⟨by simp only[H8,if_neg e];rfl,rfl,rfl⟩
theorem nib_nth{x:BitVec 32}(h:x.toNat<16):nth (nibT.map w32) ((x.toNat:Int).toNat * 1)=some (w32 (nibB x)):=by
 rw[JG,List.getElem?_map,Nat.mul_one,Int.toNat_natCast]
 have hl:nibT.length=16:=rfl
 rw[List.getElem?_eq_getElem (by omega)]
 unfold nibB
 rw[List.getD_eq_getElem?_getD,List.getElem?_eq_getElem (by omega)]
 rfl
theorem nib_ct(x:BitVec 32)(h:x.toNat<16):Ct Tryz.prog 196 [w32 x] [] [] (λu G Q=>u=w32 (nibB x)/\G=[]/\Q=[]):=by
 refine Ct.intro Tryz.func196 rfl rfl rfl (λc hc=>?_)
 refine AP 1 ?_;refine AX ?_;refine AO rfl (p_buildA Tryz.underlying300 sz_27 ze_300 rfl rfl) ?_;refine AA 1 ?_;refine AO rfl (p_indexV rfl rfl Tryz.underlying300 sz_27 ag_27 (by omega) (by omega) (nib_nth h)) ?_
 refine AL 1 ?_;refine GC.ret (AQ 2 [] [] ?_)
 exact⟨rfl,rfl,rfl⟩
theorem and15(s:BitVec 32):(s &&& 15#32).toNat<16:=by
 have:(s &&& 15#32).toNat=s.toNat % 16:=by
  rw[BitVec.toNat_and];exact Nat.and_two_pow_sub_one_eq_mod s.toNat 4
 omega
theorem LP{α:Type}[Inhabited α]{l:List α}{k:Nat}(h:k<l.length):l.take (k+1)=l.take k++[gt l (k:Int)]:=by
 have:=EW (xs:=l) (i:=(k:Int)) (by omega) (by omega)
 simp only[Int.toNat_natCast] at this
 rw[List.take_add_one,this];rfl
theorem WU{l:List UInt8}{k:Nat}{s:BitVec 32}(h:k<l.length):(l.take (k+1)).foldl KX s=KX ((l.take k).foldl KX s) (gt l (k:Int)):=by
 rw[LP h,List.foldl_append];rfl
theorem more_ct(s:BitVec 32)(A:Option Addr)(l:List UInt8)(cp:Nat)(hl:l.length<=140737488355328):Ct Tryz.prog 157 [w32 s,.slice A l.length cp] [] [D7.row Kd.u8 A l] (λu G Q=>u=w32 (Rw s l)/\G=[]/\Q=[]):=by
 refine Ct.intro Tryz.func157 rfl rfl rfl (λc hc=>?_)
 refine AP 1 ?_;refine AV 1 ?_;refine AO rfl (Uy rfl) ?_;refine AL 1 ?_;refine AB ?_;refine AP 3 ?_;refine GC.block ?_;refine GC.imp (λa w h=>(⟨by simp,h.ct [] [0]⟩:(fun(k:Nat) (a:Act) (w:World)=>k<=l.length/\St c 35 [(1,.slice A l.length cp),(5,w32 ((l.take k).foldl KX (~~~ s))),(10,.slice A l.length cp),(11,.int .i64 (l.length:Int)),(12,.int .i64 (k:Int))] [] [D7.row Kd.u8 A l] a w) 0 a w)) (GC.loop (fun(k:Nat) (a:Act) (w:World)=>k<=l.length/\St c 35 [(1,.slice A l.length cp),(5,w32 ((l.take k).foldl KX (~~~ s))),(10,.slice A l.length cp),(11,.int .i64 (l.length:Int)),(12,.int .i64 (k:Int))] [] [D7.row Kd.u8 A l] a w) (λk=>l.length - k) 0 ?_)
 intro k
 refine GC.and λhk=>?_;refine AP 1 ?_;refine AB ?_;refine Af ?_ ?_
 ·intro h1;try simp only[D6] at h1
  refine GC.skip (?_:GC _ _ _ _)
  refine AB ?_;refine GC.block ?_;refine AX ?_;refine GL.step rfl (Ej (i:=0) rfl rfl rfl rfl Tryz.underlying47 Fa (by omega) (EW (by omega) (by omega))) (Aa λp_x14=>Aa λVk=>GL.and λgV=>?_)
  rcases Vk with _
  refine GL.step rfl (Ed rfl (ES (i:=0) rfl rfl Oa rfl)) ?_;refine AL 1 ?_;refine AV 2 ?_;refine AO rfl (lF (t:=5) (by rw[Tryz.underlying5];simp) Tryz.underlying27 rfl) ?_
  refine AO rfl (Rh rfl rfl) ?_;refine AL 1 ?_;refine AV 1 ?_;refine AO rfl (kZ 4 (by decide) rfl rfl) ?_;refine AA 1 ?_;refine AO rfl (lG (b:=15#32) rfl rfl) ?_;refine Ah Tryz.call196 [] [] rfl rfl rfl (by exact nib_ct _ (and15 _)) ?_
  rintro _ _ _ ⟨rfl,rfl,rfl⟩
  refine AO rfl (Rh rfl rfl) ?_;refine AL 1 ?_;refine GC.region ?_;refine AA 1 ?_;refine AO rfl (kZ 4 (by decide) rfl rfl) ?_;refine AA 1 ?_;refine AO rfl (lG (b:=15#32) rfl rfl) ?_
  refine Ah Tryz.call196 [] [] rfl rfl rfl (by exact nib_ct _ (and15 _)) ?_
  rintro _ _ _ ⟨rfl,rfl,rfl⟩
  refine AO rfl (Rh rfl rfl) ?_;refine AA 1 ?_
  refine Ac (?_:GC _ _ _ _)
  refine GC.region ?_;refine AO rfl (EU rfl rfl (Fh (by omega) (by omega))) ?_;refine AA 1 ?_;refine Ac ?_
  exact λa w h=>⟨(k+1),(by omega),(by omega),by rw[WU (by omega),KX,<-aK,<-aK];exact h.ct [] [1]⟩
 intro h1;try simp only[D6] at h1
 refine GC.exit (?_:GC _ _ _ _)
 refine AV 1 ?_;refine AO rfl (Uy rfl) ?_;refine AL 1 ?_;refine GC.ret (AQ 4 [] [] ?_)
 obtain rfl:k=l.length:=by omega
 exact⟨by rw[List.take_length];rfl,rfl,rfl⟩
def mW:Nat->BitVec 32->BitVec 32
 |0,s=>s
 |k+1,s=>H8 (mW k s)
theorem iter8(s:BitVec 32)(b:UInt8):mW 8 (s ^^^ b.toBitVec.zeroExtend 32)=KX s b:=rfl
theorem rmore_ct(s:BitVec 32)(A:Option Addr)(l:List UInt8)(cp:Nat)(hl:l.length<=140737488355328):Ct Tryz.prog 210 [w32 s,.slice A l.length cp] [] [D7.row Kd.u8 A l] (λu G Q=>u=w32 (Rw s l)/\G=[]/\Q=[]):=by
 refine Ct.intro Tryz.func210 rfl rfl rfl (λc hc=>?_)
 refine AP 1 ?_;refine AV 1 ?_;refine AO rfl (Uy rfl) ?_;refine AL 1 ?_;refine AB ?_;refine AP 1 ?_;refine GC.block ?_;refine GC.imp (λa w h=>(⟨by simp,h.ct [] [0]⟩:(fun(k:Nat) (a:Act) (w:World)=>k<=l.length/\St c 31 [(1,.slice A l.length cp),(5,w32 ((l.take k).foldl KX (~~~ s))),(6,.int .i64 (k:Int))] [] [D7.row Kd.u8 A l] a w) 0 a w)) (GC.loop (fun(k:Nat) (a:Act) (w:World)=>k<=l.length/\St c 31 [(1,.slice A l.length cp),(5,w32 ((l.take k).foldl KX (~~~ s))),(6,.int .i64 (k:Int))] [] [D7.row Kd.u8 A l] a w) (λk=>l.length - k) 0 ?_)
 intro k
 refine GC.and λhk=>?_;refine AB ?_;refine AP 4 ?_;refine Af ?_ ?_
 ·intro h1;try simp only[D6] at h1
  refine GC.skip (?_:GC _ _ _ _)
  refine AB ?_;refine GC.block ?_;refine AV 3 ?_;refine GL.step rfl (Ej (i:=0) rfl rfl rfl rfl Tryz.underlying47 Fa (by omega) (EW (by omega) (by omega))) (Aa λp_x19=>Aa λVg=>GL.and λgK=>?_)
  rcases Vg with _
  refine GL.step rfl (Ed rfl (ES (i:=0) rfl rfl Oa rfl)) ?_;refine AO rfl (lF (t:=5) (by rw[Tryz.underlying5];simp) Tryz.underlying27 rfl) ?_
  refine AO rfl (Rh rfl rfl) ?_;refine AL 1 ?_;refine AP 1 ?_;refine GC.block ?_;refine GC.imp (λa w h=>(⟨by simp,h.ct [] [1]⟩:(fun(j:Nat) (a:Act) (w:World)=>j<=8/\St c 31 [(1,.slice A l.length cp),(5,w32 (mW j (((l.take k).foldl KX (~~~ s)) ^^^ (gt l (k:Int)).toBitVec.zeroExtend 32))),(6,.int .i64 (k:Int)),(7,.int .i64 (j:Int))] [] [D7.row Kd.u8 A l] a w) 0 a w)) (GC.loop (fun(j:Nat) (a:Act) (w:World)=>j<=8/\St c 31 [(1,.slice A l.length cp),(5,w32 (mW j (((l.take k).foldl KX (~~~ s)) ^^^ (gt l (k:Int)).toBitVec.zeroExtend 32))),(6,.int .i64 (k:Int)),(7,.int .i64 (j:Int))] [] [D7.row Kd.u8 A l] a w) (λj=>8 - j) 0 ?_)
  intro j
  refine GC.and λhj=>?_;refine AB ?_;refine AP 2 ?_;refine Af ?_ ?_
  ·intro h2;try simp only[D6] at h2
   refine GC.skip (?_:GC _ _ _ _)
   refine AB ?_;refine GC.block ?_;refine GC.region ?_;refine AA 1 ?_;refine Ah Tryz.call225 [] [] rfl rfl rfl (by exact oh _) ?_
   rintro _ _ _ ⟨rfl,rfl,rfl⟩
   refine AA 1 ?_
   refine Ac (?_:GC _ _ _ _)
   refine GC.region ?_;refine AA 1 ?_;refine AO rfl (EU rfl rfl (Fh (by omega) (by omega))) ?_;refine AA 1 ?_;refine Ac ?_
   exact λa w h=>⟨(j+1),(by omega),(by omega),h.ct [] [0]⟩
  intro h2;try simp only[D6] at h2
  refine GC.exit (?_:GC _ _ _ _)
  refine GC.region ?_;refine AA 1 ?_;refine AO rfl (EU rfl rfl (Fh (by omega) (by omega))) ?_;refine AA 1 ?_;refine Ac ?_
  obtain rfl:j=8:=by omega
  exact λa w h=>⟨(k+1),(by omega),(by omega),by rw[WU (by omega),<-iter8];exact h.ct [] [0]⟩
 intro h1;try simp only[D6] at h1
 refine GC.exit (?_:GC _ _ _ _)
 refine AV 1 ?_;refine AO rfl (Uy rfl) ?_;refine AL 1 ?_;refine GC.ret (AQ 4 [] [] ?_)
 obtain rfl:k=l.length:=by omega
 exact⟨by rw[List.take_length];rfl,rfl,rfl⟩
theorem rmore0(A:Option Addr)(l:List UInt8)(cp:Nat)(hl:l.length<=140737488355328):Ct Tryz.prog 210 [.int .u32 0,.slice A l.length cp] [] [D7.row Kd.u8 A l] (λu G Q=>u=w32 (Rw 0#32 l)/\G=[]/\Q=[]):=by
 have h:=rmore_ct 0#32 A l cp hl
 rw[show w32 0#32=Value.int .u32 0 from rfl] at h
 exact h
theorem of_ct(A:Option Addr)(l:List UInt8)(cp:Nat)(hl:l.length<=140737488355328):Ct Tryz.prog 177 [.slice A l.length cp] [] [D7.row Kd.u8 A l] (λu G Q=>u=w32 (Rw 0#32 l)/\G=[]/\Q=[]):=by
 refine Ct.intro Tryz.func177 rfl rfl rfl (λc hc=>?_)
 refine AP 1 ?_;refine AV 1 ?_;refine Ah Tryz.call210 [] [0] rfl rfl rfl (by exact rmore0 _ _ _ hl) ?_
 rintro _ _ _ ⟨rfl,rfl,rfl⟩
 refine AL 1 ?_;refine GC.ret (AQ 2 [] [] ?_)
 exact⟨rfl,rfl,rfl⟩
theorem csum_ct(A:Option Addr)(b:List UInt8)(cp:Nat)(hl:b.length<=140737488355328):Ct Tryz.prog 103 [.slice A 1 cp] [] [D7.row Fz A [b]] (λu G Q=>u=w32 (Rw 0#32 b)/\G=[]/\Q=[]):=by
 have e1:([b]:List (List UInt8)).length=1:=rfl
 rw[<-e1]
 refine Ct.intro Tryz.func103 rfl rfl rfl (λc hc=>?_)
 refine AP 1 ?_;refine AP 1 ?_;refine AB ?_;refine AP 3 ?_;refine GC.block ?_;refine GC.imp (λa w h=>(⟨by simp,h.ct [] [0]⟩:(fun(k:Nat) (a:Act) (w:World)=>k<=1/\St c 17 [(3,w32 (if k=0 then 0#32 else Rw 0#32 b)),(6,.slice A ([b]:List (List UInt8)).length cp),(7,.int .i64 (([b]:List (List UInt8)).length:Int)),(8,.int .i64 (k:Int))] [] [D7.row Fz A [b]] a w) 0 a w)) (GC.loop (fun(k:Nat) (a:Act) (w:World)=>k<=1/\St c 17 [(3,w32 (if k=0 then 0#32 else Rw 0#32 b)),(6,.slice A ([b]:List (List UInt8)).length cp),(7,.int .i64 (([b]:List (List UInt8)).length:Int)),(8,.int .i64 (k:Int))] [] [D7.row Fz A [b]] a w) (λk=>1 - k) 0 ?_)
 intro k
 refine GC.and λhk=>?_;refine AP 1 ?_;refine AB ?_;refine Af ?_ ?_
 ·intro h1;try simp only[D6] at h1
  refine GC.skip (?_:GC _ _ _ _)
  refine AB ?_;refine GC.block ?_;refine AX ?_;refine GL.step rfl (Ej (i:=0) rfl rfl rfl rfl Tryz.underlying81 Ls (by omega) (EW (by omega) (by omega))) (Aa λp_x10=>Aa λZt=>GL.and λok_x10=>?_)
  rcases Zt with⟨Ax10_0,nS⟩
  refine GL.step rfl (Ed rfl (ES (i:=0) rfl rfl G_ rfl)) ?_;refine AL 1 ?_;refine GC.region ?_;refine AA 2 ?_
  have hk0:k=0:=by simp at h1;omega
  have hlk:(gt [b] (k:Int)).length<=140737488355328:=by subst hk0;exact hl
  refine Ah Tryz.call157 [] [1] rfl rfl rfl (by exact more_ct _ _ (gt [b] (k:Int)) _ hlk) ?_
  rintro _ _ _ ⟨rfl,rfl,rfl⟩
  refine AA 1 ?_
  refine Ac (?_:GC _ _ _ _)
  refine GC.region ?_;refine AO rfl (EU rfl rfl (Fh (by omega) (by omega))) ?_;refine AA 1 ?_;refine Ac ?_
  subst hk0
  exact λa w h=>⟨(0+1),(by omega),(by omega),h.ct [] [2]⟩
 intro h1;try simp only[D6] at h1
 refine GC.exit (?_:GC _ _ _ _)
 refine AP 2 ?_;refine GC.ret (AQ 2 [] [] ?_)
 obtain rfl:k=1:=by simp at h1;omega
 exact⟨rfl,rfl,rfl⟩
def isNum(n:Int):Bool:=decide (1<=n) && decide (n<=4611686018427387904)
theorem UN(n:Int):Ct Tryz.prog 228 [.int .i64 n] [] [] (λv G Q=>v=.bool (isNum n)/\G=[]/\Q=[]):=by
 refine Ct.intro Tryz.func228 rfl rfl rfl (λc hc=>?_)
 refine AP 1 ?_;refine AV 3 ?_;refine Ak 5 ?_ ?_
 ·intro h1;try simp only[D6] at h1
  refine AL 4 ?_;refine GC.ret (AQ 2 [] [] ?_)
  refine⟨congrArg Value.bool ?_,rfl,rfl⟩;simp[isNum];omega
 intro h1;try simp only[D6] at h1
 refine AL 4 ?_;refine GC.ret (AQ 2 [] [] ?_)
 refine⟨congrArg Value.bool ?_,rfl,rfl⟩;simp[isNum];omega
theorem tmade_ct(p m:Nat):Ct Tryz.prog 227 [.pointer (some ⟨p,0,none⟩)] [.cells p [.map (some m)] 293] [] (λv G Q=>v=.bool true/\G=[.cells p [.map (some m)] 293]/\Q=[]):=by
 refine Ct.intro Tryz.func227 rfl rfl rfl (λc hc=>?_)
 refine AP 1 ?_;refine AV 1 ?_;refine AO rfl (Vp Tryz.underlying222 rfl rfl) ?_;refine AA 4 ?_;refine Aj 0 ?_;refine Ba (s:=5) rfl rfl rfl (YX Tryz.underlying291 rfl rfl) ?_
 refine AL 2 ?_;refine GC.ret (AQ 2 [0] [] ?_)
 exact⟨rfl,rfl,rfl⟩
theorem own_ct(code:Int)(A:Option Addr)(xs:List UInt8)(cp:Nat)(hx:xs.length<=140737488351232):Ct Tryz.prog 217 [.agg #[.int .u8 code,.slice A xs.length cp]] [] [D7.row Kd.u8 A xs]
    (λv G Q=>∃A' cp',xs.length<=cp'/\cp'<=9223372036854775807/\v=.agg #[.int .u8 code,.slice A' xs.length cp']/\G=[.row (.slice A' xs.length cp') 5 1 xs.length (xs.map JE)]/\Q=[]):=by
 refine Ct.intro Tryz.func217 rfl rfl rfl (λc hc=>?_)
 refine AX ?_;refine GL.step rfl (Ee rfl rfl rfl) (Aa λIJ=>?_);refine GL.step rfl (EH rfl Ig) (Aa λGm=>?_);refine BL 1 ?_;refine Ad 1 ?_;refine Ah Tryz.call40 [] [0] rfl rfl rfl (by exact dB _ _ _ (by first|assumption|omega)) ?_
 rintro _ _ _ ⟨A5,cp5,l5,k5,rfl,rfl,rfl⟩
 refine AA 1 ?_;refine BI 2 ?_;refine Ap ?_;refine AX ?_;refine Az 2 2 ?_;refine Ar 1 ?_;refine Ap ?_;refine GC.ret (DC 2 52 1 2 [0] [] ?_)
 exact⟨_,_,by assumption,by assumption,rfl,rfl,rfl⟩
def Ko(T:List (Int×Last))(c s:Int):Int×J4×Int :=
 if isNum c=false\/isNum s=false then (0,rz,5)
 else match Jb T c with
  |none=>if (T.length:Int)=64 then (4,rz,0) else (1,rz,0)
  |some l=>if s > l.serial then (1,rz,0) else if s<l.serial then (3,rz,0) else (2,l.result,0)
def QD(T:List (Int×Last)):Prop:=∀k l,Jb T k=some l->l.result.data.length<=262144
abbrev ZT(p m:Nat)(es:Array MapEntry)(ck:Nat):List Own:=[.cells p [.map (some m)] 293,.blk m (.map es ck)]
abbrev resV'(v:Int)(r:J4)(A:Option Addr)(cp:Nat)(e:Int):Value:=.tuple #[.int .i64 v,.agg #[.int .u8 r.code,.slice A r.data.length cp],.int .i64 e]
theorem ask_ct(p m:Nat)(es:Array MapEntry)(ck:Nat)(T:List (Int×Last))(cl se:Int)(hT:QD T) :
    Ct Tryz.prog 216 [.pointer (some ⟨p,0,none⟩),.int .i64 cl,.int .i64 se] (ZT p m es ck) [D7.map Pz true T es ck]
      (λv G Q=>∃A cp,(Ko T cl se).2.1.data.length<=cp/\cp<=9223372036854775807/\v=resV' (Ko T cl se).1 (Ko T cl se).2.1 A cp (Ko T cl se).2.2/\G=ZT p m es ck/\Q=[D7.row Kd.u8 A (Ko T cl se).2.1.data]):=by
 refine Ct.intro Tryz.func216 rfl rfl rfl (λc hc=>?_)
 refine AV 1 ?_;refine GL.step rfl (EH rfl Ig) (Aa λjJ=>?_);refine AL 1 ?_;refine AB ?_;refine AV 1 ?_;refine Ah Tryz.call227 [1] [] rfl rfl rfl (by exact tmade_ct _ _) ?_
 rintro _ _ _ ⟨rfl,rfl,rfl⟩
 refine AL 1 ?_;refine AY rfl ?_
 refine GC.skip (?_:GC _ _ _ _)
 refine AB ?_;refine AV 1 ?_;refine Ah Tryz.call228 [] [] rfl rfl rfl (by exact UN _) ?_
 rintro _ _ _ ⟨rfl,rfl,rfl⟩
 refine AA 2 ?_;refine Ak 18 ?_ ?_
 ·intro h1;try simp only[D6] at h1
  refine AL 4 ?_;refine AU rfl ?_;refine AX ?_;refine AO rfl (ED Ig OU rfl rfl) ?_;refine AA 1 ?_;refine Ar 1 ?_;refine AL 1 ?_;refine GC.know (q:=D7.row Kd.u8 none []) (λ_ _ _=>.inl rfl) ?_
  refine GC.ret ?_
  refine λa w h=>Bf (rs:=[.tmp 6,.cell 7 52,.tmp 8]) (vs:=[_,_,_]) (is:=[0,1]) (js:=[0]) rfl ⟨rfl,⟨1,_,_,_,_,rfl,rfl,.inr ⟨[_,_],rfl,OZ,KI,⟨rfl,rfl,trivial⟩⟩⟩,rfl,trivial⟩ rfl rfl ?_ h
  clear h
  have e:Ko T cl se=(0,rz,5):=by simp[Ko, *]
  rw[e];exact⟨none,0,by simp[rz],by simp,rfl,rfl,rfl⟩
 intro h1;try simp only[D6] at h1
 refine AA 1 ?_;refine Au rfl (s:=18) rfl rfl (EI rfl Tryz.call228 rfl (is:=[]) (js:=[]) rfl rfl (by exact UN _)) (GL.ret ?_)
 rintro _ _ _ ⟨rfl,rfl,rfl⟩
 refine AL 2 ?_;refine Af ?_ ?_
 ·intro h2;try simp only[D6] at h2
  refine AX ?_;refine AO rfl (ED Ig OU rfl rfl) ?_;refine AA 1 ?_;refine Ar 1 ?_;refine AL 1 ?_;refine GC.know (q:=D7.row Kd.u8 none []) (λ_ _ _=>.inl rfl) ?_;refine GC.ret ?_
  refine λa w h=>Bf (rs:=[.tmp 6,.cell 7 52,.tmp 8]) (vs:=[_,_,_]) (is:=[0,1]) (js:=[0]) rfl ⟨rfl,⟨1,_,_,_,_,rfl,rfl,.inr ⟨[_,_],rfl,OZ,KI,⟨rfl,rfl,trivial⟩⟩⟩,rfl,trivial⟩ rfl rfl ?_ h
  clear h
  have e:Ko T cl se=(0,rz,5):=by simp[Ko, *]
  rw[e];exact⟨none,0,by simp[rz],by simp,rfl,rfl,rfl⟩
 intro h2;try simp only[D6] at h2
 refine GC.skip (?_:GC _ _ _ _)
 refine AV 3 ?_;refine Ad 0 ?_;refine AA 1 ?_
 refine GL.step rfl (t_lookup (i:=2) (j:=0) rfl rfl rfl rfl rfl Tryz.underlying291 Tryz.underlying3 YC zb_299) (GL.or (GL.and λn_m30=>?_) (Aa λu_m30=>Aa λr_m30=>GL.and λs_m30=>GL.and λok_m30=>?_))
 ·refine AA 3 ?_;refine GL.step rfl (EH rfl YC) (Aa λdF=>?_);refine Ar 0 ?_;refine AL 1 ?_;refine AB ?_;refine GC.block ?_;refine AV 6 ?_;refine Aj 1 ?_;refine Au rfl (s:=36) rfl rfl (Ed rfl (m_lenmap (i:=3) (j:=0) rfl rfl rfl Tryz.underlying291)) ?_
  refine AL 3 ?_;refine Af ?_ ?_
  ·intro h3;try simp only[D6] at h3
   refine AX ?_;refine AO rfl (ED Ig OU rfl rfl) ?_;refine AA 1 ?_;refine Ar 2 ?_;refine AL 1 ?_;refine GC.know (q:=D7.row Kd.u8 none []) (λ_ _ _=>.inl rfl) ?_;refine GC.ret ?_
   refine λa w h=>Bf (rs:=[.tmp 6,.cell 7 52,.tmp 8]) (vs:=[_,_,_]) (is:=[1,2]) (js:=[0]) rfl ⟨rfl,⟨2,_,_,_,_,rfl,rfl,.inr ⟨[_,_],rfl,OZ,KI,⟨rfl,rfl,trivial⟩⟩⟩,rfl,trivial⟩ rfl rfl ?_ h
   clear h
   have e:Ko T cl se=(4,rz,0):=by simp[Ko, *]
   rw[e];exact⟨none,0,by simp[rz],by simp,rfl,rfl,rfl⟩
  intro h3;try simp only[D6] at h3
  refine AP 9 ?_;refine AU rfl ?_;refine AX ?_;refine AO rfl (ED Ig OU rfl rfl) ?_;refine AA 1 ?_;refine Ar 2 ?_;refine AL 1 ?_;refine GC.know (q:=D7.row Kd.u8 none []) (λ_ _ _=>.inl rfl) ?_
  refine GC.ret ?_
  refine λa w h=>Bf (rs:=[.tmp 6,.cell 7 52,.tmp 8]) (vs:=[_,_,_]) (is:=[1,2]) (js:=[0]) rfl ⟨rfl,⟨2,_,_,_,_,rfl,rfl,.inr ⟨[_,_],rfl,OZ,KI,⟨rfl,rfl,trivial⟩⟩⟩,rfl,trivial⟩ rfl rfl ?_ h
  clear h
  have e:Ko T cl se=(1,rz,0):=by simp[Ko, *]
  rw[e];exact⟨none,0,by simp[rz],by simp,rfl,rfl,rfl⟩
 rcases r_m30 with⟨_,⟨_,⟨Am30_0,cpm30_0⟩⟩⟩
 refine AA 3 ?_;refine GL.step rfl (EH rfl YC) (Aa λdF=>?_);refine Ar 0 ?_;refine AL 1 ?_;refine AB ?_;refine GC.block ?_;refine AP 11 ?_;refine AY rfl ?_;refine AV 5 ?_
 refine Aj 0 ?_;refine AL 3 ?_;refine Af ?_ ?_
 ·intro h4;try simp only[D6] at h4
  refine AX ?_;refine AO rfl (ED Ig OU rfl rfl) ?_;refine AA 1 ?_;refine Ar 2 ?_;refine AL 1 ?_;refine GC.know (q:=D7.row Kd.u8 none []) (λ_ _ _=>.inl rfl) ?_;refine GC.ret ?_
  refine λa w h=>Bf (rs:=[.tmp 6,.cell 7 52,.tmp 8]) (vs:=[_,_,_]) (is:=[1,2]) (js:=[0]) rfl ⟨rfl,⟨2,_,_,_,_,rfl,rfl,.inr ⟨[_,_],rfl,OZ,KI,⟨rfl,rfl,trivial⟩⟩⟩,rfl,trivial⟩ rfl rfl ?_ h
  clear h
  have e:Ko T cl se=(1,rz,0):=by simp[Ko, *]
  rw[e];exact⟨none,0,by simp[rz],by simp,rfl,rfl,rfl⟩
 intro h4;try simp only[D6] at h4
 refine AV 2 ?_;refine Ad 0 ?_;refine AL 2 ?_;refine Af ?_ ?_
 ·intro h5;try simp only[D6] at h5
  refine AX ?_;refine AO rfl (ED Ig OU rfl rfl) ?_;refine AA 1 ?_;refine Ar 2 ?_;refine AL 1 ?_;refine GC.know (q:=D7.row Kd.u8 none []) (λ_ _ _=>.inl rfl) ?_;refine GC.ret ?_
  refine λa w h=>Bf (rs:=[.tmp 6,.cell 7 52,.tmp 8]) (vs:=[_,_,_]) (is:=[1,2]) (js:=[0]) rfl ⟨rfl,⟨2,_,_,_,_,rfl,rfl,.inr ⟨[_,_],rfl,OZ,KI,⟨rfl,rfl,trivial⟩⟩⟩,rfl,trivial⟩ rfl rfl ?_ h
  clear h
  have e:Ko T cl se=(3,rz,0):=by simp[Ko, *]
  rw[e];exact⟨none,0,by simp[rz],by simp,rfl,rfl,rfl⟩
 intro h5;try simp only[D6] at h5
 refine GC.skip (?_:GC _ _ _ _)
 refine AV 1 ?_;refine Az 0 2 ?_
 have hlen:=hT _ _ s_m30
 refine Ah Tryz.call217 [] [0] rfl rfl rfl (by exact own_ct _ _ _ _ (by first|omega|exact Nat.le_trans hlen (by decide))) ?_
 rintro _ _ _ ⟨A63,cp63,l63,k63,rfl,rfl,rfl⟩
 refine AA 1 ?_;refine Ar 3 ?_;refine GL.EN (i:=0) rfl ?_;refine AL 1 ?_;refine GC.ret ?_
 refine λa w h=>Bf (rs:=[.tmp 6,.cell 7 52,.tmp 8]) (vs:=[_,_,_]) (is:=[1,2]) (js:=[0]) rfl ⟨rfl,⟨2,_,_,_,_,rfl,rfl,.inr ⟨[_,_],rfl,OZ,KI,⟨rfl,rfl,trivial⟩⟩⟩,rfl,trivial⟩ rfl rfl ?_ h
 clear h
 have e:Ko T cl se=(2,u_m30.result,0):=by simp[Ko, *];rw[if_neg (by omega),if_neg (by omega)]
 rw[e];exact⟨_,_,l63,k63,rfl,rfl,rfl⟩
def Ic(code:Int)(n:Nat):Bool:=(decide (code=1\/code=4) && decide (n<=262144)) || (decide (code=2\/code=3) && decide (n=0))
theorem Qg{X:Prop}(h:X:=by(refine⟨congrArg (Value.int .i64) ?_,rfl,rfl⟩;first|(exfalso;omega)|(simp[Ic, *];done)|(simp[Ic, *];omega))):X:=h
theorem SV(code:Int)(A:Option Addr)(n cp:Nat):Ct Tryz.prog 88 [.agg #[.int .u8 code,.slice A n cp]] [] [] (λv G Q=>v=.int .i64 (if Ic code n then 0 else 42)/\G=[]/\Q=[]):=by
 refine Ct.intro Tryz.func88 rfl rfl rfl (λc hc=>?_)
 refine AX ?_;refine GL.step rfl (Ee rfl rfl rfl) (Aa λIJ=>?_);refine AL 1 ?_;refine AP 1 ?_;refine AB ?_;refine AV 1 ?_;refine Ad 0 ?_;refine Ap ?_;refine GC.block ?_;refine AB ?_
 refine AP 2 ?_;refine Af ?_ ?_
 ·intro h1;try simp only[D6] at h1
  refine GC.skip (?_:GC _ _ _ _)
  refine Af ?_ ?_
  ·intro h2;try simp only[D6] at h2
   refine GC.region ?_;refine AA 1 ?_;refine Ad 0 ?_;refine AA 3 ?_
   refine Ac (?_:GC _ _ _ _)
   refine AB ?_;refine AP 2 ?_;refine Af ?_ ?_
   ·intro h3;try simp only[D6] at h3
    refine AP 1 ?_;refine GC.ret (AQ 2 [] [] ?_)
    exact Qg
   intro h3;try simp only[D6] at h3
   refine GC.skip (?_:GC _ _ _ _)
   refine AP 1 ?_;refine GC.ret (AQ 2 [] [] ?_)
   exact Qg
  intro h2;try simp only[D6] at h2
  refine AB ?_;refine AP 2 ?_;refine Af ?_ ?_
  ·intro h4;try simp only[D6] at h4
   refine GC.skip (?_:GC _ _ _ _)
   refine Af ?_ ?_
   ·intro h5;try simp only[D6] at h5
    refine GC.region ?_;refine AA 1 ?_;refine Ad 0 ?_;refine AA 3 ?_
    refine Ac (?_:GC _ _ _ _)
    refine AB ?_;refine AP 2 ?_;refine Af ?_ ?_
    ·intro h6;try simp only[D6] at h6
     refine AP 1 ?_;refine GC.ret (AQ 2 [] [] ?_)
     exact Qg
    intro h6;try simp only[D6] at h6
    refine GC.skip (?_:GC _ _ _ _)
    refine AP 1 ?_;refine GC.ret (AQ 2 [] [] ?_)
    exact Qg
   intro h5;try simp only[D6] at h5
   refine GC.skip (?_:GC _ _ _ _)
   refine AB ?_;refine AP 2 ?_;refine AU rfl ?_;refine AP 1 ?_;refine GC.ret (AQ 2 [] [] ?_)
   exact Qg
  intro h4;try simp only[D6] at h4
  refine GC.region ?_;refine AA 2 ?_
  refine Ac (?_:GC _ _ _ _)
  refine Af ?_ ?_
  ·intro h7;try simp only[D6] at h7
   refine GC.region ?_;refine AA 1 ?_;refine Ad 0 ?_;refine AA 3 ?_
   refine Ac (?_:GC _ _ _ _)
   refine AB ?_;refine AP 2 ?_;refine Af ?_ ?_
   ·intro h8;try simp only[D6] at h8
    refine AP 1 ?_;refine GC.ret (AQ 2 [] [] ?_)
    exact Qg
   intro h8;try simp only[D6] at h8
   refine GC.skip (?_:GC _ _ _ _)
   refine AP 1 ?_;refine GC.ret (AQ 2 [] [] ?_)
   exact Qg
  intro h7;try simp only[D6] at h7
  refine GC.skip (?_:GC _ _ _ _)
  refine AB ?_;refine AP 2 ?_;refine AU rfl ?_;refine AP 1 ?_;refine GC.ret (AQ 2 [] [] ?_)
  exact Qg
 intro h1;try simp only[D6] at h1
 refine GC.region ?_;refine AA 2 ?_
 refine Ac (?_:GC _ _ _ _)
 refine Af ?_ ?_
 ·intro h9;try simp only[D6] at h9
  refine GC.region ?_;refine AA 1 ?_;refine Ad 0 ?_;refine AA 3 ?_
  refine Ac (?_:GC _ _ _ _)
  refine AB ?_;refine AP 2 ?_;refine Af ?_ ?_
  ·intro h10;try simp only[D6] at h10
   refine AP 1 ?_;refine GC.ret (AQ 2 [] [] ?_)
   exact Qg
  intro h10;try simp only[D6] at h10
  refine GC.skip (?_:GC _ _ _ _)
  refine AP 1 ?_;refine GC.ret (AQ 2 [] [] ?_)
  exact Qg
 intro h9;try simp only[D6] at h9
 refine AB ?_;refine AP 2 ?_;refine Af ?_ ?_
 ·intro h11;try simp only[D6] at h11
  refine GC.skip (?_:GC _ _ _ _)
  refine Af ?_ ?_
  ·intro h12;try simp only[D6] at h12
   refine GC.region ?_;refine AA 1 ?_;refine Ad 0 ?_;refine AA 3 ?_
   refine Ac (?_:GC _ _ _ _)
   refine AB ?_;refine AP 2 ?_;refine Af ?_ ?_
   ·intro h13;try simp only[D6] at h13
    refine AP 1 ?_;refine GC.ret (AQ 2 [] [] ?_)
    exact Qg
   intro h13;try simp only[D6] at h13
   refine GC.skip (?_:GC _ _ _ _)
   refine AP 1 ?_;refine GC.ret (AQ 2 [] [] ?_)
   exact Qg
  intro h12;try simp only[D6] at h12
  refine GC.skip (?_:GC _ _ _ _)
  refine AB ?_;refine AP 2 ?_;refine AU rfl ?_;refine AP 1 ?_;refine GC.ret (AQ 2 [] [] ?_)
  exact Qg
 intro h11;try simp only[D6] at h11
 refine GC.region ?_;refine AA 2 ?_
 refine Ac (?_:GC _ _ _ _)
 refine Af ?_ ?_
 ·intro Nb;try simp only[D6] at Nb
  refine GC.region ?_;refine AA 1 ?_;refine Ad 0 ?_;refine AA 3 ?_
  refine Ac (?_:GC _ _ _ _)
  refine AB ?_;refine AP 2 ?_;refine Af ?_ ?_
  ·intro h15;try simp only[D6] at h15
   refine AP 1 ?_;refine GC.ret (AQ 2 [] [] ?_)
   exact Qg
  intro h15;try simp only[D6] at h15
  refine GC.skip (?_:GC _ _ _ _)
  refine AP 1 ?_;refine GC.ret (AQ 2 [] [] ?_)
  exact Qg
 intro Nb;try simp only[D6] at Nb
 refine GC.skip (?_:GC _ _ _ _)
 refine AB ?_;refine AP 2 ?_;refine AU rfl ?_;refine AP 1 ?_;refine GC.ret (AQ 2 [] [] ?_)
 exact Qg
theorem EJ(b:Bool):((if b=true then (0:Int) else 42)=0)=(b=true):=by cases b<;>simp
def Nk(T:List (Int×Last))(c s:Int)(r:J4):Int×List (Int×Last) :=
 if (Ko T c s).2.2≠0 then ((Ko T c s).2.2,T)
 else if Ic r.code r.data.length=false then (60,T)
 else if (Ko T c s).1=4 then (3,T)
 else if (Ko T c s).1≠1 then (1,T)
 else (0,OB T c ⟨s,r⟩)
theorem TF{c:Int}{n:Nat}(h:Ic c n=true):n<=262144:=by
 simp[Ic] at h;omega
theorem put_ct(p m:Nat)(es:Array MapEntry)(ck:Nat)(T:List (Int×Last))(cl se:Int)(r:J4)(A:Option Addr)(cp:Nat)(hT:QD T) :
    Ct Tryz.prog 193 [.pointer (some ⟨p,0,none⟩),.int .i64 cl,.int .i64 se,.agg #[.int .u8 r.code,.slice A r.data.length cp]] (ZT p m es ck) [D7.map Pz true T es ck,D7.row Kd.u8 A r.data]
      (λv G Q=>∃es' Nv,v=.int .i64 (Nk T cl se r).1/\G=ZT p m es' Nv/\Q=[D7.map Pz true (Nk T cl se r).2 es' Nv]):=by
 refine Ct.intro Tryz.func193 rfl rfl rfl (λc hc=>?_)
 refine AX ?_;refine GL.step rfl (Ee rfl rfl rfl) (Aa λjJ=>?_);refine AL 1 ?_;refine AV 3 ?_;refine Ah Tryz.call216 [1,1] [0] rfl rfl rfl (by exact ask_ct _ _ _ _ _ _ _ hT) ?_
 rintro _ _ _ ⟨A16,r_,l16,m16,rfl,rfl,rfl⟩
 refine AA 4 ?_;refine GL.step rfl (EH rfl Ig) (Aa λb_t10=>?_);refine AA 1 ?_;refine Ar 0 ?_;refine AL 1 ?_;refine AB ?_;refine GC.block ?_;refine AP 3 ?_;refine Af ?_ ?_
 ·intro h1;try simp only[D6,EJ] at h1
  refine AP 2 ?_;refine GC.ret (AQ 8 [1,1] [1] ?_)
  refine⟨es,ck,congrArg (Value.int .i64) ?_,rfl,?_⟩<;>simp[Nk, *]
 intro h1;try simp only[D6,EJ] at h1
 refine AX ?_;refine Az 3 2 ?_;refine Ah Tryz.call88 [] [] rfl rfl rfl (by exact SV _ _ _ _) ?_
 rintro _ _ _ ⟨rfl,rfl,rfl⟩
 refine AL 2 ?_;refine Af ?_ ?_
 ·intro h2;try simp only[D6,EJ] at h2
  refine AP 1 ?_;refine GC.ret (AQ 8 [1,1] [1] ?_)
  refine⟨es,ck,congrArg (Value.int .i64) ?_,rfl,?_⟩<;>simp[Nk, *]
 intro h2;try simp only[D6,EJ] at h2
 refine AP 3 ?_;refine Af ?_ ?_
 ·intro h3;try simp only[D6,EJ] at h3
  refine AP 1 ?_;refine GC.ret (AQ 8 [1,1] [1] ?_)
  refine⟨es,ck,congrArg (Value.int .i64) ?_,rfl,?_⟩<;>simp[Nk, *]
 intro h3;try simp only[D6,EJ] at h3
 refine AP 3 ?_;refine Af ?_ ?_
 ·intro h4;try simp only[D6,EJ] at h4
  refine AP 1 ?_;refine GC.ret (AQ 8 [1,1] [1] ?_)
  refine⟨es,ck,congrArg (Value.int .i64) ?_,rfl,?_⟩<;>simp[Nk, *]
 intro h4;try simp only[D6,EJ] at h4
 refine GC.skip (?_:GC _ _ _ _)
 refine AB ?_;refine CS (m:=10) (M:=λa w=>∃es2:Array MapEntry,∃ck2:Nat,St c 43 [] [.cells p [.map (some m)] 293,.blk m (.map es2 ck2)] [D7.map Pz true (OB T cl ⟨se,r⟩) es2 ck2] a w) (is:=[0,0,1]) (js:=[0,1,2]) Ef rfl rfl rfl ?_ ?_
 ·refine AZ 0 [0,0,1] [0,1,2] ?_;refine AZ 1 [0,0,1] [0,1,2] ?_;refine AZ 2 [0,0,1] [0,1,2] ?_;refine BA 3 rfl [0,0,1] [0,1,2] (i_mem (EF (i:=1) rfl rfl ag_291 rfl)) ?_;refine AZ 4 [0,0,1] [0,1,2] ?_
  refine AZ 5 [0,0,1] [0,1,2] ?_;refine BA 6 rfl [0,0,1] [0,1,2] (i_mem (G7 (i:=2) rfl rfl OZ (vs:=[_,_]) KI ⟨rfl,rfl,trivial⟩)) ?_
  have hlen:r.data.length<=262144:=TF h2
  refine Aw [7] ?_
  refine E8.cons (i:=7) rfl rfl (EI rfl Tryz.call217 rfl (is:=[]) (js:=[2]) rfl rfl (by exact own_ct _ _ _ _ (by first|omega|exact Nat.le_trans hlen (by decide)))) (by rintro a w ⟨_,_,_,⟨A41,rZ,l41,k41,rfl,rfl,rfl⟩,h⟩;exact h.me [1,1,2] [0,1,2]) (GA.ret ?_) Ag
  rintro _ _ _ ⟨A41,rZ,l41,k41,rfl,rfl,rfl⟩
  refine BA 8 rfl [1,1,2] [0,1,2] (EK (ED YC of_299 rfl rfl)) ?_;refine GA.EN (i:=0) rfl ?_;refine Aw [9] ?_
  refine E8.cons (i:=9) rfl rfl (ZV (i:=2) (j:=2) (u:=(⟨se,r⟩:Last)) (r:=((),((),(A41,rZ)))) (js:=[0]) rfl rfl rfl rfl rfl ⟨trivial,trivial,l41,k41⟩ rfl Tryz.underlying291 Tryz.underlying3 (λ_ _=>rfl)) (by rintro a w ⟨_,_,h⟩;exact h.me [0,0,1] [2,3,4]) (BZ λes_mu10=>BZ λck_mu10=>?_) Ag
  exact BG (by kernel_rfl) (λa w h=>⟨_,_,h.cut (is:=[1,1]) (js:=[0]) trivial rfl rfl⟩)
 refine(?_:GC _ _ _ _)
 refine BQ λes2=>BQ λck2=>?_;refine AP 1 ?_;refine GC.ret (AQ 8 [0,0] [0] ?_)
 refine⟨es2,ck2,congrArg (Value.int .i64) ?_,rfl,?_⟩<;>simp[Nk, *]
theorem QD.put{T:List (Int×Last)}(h:QD T)(cl se:Int)(r:J4):QD (Nk T cl se r).2:=by
 unfold Nk
 split
 ·exact h
 ·split
  ·exact h
  ·rename_i hr
   split
   ·exact h
   ·split
    ·exact h
    ·intro k l hl
     by_cases hk:k=cl
     ·subst hk
      rw[V6] at hl
      simp only[Option.some.injEq] at hl
      subst hl
      exact TF (by simpa using hr)
     ·rw[Uc _ _ hk] at hl
      exact h k l hl
theorem jy:Ct Tryz.prog 192 [] [] [] (λv G Q=>∃p m,v=.pointer (some ⟨p,0,none⟩)/\G=ZT p m #[] 0/\Q=[D7.map Pz true [] #[] 0]):=by
 refine Ct.intro Tryz.func192 rfl rfl rfl (λc hc=>?_)
 refine AP 1 ?_;refine AX ?_;refine GL.step rfl (Xi rfl) (Aa λm_t1=>?_);refine AO rfl (ED ze_293 of_293 rfl rfl) ?_;refine GL.step rfl (Ee rfl rfl rfl) (Aa λFQ=>?_);refine AL 1 ?_
 refine GC.know (q:=D7.map Pz true [] #[] 0) (λ_ _ _=>⟨trivial,Stamped.nil⟩) ?_;refine GC.ret (AQ 0 [0,0] [0] ?_)
 exact⟨_,_,rfl,rfl,rfl⟩
theorem put_eq(p m:Nat)(es:Array MapEntry)(ck:Nat)(T:List (Int×Last))(cl se:Int)(r:J4)(A:Option Addr)(cp:Nat)(hT:QD T)(e:Int)(T':List (Int×Last))(he:Nk T cl se r=(e,T')) :
  Ct Tryz.prog 193 [.pointer (some ⟨p,0,none⟩),.int .i64 cl,.int .i64 se,.agg #[.int .u8 r.code,.slice A r.data.length cp]] (ZT p m es ck) [D7.map Pz true T es ck,D7.row Kd.u8 A r.data]
   (λv G Q=>∃es' Nv,v=.int .i64 e/\G=ZT p m es' Nv/\Q=[D7.map Pz true T' es' Nv]):=by
 have:=put_ct p m es ck T cl se r A cp hT
 rw[he] at this
 exact this
theorem QD.nil:QD []:=λk l h=>by simp[Jb] at h
theorem QD.one(c s:Int)(r:J4)(h:r.data.length<=262144):QD [(c,⟨s,r⟩)]:=λk l hl=>by
 simp only[Jb] at hl
 split at hl
 ·simp at hl;subst hl;exact h
 ·cases hl
theorem Ur(n:Int):Ct Tryz.prog 209 [.int .i64 n] [] [] (λv G Q=>v=.bool (isNum n)/\G=[]/\Q=[]):=by
 refine Ct.intro Tryz.func209 rfl rfl rfl (λc hc=>?_)
 refine AP 1 ?_;refine AV 3 ?_;refine Ak 5 ?_ ?_
 ·intro h1;try simp only[D6] at h1
  refine AL 4 ?_;refine GC.ret (AQ 2 [] [] ?_)
  refine⟨congrArg Value.bool ?_,rfl,rfl⟩;simp[isNum];omega
 intro h1;try simp only[D6] at h1
 refine AL 4 ?_;refine GC.ret (AQ 2 [] [] ?_)
 refine⟨congrArg Value.bool ?_,rfl,rfl⟩;simp[isNum];omega
theorem dQ{X:Prop}(h:X:=by(refine⟨congrArg (Value.int .i64) ?_,rfl,rfl⟩;first|(exfalso;omega)|(rw[if_pos (by simp[Ic];omega)])|(rw[if_neg (by simp[Ic];omega)]))):X:=h
theorem RU(code:Int)(A:Option Addr)(n cp:Nat):Ct Tryz.prog 120 [.agg #[.int .u8 code,.slice A n cp]] [] [] (λv G Q=>v=.int .i64 (if Ic code n then 0 else 42)/\G=[]/\Q=[]):=by
 refine Ct.intro Tryz.func120 rfl rfl rfl (λc hc=>?_)
 refine AX ?_;refine GL.step rfl (Ee rfl rfl rfl) (Aa λIJ=>?_);refine AL 1 ?_;refine AB ?_;refine AV 1 ?_;refine Ad 0 ?_;refine AA 2 ?_;refine Ak 6 ?_ ?_
 ·intro h1;try simp only[D6] at h1
  refine AL 10 ?_;refine AU rfl ?_;refine AP 1 ?_;refine GC.ret (AQ 2 [] [] ?_)
  exact dQ
 intro h1;try simp only[D6] at h1
 refine AA 1 ?_;refine Aj 0 ?_;refine AA 3 ?_;refine Ak 11 ?_ ?_
 ·intro h2;try simp only[D6] at h2
  refine AL 5 ?_;refine AU rfl ?_;refine AP 1 ?_;refine GC.ret (AQ 2 [] [] ?_)
  exact dQ
 intro h2;try simp only[D6] at h2
 refine AA 1 ?_;refine Aj 0 ?_;refine AL 3 ?_;refine Af ?_ ?_
 ·intro h3;try simp only[D6] at h3
  refine AP 1 ?_;refine GC.ret (AQ 2 [] [] ?_)
  exact dQ
 intro h3;try simp only[D6] at h3
 refine GC.skip (?_:GC _ _ _ _)
 refine AB ?_;refine AV 1 ?_;refine Ad 0 ?_;refine AA 3 ?_;refine Ak 21 ?_ ?_
 ·intro h4;try simp only[D6] at h4
  refine AA 1 ?_;refine Aj 0 ?_;refine AA 3 ?_;refine Ak 26 ?_ ?_
  ·intro h5;try simp only[D6] at h5
   refine AA 1 ?_;refine Aj 0 ?_;refine AL 2 ?_;refine Af ?_ ?_
   ·intro h6;try simp only[D6] at h6
    refine AP 1 ?_;refine GC.ret (AQ 2 [] [] ?_)
    exact dQ
   intro h6;try simp only[D6] at h6
   refine GC.skip (?_:GC _ _ _ _)
   refine AP 1 ?_;refine GC.ret (AQ 2 [] [] ?_)
   exact dQ
  intro h5;try simp only[D6] at h5
  refine AL 4 ?_;refine AY rfl ?_
  refine GC.skip (?_:GC _ _ _ _)
  refine AP 1 ?_;refine GC.ret (AQ 2 [] [] ?_)
  exact dQ
 intro h4;try simp only[D6] at h4
 refine AL 9 ?_;refine AY rfl ?_
 refine GC.skip (?_:GC _ _ _ _)
 refine AP 1 ?_;refine GC.ret (AQ 2 [] [] ?_)
 exact dQ
def rowOk(r:Row):Bool:=isNum r.client && isNum r.serial && Ic r.result.code r.result.data.length
def Rz:Int->List Row->Bool
 |_,[]=>true
 |b,r::l=>rowOk r && decide (b<r.client) && Rz r.client l
def Ie(l:List Row):Bool:=decide (l.length<=64) && Rz 0 l
def KR(l:List Row):Nat->Int
 |0=>0
 |k+1=>(gt l (k:Int)).client
theorem tdrop_gt{α:Type}[Inhabited α]{l:List α}{k:Nat}(h:k<l.length):l.drop k=gt l (k:Int)::l.drop (k+1):=by
 have:=EW (xs:=l) (i:=(k:Int)) (by omega) (by omega)
 simp only[Int.toNat_natCast] at this
 rw[List.drop_eq_getElem_cons h]
 rw[List.getElem?_eq_getElem h] at this
 simp only[Option.some.injEq] at this
 rw[this]
theorem QZ{l:List Row}{k:Nat}{b:Int}(h:k<l.length):Rz b (l.drop k)=(rowOk (gt l (k:Int)) && decide (b<(gt l (k:Int)).client) && Rz (gt l (k:Int)).client (l.drop (k+1))):=by
 rw[tdrop_gt h];rfl
theorem mZ{l:List Row}{k:Nat}{b:Int}(h:k<l.length)(h1:isNum (gt l (k:Int)).client=true)(h2:isNum (gt l (k:Int)).serial=true)(h3:Ic (gt l (k:Int)).result.code (gt l (k:Int)).result.data.length=true)(h4:b<(gt l (k:Int)).client):Rz b (l.drop k)=Rz (gt l (k:Int)).client (l.drop (k+1)):=by
 rw[QZ h,rowOk,h1,h2,h3,decide_eq_true h4];rfl
theorem NK{l:List Row}{k:Nat}{b:Int}(h:k<l.length)(h1:isNum (gt l (k:Int)).client=false\/isNum (gt l (k:Int)).serial=false\/¬Ic (gt l (k:Int)).result.code (gt l (k:Int)).result.data.length=true\/(gt l (k:Int)).client<=b):Rz b (l.drop k)=false:=by
 rw[QZ h,rowOk]
 rcases h1 with h1|h1|h1|h1
 ·simp[h1]
 ·simp[h1]
 ·simp[h1]
 ·simp[show ¬b<(gt l (k:Int)).client by omega]
theorem TV{n:Int}(h:isNum n=true):1<=n/\n<=4611686018427387904:=by simpa[isNum] using h
theorem right_ct(A:Option Addr)(l:List Row)(cp:Nat)(hl:l.length<=140737488355328):Ct Tryz.prog 175 [.slice A l.length cp] [] [D7.row Jz A l] (λu G Q=>u=.bool (Ie l)/\G=[]/\Q=[]):=by
 refine Ct.intro Tryz.func175 rfl rfl rfl (λc hc=>?_)
 refine AP 1 ?_;refine AB ?_;refine AP 3 ?_;refine Af ?_ ?_
 ·intro h1;try simp only[D6,EJ] at h1
  refine AP 1 ?_;refine GC.ret (AQ 2 [] [] ?_)
  exact⟨by rw[Ie,decide_eq_false (by omega)];rfl,rfl,rfl⟩
 intro h1;try simp only[D6,EJ] at h1
 refine GC.skip (?_:GC _ _ _ _)
 refine AB ?_;refine AP 1 ?_;refine GC.block ?_;refine Bd (ks:=[0]) (is:=[]) (js:=[0]) (fun(k:Nat)=>k<=l.length/\Rz 0 l=Rz (KR l k) (l.drop k)) (fun(k:Nat)=>[(3,.int .i64 (k:Int))]) (fun(k:Nat)=>[]) (fun(k:Nat)=>[]) (fun(k:Nat)=>l.length - k) (0) rfl rfl rfl (λa w h=>⟨⟨by omega,rfl⟩,h.Hf (is:=[]) (js:=[0]) (ks:=[0]) ⟨rfl,trivial⟩ rfl rfl rfl⟩) ?_
 intro k hk
 try dsimp only[List.cons_append,List.nil_append] at hk ⊢
 obtain⟨hk,he⟩:=hk
 refine AB ?_;refine AP 4 ?_;refine Af ?_ ?_
 ·intro h2;try simp only[D6,EJ] at h2
  refine GC.skip (?_:GC _ _ _ _)
  refine AB ?_;refine GC.block ?_;refine AB ?_
  rcases k with _|k
  ·skip
   refine BM (y:=.tmp 3) (j:=0) rfl rfl (by omega) (EW (by omega) (by omega)) (λp_x15 Vj iy gU=>?_)
   rcases Vj with⟨_,⟨_,⟨_,⟨Ax15_0,nP⟩⟩⟩⟩
   refine BM (y:=.tmp 3) (j:=2) rfl rfl (by omega) (EW (by omega) (by omega)) (λp_x23 Zq WL ok_x23=>?_)
   rcases Zq with⟨_,⟨_,⟨_,⟨Ax23_0,nM⟩⟩⟩⟩
   refine BM (y:=.tmp 3) (j:=4) rfl rfl (by omega) (EW (by omega) (by omega)) (λp_x35 Zp Yz ok_x35=>?_)
   rcases Zp with⟨_,⟨_,⟨_,⟨Ax35_0,cpx35_0⟩⟩⟩⟩
   refine BM (y:=.tmp 3) (j:=6) rfl rfl (by omega) (EW (by omega) (by omega)) (λZ4 Pg Q7 Vu=>?_)
   rcases Pg with⟨_,⟨_,⟨_,⟨jP,Y6⟩⟩⟩⟩
   refine BP Ef (by kernel_rfl) ?_;refine Am 2 ?_;refine GQ.step rfl (EP (Eb iy rfl rfl Tryz.underlying59 GY (by omega) (by omega))) ?_;refine GQ.step rfl (EP (EM NQ rfl)) ?_
   refine GQ.step rfl (Ea (ES (i:=6) rfl rfl Ei rfl)) ?_;refine GQ.step rfl (JU Tryz.call209 rfl (js:=[]) rfl (by exact Ur _)) ?_;refine Am 2 ?_;refine BJ (i:=20) rfl (λh3=>?_) (λh3=>?_)
   ·try simp only[D6,EJ] at h3
    refine Am 12 ?_
    iterate 12 refine Bo (s:=32) rfl rfl rfl ?_
    refine Am 11 ?_
    refine BO (?_:GC _ _ _ _)
    refine AU rfl ?_;refine AP 1 ?_;refine GC.ret (AQ 2 [] [] ?_)
    refine⟨?_,rfl,rfl⟩
    (try simp only[show ∀x:Nat,((x+1:Nat):Int) - 1=x by omega] at *)
    rw[Ie,he,NK (by omega) (by first|exact .inl (by assumption)|exact .inr (.inl (by assumption))|exact .inr (.inr (.inl (by assumption)))|exact .inr (.inr (.inr (by simp only[KR];omega))))]
    rw[Bool.and_false];rfl
   try simp only[D6,EJ] at h3
   refine Am 2 ?_;refine Ai (s:=20) rfl rfl rfl (EP (Eb WL rfl rfl Tryz.underlying59 GY (by omega) (by omega))) ?_;refine Ai (s:=20) rfl rfl rfl (EP (EM P9 rfl)) ?_
   refine Ai (s:=20) rfl rfl rfl (Ea (ES (i:=4) rfl rfl Ei rfl)) ?_;refine Ai (s:=20) rfl rfl rfl (JU Tryz.call209 rfl (js:=[]) rfl (by exact Ur _)) ?_;refine Am 3 ?_;refine BJ (i:=29) rfl (λh4=>?_) (λh4=>?_)
   ·try simp only[D6,EJ] at h4
    refine Am 3 ?_
    iterate 12 refine Bo (s:=32) rfl rfl rfl ?_
    refine Am 11 ?_
    refine BO (?_:GC _ _ _ _)
    refine AU rfl ?_;refine AP 1 ?_;refine GC.ret (AQ 2 [] [] ?_)
    refine⟨?_,rfl,rfl⟩
    (try simp only[show ∀x:Nat,((x+1:Nat):Int) - 1=x by omega] at *)
    rw[Ie,he,NK (by omega) (by first|exact .inl (by assumption)|exact .inr (.inl (by assumption))|exact .inr (.inr (.inl (by assumption)))|exact .inr (.inr (.inr (by simp only[KR];omega))))]
    rw[Bool.and_false];rfl
   try simp only[D6,EJ] at h4
   refine Am 3 ?_;refine BJ (i:=32) rfl (λh5=>?_) (λh5=>?_)
   ·try simp only[D6,EJ] at h5
    exfalso;omega
   try simp only[D6,EJ] at h5
   refine Am 17 ?_;refine Ai (s:=47) rfl rfl rfl (EP (Eb Q7 rfl rfl Tryz.underlying59 GY (by omega) (by omega))) ?_;refine Ai (s:=47) rfl rfl rfl (EP (EM P8 rfl)) ?_
   refine Ai (s:=47) rfl rfl rfl (Ea (FX (i:=0) rfl rfl OZ (vs:=[_,_]) KI ⟨rfl,rfl,trivial⟩)) ?_;refine Ai (s:=47) rfl rfl rfl (JU Tryz.call120 rfl (js:=[]) rfl (by exact RU _ _ _ _)) ?_
   refine Am 2 ?_
   refine BO (?_:GC _ _ _ _)
   refine Af ?_ ?_
   ·intro h6;try simp only[D6,EJ] at h6
    refine AP 1 ?_;refine GC.ret (AQ 2 [] [] ?_)
    refine⟨?_,rfl,rfl⟩
    (try simp only[show ∀x:Nat,((x+1:Nat):Int) - 1=x by omega] at *)
    rw[Ie,he,NK (by omega) (by first|exact .inl (by assumption)|exact .inr (.inl (by assumption))|exact .inr (.inr (.inl (by assumption)))|exact .inr (.inr (.inr (by simp only[KR];omega))))]
    rw[Bool.and_false];rfl
   intro h6;try simp only[D6,EJ] at h6
   refine GC.skip (?_:GC _ _ _ _)
   refine GC.region ?_;refine AA 1 ?_;refine AO rfl (EU rfl rfl (Fh (by omega) (by omega))) ?_;refine AA 1 ?_;refine Ac ?_
   (try simp only[show ∀x:Nat,((x+1:Nat):Int) - 1=x by omega] at *)
   exact λa w h=>⟨(_+1),(by omega),⟨by omega,by rw[he,mZ (by omega) (by assumption) (by assumption) (by assumption) (by first|(have:=TV (by assumption:isNum (gt l ((0:Nat):Int)).client=true);simp only[KR];omega)|(simp only[KR];omega))];rfl⟩,h.cut (is:=[]) (js:=[8]) ⟨rfl,rfl,trivial⟩ rfl rfl⟩
  skip
  refine Di (x:=.tmp 0) (y:=.const (.int .i64 (((k+1:Nat):Int) - 1))) (j:=0) rfl rfl rfl (by omega) (EW (by omega) (by omega)) (λp_xp Ve P6 aC=>?_)
  rcases Ve with⟨_,⟨_,⟨_,⟨oH,Y5⟩⟩⟩⟩
  refine BM (y:=.tmp 3) (j:=2) rfl rfl (by omega) (EW (by omega) (by omega)) (λp_x15 Vj iy gU=>?_)
  rcases Vj with⟨_,⟨_,⟨_,⟨Ax15_0,nP⟩⟩⟩⟩
  refine BM (y:=.tmp 3) (j:=4) rfl rfl (by omega) (EW (by omega) (by omega)) (λp_x23 Zq WL ok_x23=>?_)
  rcases Zq with⟨_,⟨_,⟨_,⟨Ax23_0,nM⟩⟩⟩⟩
  refine BM (y:=.tmp 3) (j:=6) rfl rfl (by omega) (EW (by omega) (by omega)) (λp_x35 Zp Yz ok_x35=>?_)
  rcases Zp with⟨_,⟨_,⟨_,⟨Ax35_0,cpx35_0⟩⟩⟩⟩
  refine BM (y:=.tmp 3) (j:=8) rfl rfl (by omega) (EW (by omega) (by omega)) (λZ4 Pg Q7 Vu=>?_)
  rcases Pg with⟨_,⟨_,⟨_,⟨jP,Y6⟩⟩⟩⟩
  refine BP Ef (by kernel_rfl) ?_;refine Am 2 ?_;refine GQ.step rfl (EP (Eb iy rfl rfl Tryz.underlying59 GY (by omega) (by omega))) ?_;refine GQ.step rfl (EP (EM NQ rfl)) ?_
  refine GQ.step rfl (Ea (ES (i:=6) rfl rfl Ei rfl)) ?_;refine GQ.step rfl (JU Tryz.call209 rfl (js:=[]) rfl (by exact Ur _)) ?_;refine Am 2 ?_;refine BJ (i:=20) rfl (λh7=>?_) (λh7=>?_)
  ·try simp only[D6,EJ] at h7
   refine Am 12 ?_
   iterate 12 refine Bo (s:=32) rfl rfl rfl ?_
   refine Am 11 ?_
   refine BO (?_:GC _ _ _ _)
   refine AU rfl ?_;refine AP 1 ?_;refine GC.ret (AQ 2 [] [] ?_)
   refine⟨?_,rfl,rfl⟩
   (try simp only[show ∀x:Nat,((x+1:Nat):Int) - 1=x by omega] at *)
   rw[Ie,he,NK (by omega) (by first|exact .inl (by assumption)|exact .inr (.inl (by assumption))|exact .inr (.inr (.inl (by assumption)))|exact .inr (.inr (.inr (by simp only[KR];omega))))]
   rw[Bool.and_false];rfl
  try simp only[D6,EJ] at h7
  refine Am 2 ?_;refine Ai (s:=20) rfl rfl rfl (EP (Eb WL rfl rfl Tryz.underlying59 GY (by omega) (by omega))) ?_;refine Ai (s:=20) rfl rfl rfl (EP (EM P9 rfl)) ?_
  refine Ai (s:=20) rfl rfl rfl (Ea (ES (i:=4) rfl rfl Ei rfl)) ?_;refine Ai (s:=20) rfl rfl rfl (JU Tryz.call209 rfl (js:=[]) rfl (by exact Ur _)) ?_;refine Am 3 ?_;refine BJ (i:=29) rfl (λh8=>?_) (λh8=>?_)
  ·try simp only[D6,EJ] at h8
   refine Am 3 ?_
   iterate 12 refine Bo (s:=32) rfl rfl rfl ?_
   refine Am 11 ?_
   refine BO (?_:GC _ _ _ _)
   refine AU rfl ?_;refine AP 1 ?_;refine GC.ret (AQ 2 [] [] ?_)
   refine⟨?_,rfl,rfl⟩
   (try simp only[show ∀x:Nat,((x+1:Nat):Int) - 1=x by omega] at *)
   rw[Ie,he,NK (by omega) (by first|exact .inl (by assumption)|exact .inr (.inl (by assumption))|exact .inr (.inr (.inl (by assumption)))|exact .inr (.inr (.inr (by simp only[KR];omega))))]
   rw[Bool.and_false];rfl
  try simp only[D6,EJ] at h8
  refine Am 3 ?_;refine BJ (i:=32) rfl (λh9=>?_) (λh9=>?_)
  ·try simp only[D6,EJ] at h9
   refine Am 2 ?_;refine Ai (s:=32) rfl rfl rfl (EP (Eb Yz rfl rfl Tryz.underlying59 GY (by omega) (by omega))) ?_;refine Ai (s:=32) rfl rfl rfl (EP (EM NQ rfl)) ?_
   refine Ai (s:=32) rfl rfl rfl (Ea (ES (i:=2) rfl rfl Ei rfl)) ?_;refine Am 2 ?_;refine Ai (s:=32) rfl rfl rfl (EP (Jv rfl rfl (Fh (by omega) (by omega)))) ?_;refine Ai (s:=32) rfl rfl rfl (EP (Eb P6 rfl rfl Tryz.underlying59 GY (by omega) (by omega))) ?_
   refine Ai (s:=32) rfl rfl rfl (EP (EM NQ rfl)) ?_;refine Ai (s:=32) rfl rfl rfl (Ea (ES (i:=8) rfl rfl Ei rfl)) ?_;refine Am 4 ?_;refine BJ (i:=47) rfl (λh10=>?_) (λh10=>?_)
   ·try simp only[D6,EJ] at h10
    refine Am 8 ?_
    refine BO (?_:GC _ _ _ _)
    refine AU rfl ?_;refine AP 1 ?_;refine GC.ret (AQ 2 [] [] ?_)
    refine⟨?_,rfl,rfl⟩
    (try simp only[show ∀x:Nat,((x+1:Nat):Int) - 1=x by omega] at *)
    rw[Ie,he,NK (by omega) (by first|exact .inl (by assumption)|exact .inr (.inl (by assumption))|exact .inr (.inr (.inl (by assumption)))|exact .inr (.inr (.inr (by simp only[KR];omega))))]
    rw[Bool.and_false];rfl
   try simp only[D6,EJ] at h10
   refine Am 2 ?_;refine Ai (s:=47) rfl rfl rfl (EP (Eb Q7 rfl rfl Tryz.underlying59 GY (by omega) (by omega))) ?_;refine Ai (s:=47) rfl rfl rfl (EP (EM P8 rfl)) ?_
   refine Ai (s:=47) rfl rfl rfl (Ea (FX (i:=0) rfl rfl OZ (vs:=[_,_]) KI ⟨rfl,rfl,trivial⟩)) ?_;refine Ai (s:=47) rfl rfl rfl (JU Tryz.call120 rfl (js:=[]) rfl (by exact RU _ _ _ _)) ?_
   refine Am 2 ?_
   refine BO (?_:GC _ _ _ _)
   refine Af ?_ ?_
   ·intro h11;try simp only[D6,EJ] at h11
    refine AP 1 ?_;refine GC.ret (AQ 2 [] [] ?_)
    refine⟨?_,rfl,rfl⟩
    (try simp only[show ∀x:Nat,((x+1:Nat):Int) - 1=x by omega] at *)
    rw[Ie,he,NK (by omega) (by first|exact .inl (by assumption)|exact .inr (.inl (by assumption))|exact .inr (.inr (.inl (by assumption)))|exact .inr (.inr (.inr (by simp only[KR];omega))))]
    rw[Bool.and_false];rfl
   intro h11;try simp only[D6,EJ] at h11
   refine GC.skip (?_:GC _ _ _ _)
   refine GC.region ?_;refine AA 1 ?_;refine AO rfl (EU rfl rfl (Fh (by omega) (by omega))) ?_;refine AA 1 ?_;refine Ac ?_
   (try simp only[show ∀x:Nat,((x+1:Nat):Int) - 1=x by omega] at *)
   exact λa w h=>⟨(_+1),(by omega),⟨by omega,by rw[he,mZ (by omega) (by assumption) (by assumption) (by assumption) (by first|(have:=TV (by assumption:isNum (gt l ((0:Nat):Int)).client=true);simp only[KR];omega)|(simp only[KR];omega))];rfl⟩,h.cut (is:=[]) (js:=[10]) ⟨rfl,rfl,trivial⟩ rfl rfl⟩
  try simp only[D6,EJ] at h9
  exfalso;omega
 intro h2;try simp only[D6,EJ] at h2
 refine GC.exit (?_:GC _ _ _ _)
 refine AP 1 ?_;refine GC.ret (AQ 2 [] [] ?_)
 exact⟨by rw[Ie,he,List.drop_of_length_le (by omega),decide_eq_true (by omega)];rfl,rfl,rfl⟩
theorem IV(r s:J4):Og r s=decide (r=s):=by
 cases r;cases s;simp[Og]
theorem row_ext{r s:Row}(h1:r.client=s.client)(h2:r.serial=s.serial)(h3:r.result=s.result):r=s:=by
 cases r;cases s;simp_all
theorem gt_ne{α:Type}[Inhabited α]{a b:List α}{k:Int}(h:gt a k≠gt b k):a≠b:=λe=>h (by rw[e])
theorem aS{α:Type}[Inhabited α]{a b:List α}(hl:a.length=b.length)(h:∀j:Nat,j<a.length->gt a (j:Int)=gt b (j:Int)):a=b:=by
 apply List.ext_getElem hl
 intro i h1 h2
 have g1:=EW (xs:=a) (i:=(i:Int)) (by omega) (by omega)
 have g2:=EW (xs:=b) (i:=(i:Int)) (by omega) (by omega)
 simp only[Int.toNat_natCast,List.getElem?_eq_getElem h1,List.getElem?_eq_getElem h2,Option.some.injEq] at g1 g2
 rw[g1,g2,h i h1]
theorem dP{X:Prop}(h:X:=by(exact⟨congrArg Value.bool (decide_eq_false λe=>by subst e;omega).symm,rfl,rfl⟩)):X:=h
theorem Xa{X:Prop}(h:X:=by(exact⟨congrArg Value.bool (decide_eq_false (gt_ne (k:=(k:Int)) λe=>by simp_all)).symm,rfl,rfl⟩)):X:=h
theorem ZL{X:Prop}(h:X:=by(exact⟨congrArg Value.bool (decide_eq_true (aS (by omega) λj hj=>he j (by omega))).symm,rfl,rfl⟩)):X:=h
theorem rsame_ct(A:Option Addr)(a_:List Row)(cp:Nat)(B:Option Addr)(b_:List Row)(cq:Nat)(hl:a_.length<=140737488355328):Ct Tryz.prog 52 [.slice A a_.length cp,.slice B b_.length cq] [] [D7.row Jz A a_,D7.row Jz B b_] (λu G Q=>u=.bool (decide (a_=b_))/\G=[]/\Q=[]):=by
 refine Ct.intro Tryz.func52 rfl rfl rfl (λc hc=>?_)
 refine AP 1 ?_;refine AB ?_;refine AP 5 ?_;refine Af ?_ ?_
 ·intro h1;try simp only[D6,IV] at h1
  refine AP 1 ?_;refine GC.ret (AQ 4 [] [] ?_)
  exact dP
 intro h1;try simp only[D6,IV] at h1
 refine GC.skip (?_:GC _ _ _ _)
 refine AB ?_;refine AP 1 ?_;refine GC.block ?_;refine Bd (ks:=[0,1]) (is:=[]) (js:=[0,1]) (fun(k:Nat)=>k<=a_.length/\∀j:Nat,j<k->gt a_ (j:Int)=gt b_ (j:Int)) (fun(k:Nat)=>[(5,.int .i64 (k:Int))]) (fun(k:Nat)=>[]) (fun(k:Nat)=>[]) (fun(k:Nat)=>a_.length - k) (0) rfl rfl rfl (λa w h=>⟨⟨by omega,λj hj=>by omega⟩,h.Hf (is:=[]) (js:=[0,1]) (ks:=[0,1]) ⟨rfl,trivial⟩ rfl rfl rfl⟩) ?_
 intro k hk
 try dsimp only[List.cons_append,List.nil_append] at hk ⊢
 obtain⟨hk,he⟩:=hk
 refine AB ?_;refine AP 4 ?_;refine Af ?_ ?_
 ·intro h2;try simp only[D6,IV] at h2
  refine GC.skip (?_:GC _ _ _ _)
  refine AB ?_;refine GC.block ?_;refine AB ?_;refine BM (y:=.tmp 5) (j:=0) rfl rfl (by omega) (EW (by omega) (by omega)) (λp_x19 Vg WM gK=>?_)
  rcases Vg with⟨_,⟨_,⟨_,⟨Ax19_0,nN⟩⟩⟩⟩
  refine BM (y:=.tmp 5) (j:=3) rfl rfl (by omega) (EW (by omega) (by omega)) (λp_x24 Vf iq gJ=>?_)
  rcases Vf with⟨_,⟨_,⟨_,⟨jQ,Y7⟩⟩⟩⟩
  refine BM (y:=.tmp 5) (j:=4) rfl rfl (by omega) (EW (by omega) (by omega)) (λp_x31 r_x31 ig ok_x31=>?_)
  rcases r_x31 with⟨_,⟨_,⟨_,⟨Ax31_0,cpx31_0⟩⟩⟩⟩
  refine BM (y:=.tmp 5) (j:=7) rfl rfl (by omega) (EW (by omega) (by omega)) (λp_x36 Zo iY ok_x36=>?_)
  rcases Zo with⟨_,⟨_,⟨_,⟨Ax36_0,cpx36_0⟩⟩⟩⟩
  refine BM (y:=.tmp 5) (j:=8) rfl rfl (by omega) (EW (by omega) (by omega)) (λp_x44 Zn iV ok_x44=>?_)
  rcases Zn with⟨_,⟨_,⟨_,⟨Ax44_0,cpx44_0⟩⟩⟩⟩
  refine BM (y:=.tmp 5) (j:=11) rfl rfl (by omega) (EW (by omega) (by omega)) (λp_x49 r_x49 hA_x49 ok_x49=>?_)
  rcases r_x49 with⟨_,⟨_,⟨_,⟨Ax49_0,cpx49_0⟩⟩⟩⟩
  refine BP Ef (by kernel_rfl) ?_;refine Am 2 ?_;refine GQ.step rfl (EP (Eb WM rfl rfl Tryz.underlying59 GY (by omega) (by omega))) ?_;refine GQ.step rfl (EP (EM NQ rfl)) ?_
  refine GQ.step rfl (Ea (ES (i:=10) rfl rfl Ei rfl)) ?_;refine Am 2 ?_;refine GQ.step rfl (EP (Eb iq rfl rfl Tryz.underlying59 GY (by omega) (by omega))) ?_;refine GQ.step rfl (EP (EM NQ rfl)) ?_
  refine GQ.step rfl (Ea (ES (i:=8) rfl rfl Ei rfl)) ?_;refine Am 2 ?_;refine BJ (i:=28) rfl (λh3=>?_) (λh3=>?_)
  ·try simp only[D6,IV] at h3
   refine Am 26 ?_
   refine BO (?_:GC _ _ _ _)
   refine AU rfl ?_;refine AP 1 ?_;refine GC.ret (AQ 4 [] [] ?_)
   exact Xa
  try simp only[D6,IV] at h3
  refine Am 2 ?_;refine Ai (s:=28) rfl rfl rfl (EP (Eb ig rfl rfl Tryz.underlying59 GY (by omega) (by omega))) ?_;refine Ai (s:=28) rfl rfl rfl (EP (EM P9 rfl)) ?_
  refine Ai (s:=28) rfl rfl rfl (Ea (ES (i:=6) rfl rfl Ei rfl)) ?_;refine Am 2 ?_;refine Ai (s:=28) rfl rfl rfl (EP (Eb iY rfl rfl Tryz.underlying59 GY (by omega) (by omega))) ?_
  refine Ai (s:=28) rfl rfl rfl (EP (EM P9 rfl)) ?_;refine Ai (s:=28) rfl rfl rfl (Ea (ES (i:=4) rfl rfl Ei rfl)) ?_;refine Am 3 ?_;refine BJ (i:=41) rfl (λh4=>?_) (λh4=>?_)
  ·try simp only[D6,IV] at h4
   refine Am 13 ?_
   refine BO (?_:GC _ _ _ _)
   refine AU rfl ?_;refine AP 1 ?_;refine GC.ret (AQ 4 [] [] ?_)
   exact Xa
  try simp only[D6,IV] at h4
  refine Am 2 ?_;refine Ai (s:=41) rfl rfl rfl (EP (Eb iV rfl rfl Tryz.underlying59 GY (by omega) (by omega))) ?_;refine Ai (s:=41) rfl rfl rfl (EP (EM P8 rfl)) ?_
  refine Ai (s:=41) rfl rfl rfl (Ea (FX (i:=2) rfl rfl OZ (vs:=[_,_]) KI ⟨rfl,rfl,trivial⟩)) ?_;refine Am 2 ?_;refine Ai (s:=41) rfl rfl rfl (EP (Eb hA_x49 rfl rfl Tryz.underlying59 GY (by omega) (by omega))) ?_
  refine Ai (s:=41) rfl rfl rfl (EP (EM P8 rfl)) ?_;refine Ai (s:=41) rfl rfl rfl (Ea (FX (i:=0) rfl rfl OZ (vs:=[_,_]) KI ⟨rfl,rfl,trivial⟩)) ?_;refine Ai (s:=41) rfl rfl rfl (JU Tryz.call26 rfl (js:=[3,1]) rfl (by exact kG _ _ _ _ _ _)) ?_
  refine Am 2 ?_
  refine BO (?_:GC _ _ _ _)
  refine Af ?_ ?_
  ·intro h5;try simp only[D6,IV] at h5
   refine AP 1 ?_;refine GC.ret (AQ 4 [] [] ?_)
   exact Xa
  intro h5;try simp only[D6,IV] at h5
  refine GC.skip (?_:GC _ _ _ _)
  refine GC.region ?_;refine AA 1 ?_;refine AO rfl (EU rfl rfl (Fh (by omega) (by omega))) ?_;refine AA 1 ?_;refine Ac ?_
  exact λa w h=>⟨(k+1),(by omega),⟨by omega,λj hj=>(Nat.lt_succ_iff_lt_or_eq.1 hj).elim (he j) (λe=>by subst e;exact row_ext (by assumption) (by assumption) (by assumption))⟩,h.ct [] [12,13]⟩
 intro h2;try simp only[D6,IV] at h2
 refine GC.exit (?_:GC _ _ _ _)
 refine AP 1 ?_;refine GC.ret (AQ 4 [] [] ?_)
 exact ZL
theorem samec_ct(r s:Row)(A:Option Addr)(cp:Nat)(B:Option Addr)(cq:Nat):Ct Tryz.prog 188 [.agg #[.int .i64 r.client,.int .i64 r.serial,.int .u8 r.result.code,.slice A r.result.data.length cp],.agg #[.int .i64 s.client,.int .i64 s.serial,.int .u8 s.result.code,.slice B s.result.data.length cq]] [] [D7.row Kd.u8 A r.result.data,D7.row Kd.u8 B s.result.data] (λu G Q=>u=.bool (decide (r=s))/\G=[]/\Q=[]):=by
 refine Ct.intro Tryz.func188 rfl rfl rfl (λc hc=>?_)
 refine AX ?_;refine GL.step rfl (Ee rfl rfl rfl) (Aa λGm=>?_);refine GL.step rfl (Ee rfl rfl rfl) (Aa λFQ=>?_);refine AL 1 ?_;refine AV 1 ?_;refine Ad 1 ?_;refine AA 1 ?_
 refine Ad 0 ?_;refine AA 2 ?_;refine Ak 10 ?_ ?_
 ·intro h1;try simp only[D6] at h1
  refine AA 1 ?_;refine Aj 1 ?_;refine AA 1 ?_;refine Aj 0 ?_;refine AA 3 ?_;refine Ak 17 ?_ ?_
  ·intro h2;try simp only[D6] at h2
   refine AA 2 ?_;refine Aj 1 ?_;refine AA 2 ?_;refine Aj 0 ?_;refine AA 3 ?_;refine Ak 26 ?_ ?_
   ·intro h3;try simp only[D6] at h3
    refine AA 2 ?_;refine Aj 1 ?_;refine AA 2 ?_;refine Aj 0 ?_;refine Au rfl (s:=26) rfl rfl (EI rfl Tryz.call50 rfl (is:=[]) (js:=[0,1]) rfl rfl (by exact P_ _ _ _ _ _ _)) (GL.ret ?_)
    rintro _ _ _ ⟨rfl,rfl,rfl⟩
    refine AL 2 ?_;refine GC.ret (AQ 4 [] [] ?_)
    refine⟨congrArg Value.bool ?_,rfl,rfl⟩;obtain⟨r1,r2,r3,r4⟩:=r;obtain⟨s1,s2,s3,s4⟩:=s;simp_all
   intro h3;try simp only[D6] at h3
   refine AL 9 ?_;refine GC.ret (AQ 4 [] [] ?_)
   refine⟨congrArg Value.bool ?_,rfl,rfl⟩;obtain⟨r1,r2,r3,r4⟩:=r;obtain⟨s1,s2,s3,s4⟩:=s;simp_all
  intro h2;try simp only[D6] at h2
  refine AL 18 ?_;refine GC.ret (AQ 4 [] [] ?_)
  refine⟨congrArg Value.bool ?_,rfl,rfl⟩;obtain⟨r1,r2,r3,r4⟩:=r;obtain⟨s1,s2,s3,s4⟩:=s;simp_all
 intro h1;try simp only[D6] at h1
 refine AL 25 ?_;refine GC.ret (AQ 4 [] [] ?_)
 refine⟨congrArg Value.bool ?_,rfl,rfl⟩;obtain⟨r1,r2,r3,r4⟩:=r;obtain⟨s1,s2,s3,s4⟩:=s;simp_all
theorem zq12_{X:Prop}(h:X:=by(exact⟨congrArg Value.bool (decide_eq_false (gt_ne (k:=(k:Int)) (by assumption))).symm,rfl,rfl⟩)):X:=h
theorem zq13_{X:Prop}(h:X:=by(exact λa w h=>⟨(k+1),(by omega),⟨by omega,λj hj=>(Nat.lt_succ_iff_lt_or_eq.1 hj).elim (he j) (λe=>by subst e;assumption)⟩,h.ct [] [4,5]⟩)):X:=h
theorem rC(A:Option Addr)(a_:List Row)(cp:Nat)(B:Option Addr)(b_:List Row)(cq:Nat)(hl:a_.length<=140737488355328):Ct Tryz.prog 187 [.slice A a_.length cp,.slice B b_.length cq,.func (.func 188) #[] #[]] [] [D7.row Jz A a_,D7.row Jz B b_] (λu G Q=>u=.bool (decide (a_=b_))/\G=[]/\Q=[]):=by
 refine Ct.intro Tryz.func187 rfl rfl rfl (λc hc=>?_)
 refine AP 1 ?_;refine AB ?_;refine AP 5 ?_;refine Af ?_ ?_
 ·intro h1;try simp only[D6] at h1
  refine AP 1 ?_;refine GC.ret (AQ 6 [] [] ?_)
  exact dP
 intro h1;try simp only[D6] at h1
 refine GC.skip (?_:GC _ _ _ _)
 refine AB ?_;refine AP 3 ?_;refine GC.block ?_;refine Bd (ks:=[1,2,15,16]) (is:=[]) (js:=[0,1]) (fun(k:Nat)=>k<=a_.length/\∀j:Nat,j<k->gt a_ (j:Int)=gt b_ (j:Int)) (fun(k:Nat)=>[(17,.int .i64 (k:Int))]) (fun(k:Nat)=>[]) (fun(k:Nat)=>[]) (fun(k:Nat)=>a_.length - k) (0) rfl rfl rfl (λa w h=>⟨⟨by omega,λj hj=>by omega⟩,h.Hf (is:=[]) (js:=[0,1]) (ks:=[1,2,15,16]) ⟨rfl,trivial⟩ rfl rfl rfl⟩) ?_
 intro k hk
 try dsimp only[List.cons_append,List.nil_append] at hk ⊢
 obtain⟨hk,he⟩:=hk
 refine AP 1 ?_;refine AB ?_;refine Af ?_ ?_
 ·intro h2;try simp only[D6] at h2
  refine GC.skip (?_:GC _ _ _ _)
  refine AB ?_;refine GC.block ?_;refine AV 1 ?_;refine GL.step rfl (Ej (i:=0) rfl rfl rfl rfl Tryz.underlying59 GY (by omega) (EW (by omega) (by omega))) (Aa λp_x20=>Aa λZr=>GL.and λok_x20=>?_)
  rcases Zr with⟨_,⟨_,⟨_,⟨Ax20_0,cpx20_0⟩⟩⟩⟩
  refine GL.step rfl (Ed rfl (FX (i:=0) rfl rfl UC (vs:=[_,_,_,_]) GY ⟨rfl,rfl,rfl,rfl,trivial⟩)) ?_;refine GL.step rfl (EH rfl Jq) (Aa λZA=>?_);refine AA 1 ?_;refine Ar 0 ?_
  refine BL 2 ?_;refine GL.step rfl (Ej (i:=3) rfl rfl rfl rfl Tryz.underlying59 GY (by omega) (EW (by omega) (by omega))) (Aa λp_x24=>Aa λVf=>GL.and λgJ=>?_)
  rcases Vf with⟨_,⟨_,⟨_,⟨jQ,Y7⟩⟩⟩⟩
  refine GL.step rfl (Ed rfl (FX (i:=0) rfl rfl UC (vs:=[_,_,_,_]) GY ⟨rfl,rfl,rfl,rfl,trivial⟩)) ?_;refine GL.step rfl (EH rfl Jq) (Aa λdF=>?_);refine Ar 0 ?_;refine BL 1 ?_
  refine Az 1 4 ?_;refine Az 0 4 ?_;refine GL.step rfl (QG rfl Tryz.call188 rfl rfl (is:=[]) (js:=[3,1]) rfl rfl (by exact samec_ct _ _ _ _ _ _)) (GL.ret ?_)
  rintro _ _ _ ⟨rfl,rfl,rfl⟩
  refine AL 1 ?_;refine Af ?_ ?_
  ·intro h3;try simp only[D6] at h3
   refine AP 1 ?_;refine GC.ret (AQ 6 [] [] ?_)
   exact zq12_
  intro h3;try simp only[D6] at h3
  refine GC.skip (?_:GC _ _ _ _)
  refine GC.region ?_;refine AO rfl (EU rfl rfl (Fh (by omega) (by omega))) ?_;refine AA 1 ?_;refine Ac ?_
  exact zq13_
 intro h2;try simp only[D6] at h2
 refine GC.exit (?_:GC _ _ _ _)
 refine AP 1 ?_;refine GC.ret (AQ 6 [] [] ?_)
 exact ZL
theorem tsame_ct(A:Option Addr)(a_:List Row)(cp:Nat)(B:Option Addr)(b_:List Row)(cq:Nat)(hl:a_.length<=140737488355328):Ct Tryz.prog 149 [.slice A a_.length cp,.slice B b_.length cq] [] [D7.row Jz A a_,D7.row Jz B b_] (λu G Q=>u=.bool (decide (a_=b_))/\G=[]/\Q=[]):=by
 refine Ct.intro Tryz.func149 rfl rfl rfl (λc hc=>?_)
 refine AP 1 ?_;refine AV 2 ?_;refine Ah Tryz.call187 [] [0,1] rfl rfl rfl (by exact rC _ _ _ _ _ _ (by first|assumption|omega)) ?_
 rintro _ _ _ ⟨rfl,rfl,rfl⟩
 refine AL 1 ?_;refine GC.ret (AQ 4 [] [] ?_)
 exact⟨rfl,rfl,rfl⟩
def IncL(L:List Row):Prop:=L.Pairwise λr s=>r.client<s.client
theorem aY:∀{L:List Row} {b:Int},Rz b L=true↔((∀x∈L,rowOk x=true/\b<x.client)/\IncL L)
 |[],b=>by simp[Rz,IncL]
 |x::xs,b=>by
  rw[Rz,Bool.and_eq_true,Bool.and_eq_true,decide_eq_true_eq,aY (L:=xs)]
  constructor
  ·rintro⟨⟨h1,h2⟩,h3,h4⟩
   refine⟨λy hy=>?_,List.pairwise_cons.2 ⟨λy hy=>(h3 y hy).2,h4⟩⟩
   rcases List.mem_cons.1 hy with rfl|hy
   ·exact⟨h1,h2⟩
   ·have:=(h3 y hy).2;exact⟨(h3 y hy).1,by omega⟩
  ·rintro⟨h1,h2⟩
   obtain⟨h3,h4⟩:=List.pairwise_cons.1 h2
   exact⟨h1 x (List.mem_cons_self ..),λy hy=>⟨(h1 y (List.mem_cons_of_mem _ hy)).1,h3 y hy⟩,h4⟩
theorem pz{L:List Row}:Ie L=true↔(L.length<=64/\(∀x∈L,rowOk x=true)/\IncL L):=by
 rw[Ie,Bool.and_eq_true,decide_eq_true_eq,aY]
 constructor
 ·rintro⟨h1,h2,h3⟩;exact⟨h1,λx hx=>(h2 x hx).1,h3⟩
 ·rintro⟨h1,h2,h3⟩
  refine⟨h1,λx hx=>⟨h2 x hx,?_⟩,h3⟩
  have:=h2 x hx
  simp only[rowOk,Bool.and_eq_true] at this
  have:=TV this.1.1
  omega
def toLast(r:Row):Last:=⟨r.serial,r.result⟩
def I8(l:List Row):List (Int×Last):=l.map λr=>(r.client,toLast r)
def Ub(l:List Row)(k:Nat):Prop:=rowOk (gt l (k:Int))=true/\KR l k<(gt l (k:Int)).client
theorem Yt{l:List Row}:∀(k:Nat),k<=l.length->(∀j,j<k->Ub l j)->Rz 0 l=Rz (KR l k) (l.drop k)
 |0,_,_=>rfl
 |k+1,hk,h=>by
  rw[Yt k (by omega) λj hj=>h j (by omega),QZ (by omega),(h k (by omega)).1,decide_eq_true (h k (by omega)).2];rfl
theorem Zi{l:List Row}(h:Ie l=true):∀k,k<l.length->Ub l k:=by
 intro k
 induction k using Nat.strongRecOn with
 |_ k ih =>
  intro hk
  have h1:=Yt k (by omega) λj hj=>ih j hj (by omega)
  simp only[Ie,Bool.and_eq_true] at h
  rw[h.2,QZ hk] at h1
  have:=h1.symm
  simp only[Bool.and_eq_true,decide_eq_true_eq] at this
  exact this.1
theorem right_of{l:List Row}(h:∀k,k<l.length->Ub l k)(h64:l.length<=64):Ie l=true:=by
 rw[Ie,Yt l.length (Nat.le_refl _) h,List.drop_of_length_le (Nat.le_refl _),decide_eq_true h64];rfl
theorem cl_le{l:List Row}:∀(k:Nat),k<=l.length->(∀j,j<k->Ub l j)->∀r∈l.take k,r.client<=KR l k
 |0,_,_,r,hr=>by simp at hr
 |k+1,hk,h,r,hr=>by
  rw[LP (by omega)] at hr
  rcases List.mem_append.1 hr with hr|hr
  ·have:=cl_le k (by omega) (λj hj=>h j (by omega)) r hr
   have:=(h k (by omega)).2
   simp only[KR];omega
  ·rw[List.mem_singleton.1 hr];exact Int.le_refl _
theorem aQ{l:List Row}{c:Int}(h:∀r∈l,r.client≠c):Jb (I8 l) c=none:=by
 induction l with
 |nil=>rfl
 |cons x xs ih =>
  simp only[I8,List.map_cons,Jb]
  rw[if_neg (h x (List.mem_cons_self ..))]
  exact ih λr hr=>h r (List.mem_cons_of_mem _ hr)
theorem aO{α:Type}{c:Int}{x:α}:∀{T:List (Int×α)},Jb T c=none->OB T c x=T++[(c,x)]
 |[],_=>rfl
 |(j,y)::T,h=>by
  rw[Jb] at h
  split at h
  ·cases h
  ·rename_i hj
   rw[OB,if_neg hj,aO h];rfl
theorem mget_in{l:List Row}{c:Int}{x:Last}(h:Jb (I8 l) c=some x):∃r∈l,r.client=c/\toLast r=x:=by
 induction l with
 |nil=>cases h
 |cons y ys ih =>
  simp only[I8,List.map_cons,Jb] at h
  split at h
  ·rename_i e
   simp only[Option.some.injEq] at h
   exact⟨y,List.mem_cons_self ..,e,h⟩
  ·obtain⟨r,hr,h1⟩:=ih h
   exact⟨r,List.mem_cons_of_mem _ hr,h1⟩
theorem VI{l:List Row}(h:∀r∈l,rowOk r=true):QD (I8 l):=λc x hx=>by
 obtain⟨r,hr,_,rfl⟩:=mget_in hx
 have:=h r hr
 simp only[rowOk,Bool.and_eq_true] at this
 exact TF this.2
theorem YI{l:List Row}{k:Nat}(hk:k<=l.length)(h:∀j,j<k->Ub l j):∀r∈l.take k,rowOk r=true:=λr hr=>by
 obtain⟨j,hj,rfl⟩:=List.getElem_of_mem hr
 simp only[List.length_take] at hj
 have g:=EW (xs:=l) (i:=(j:Int)) (by omega) (by omega)
 simp only[Int.toNat_natCast,List.getElem?_eq_getElem (show j<l.length by omega),Option.some.injEq] at g
 rw[List.getElem_take,g]
 exact(h j (by omega)).1
theorem Zv{l:List Row}{k:Nat}(hk:k<l.length)(h:∀j,j<k->Ub l j)(hok:Ub l k)(h64:k<64) :
  Nk (I8 (l.take k)) (gt l (k:Int)).client (gt l (k:Int)).serial (gt l (k:Int)).result=(0,I8 (l.take (k+1))):=by
 have h1:=hok.1
 simp only[rowOk,Bool.and_eq_true] at h1
 have hn:Jb (I8 (l.take k)) (gt l (k:Int)).client=none:=aQ λr hr=>by
  have:=cl_le k (by omega) h r hr
  have:=hok.2
  omega
 have hlen:(I8 (l.take k)).length=k:=by simp[I8];omega
 have e:Ko (I8 (l.take k)) (gt l (k:Int)).client (gt l (k:Int)).serial=(1,rz,0):=by
  unfold Ko
  rw[if_neg (by rw[h1.1.1,h1.1.2];simp),hn]
  simp only
  rw[if_neg (by rw[hlen];omega)]
 unfold Nk
 rw[e]
 rw[if_neg (by simp),if_neg (by rw[h1.2];simp),if_neg (by simp),if_neg (by simp),aO hn,LP hk]
 simp only[I8,List.map_append];rfl
theorem put_bad{l:List Row}{k:Nat}(hk:k<l.length)(h:∀j,j<k->Ub l j)(hk64:k<=64)(hbad:¬(Ub l k/\k<64))(hlt:KR l k<(gt l (k:Int)).client) :
  (Nk (I8 (l.take k)) (gt l (k:Int)).client (gt l (k:Int)).serial (gt l (k:Int)).result).1≠0:=by
 have hlen:(I8 (l.take k)).length=k:=by simp[I8];omega
 have hn:Jb (I8 (l.take k)) (gt l (k:Int)).client=none:=aQ λr hr=>by
  have:=cl_le k (by omega) h r hr
  omega
 unfold Nk
 by_cases hc:isNum (gt l (k:Int)).client=false\/isNum (gt l (k:Int)).serial=false
 ·have e:Ko (I8 (l.take k)) (gt l (k:Int)).client (gt l (k:Int)).serial=(0,rz,5):=by unfold Ko;rw[if_pos hc]
  rw[e];simp
 ·have e:Ko (I8 (l.take k)) (gt l (k:Int)).client (gt l (k:Int)).serial=if (((I8 (l.take k)).length:Nat):Int)=64 then (4,rz,0) else (1,rz,0):=by
   unfold Ko;rw[if_neg hc,hn]
  rw[e,hlen]
  by_cases hr:Ic (gt l (k:Int)).result.code (gt l (k:Int)).result.data.length=true
  ·have hok:Ub l k:=⟨by
    simp only[rowOk,hr,Bool.and_true,Bool.and_eq_true]
    simpa using hc,hlt⟩
   have h64:¬k<64:=λh=>hbad ⟨hok,h⟩
   rw[if_pos (show((k:Nat):Int)=64 by omega)];simp[hr]
  ·split<;>simp[hr]
theorem tload_ok(A:Option Addr)(l:List Row)(cp:Nat)(hl:l.length<=140737488355328)(hr:Ie l=true):Ct Tryz.prog 152 [.slice A l.length cp] [] [D7.row Jz A l]
    (λu G Q=>∃p m es ck,u=.tuple #[.pointer (some ⟨p,0,none⟩),.int .i64 0]/\G=ZT p m es ck/\Q=[D7.map Pz true (I8 l) es ck]):=by
 have hall:=Zi hr
 have h64:l.length<=64:=(pz.1 hr).1
 refine Ct.intro Tryz.func152 rfl rfl rfl (λc hc=>?_)
 refine AP 2 ?_;refine AX ?_;refine Ah Tryz.call192 [] [] rfl rfl rfl (by exact jy) ?_
 rintro _ _ _ ⟨p8,m8,rfl,rfl,rfl⟩
 refine AL 1 ?_;refine AP 1 ?_;refine AB ?_;refine AP 3 ?_;refine GC.block ?_;refine Bv (ks:=[4,9,10]) (is:=[0]) (js:=[0,1]) (fun(k:Nat) (es:Array MapEntry) (ck:Nat)=>k<=l.length) (fun(k:Nat) (es:Array MapEntry) (ck:Nat)=>[(5,.int .i64 (KR l k)),(11,.int .i64 (k:Int))]) (fun(k:Nat) (es:Array MapEntry) (ck:Nat)=>[.blk m8 (.map es ck)]) (fun(k:Nat) (es:Array MapEntry) (ck:Nat)=>[D7.map Pz true (I8 (l.take k)) es ck]) (fun(k:Nat) (es:Array MapEntry) (ck:Nat)=>l.length - k) (0) (_) (_) rfl rfl rfl (λa w h=>⟨by omega,h.Hf (is:=[1,0]) (js:=[0,0,1]) (ks:=[4,9,10]) ⟨rfl,rfl,trivial⟩ rfl rfl rfl⟩) ?_
 intro k es ck hk
 try dsimp only[List.cons_append,List.nil_append] at hk ⊢
 refine AP 1 ?_;refine AB ?_;refine Af ?_ ?_
 ·intro h1;try simp only[D6] at h1
  refine GC.skip (?_:GC _ _ _ _)
  refine AB ?_;refine GC.block ?_;refine AX ?_;refine GL.step rfl (Ej (i:=2) rfl rfl rfl rfl Tryz.underlying59 GY (by omega) (EW (by omega) (by omega))) (Aa λp_x13=>Aa λVl=>GL.and λgW=>?_)
  rcases Vl with⟨_,⟨_,⟨_,⟨Ax13_0,nR⟩⟩⟩⟩
  refine GL.step rfl (Ed rfl (FX (i:=0) rfl rfl UC (vs:=[_,_,_,_]) GY ⟨rfl,rfl,rfl,rfl,trivial⟩)) ?_;refine GL.step rfl (EH rfl Jq) (Aa λjJ=>?_);refine Ar 0 ?_;refine Ap ?_
  refine AB ?_;refine AV 1 ?_;refine Ad 0 ?_;refine AA 3 ?_;refine Ak 19 ?_ ?_
  ·intro h2;try simp only[D6] at h2
   exfalso;first|omega|(have:=(hall k (by omega)).2;omega)
  intro h2;try simp only[D6] at h2
  refine AA 2 ?_;refine Aj 0 ?_;refine AA 1 ?_;refine Aj 0 ?_;refine AA 1 ?_;refine BX 0 2 ?_;refine Au rfl (s:=19) rfl rfl (EI rfl Tryz.call193 rfl (is:=[2,1]) (js:=[2,1]) rfl rfl (by exact put_eq _ _ _ _ (I8 (l.take k)) _ _ (gt l (k:Int)).result _ _ (VI (YI hk λj hj=>hall j (by omega))) 0 (I8 (l.take (k+1))) (Zv (by omega) (λj hj=>hall j (by omega)) (hall k (by omega)) (by omega)))) (GL.ret ?_)
  rintro _ _ _ ⟨es27,ck27,rfl,rfl,rfl⟩
  refine AL 2 ?_;refine AY rfl ?_
  refine GC.skip (?_:GC _ _ _ _)
  refine GC.region ?_;refine AA 1 ?_;refine Ad 2 ?_;refine AA 1 ?_
  refine Ac (?_:GC _ _ _ _)
  refine GC.region ?_;refine AO rfl (EU rfl rfl (Fh (by omega) (by omega))) ?_;refine AA 1 ?_;refine Ac ?_
  exact λa w h=>⟨(k+1),(_),(_),(by omega),by omega,h.cut (is:=[1,0]) (js:=[0,4,5]) ⟨rfl,rfl,rfl,rfl,rfl,trivial⟩ rfl rfl⟩
 intro h1;try simp only[D6] at h1
 refine GC.exit (?_:GC _ _ _ _)
 refine AP 3 ?_;refine GC.ret (BR 2 3 [1,0] [0] ?_)
 obtain rfl:k=l.length:=by omega
 rw[List.take_length]
 exact⟨_,_,_,_,rfl,rfl,rfl⟩
theorem oW(A:Option Addr)(l:List Row)(cp:Nat)(hl:l.length<=140737488355328)(hr:Ie l=false):Ct Tryz.prog 152 [.slice A l.length cp] [] [D7.row Jz A l] (λu G Q=>u=.tuple #[.pointer none,.int .i64 60]/\G=[]/\Q=[]):=by
 refine Ct.intro Tryz.func152 rfl rfl rfl (λc hc=>?_)
 refine AP 2 ?_;refine AX ?_;refine Ah Tryz.call192 [] [] rfl rfl rfl (by exact jy) ?_
 rintro _ _ _ ⟨p8,m8,rfl,rfl,rfl⟩
 refine AL 1 ?_;refine AP 1 ?_;refine AB ?_;refine AP 3 ?_;refine GC.block ?_;refine Bv (ks:=[4,9,10]) (is:=[0]) (js:=[0,1]) (fun(k:Nat) (es:Array MapEntry) (ck:Nat)=>k<=l.length/\(∀j,j<k->Ub l j)/\k<=64) (fun(k:Nat) (es:Array MapEntry) (ck:Nat)=>[(5,.int .i64 (KR l k)),(11,.int .i64 (k:Int))]) (fun(k:Nat) (es:Array MapEntry) (ck:Nat)=>[.blk m8 (.map es ck)]) (fun(k:Nat) (es:Array MapEntry) (ck:Nat)=>[D7.map Pz true (I8 (l.take k)) es ck]) (fun(k:Nat) (es:Array MapEntry) (ck:Nat)=>l.length - k) (0) (_) (_) rfl rfl rfl (λa w h=>⟨⟨by omega,λj hj=>by omega,by omega⟩,h.Hf (is:=[1,0]) (js:=[0,0,1]) (ks:=[4,9,10]) ⟨rfl,rfl,trivial⟩ rfl rfl rfl⟩) ?_
 intro k es ck hk
 try dsimp only[List.cons_append,List.nil_append] at hk ⊢
 refine AP 1 ?_;refine AB ?_;refine Af ?_ ?_
 ·intro h1;try simp only[D6] at h1
  refine GC.skip (?_:GC _ _ _ _)
  refine AB ?_;refine GC.block ?_;refine AX ?_
  by_cases hok:Ub l k/\k<64
  ·skip
   refine GL.step rfl (Ej (i:=2) rfl rfl rfl rfl Tryz.underlying59 GY (by omega) (EW (by omega) (by omega))) (Aa λp_x13=>Aa λVl=>GL.and λgW=>?_)
   rcases Vl with⟨_,⟨_,⟨_,⟨Ax13_0,nR⟩⟩⟩⟩
   refine GL.step rfl (Ed rfl (FX (i:=0) rfl rfl UC (vs:=[_,_,_,_]) GY ⟨rfl,rfl,rfl,rfl,trivial⟩)) ?_;refine GL.step rfl (EH rfl Jq) (Aa λjJ=>?_);refine Ar 0 ?_;refine Ap ?_
   refine AB ?_;refine AV 1 ?_;refine Ad 0 ?_;refine AA 3 ?_;refine Ak 19 ?_ ?_
   ·intro h2;try simp only[D6] at h2
    exfalso;first|omega|(have:=hok.1.2;omega)
   intro h2;try simp only[D6] at h2
   refine AA 2 ?_;refine Aj 0 ?_;refine AA 1 ?_;refine Aj 0 ?_;refine AA 1 ?_;refine BX 0 2 ?_;refine Au rfl (s:=19) rfl rfl (EI rfl Tryz.call193 rfl (is:=[2,1]) (js:=[2,1]) rfl rfl (by exact put_eq _ _ _ _ (I8 (l.take k)) _ _ (gt l (k:Int)).result _ _ (VI (YI hk.1 hk.2.1)) 0 (I8 (l.take (k+1))) (Zv (by omega) hk.2.1 hok.1 hok.2))) (GL.ret ?_)
   rintro _ _ _ ⟨es27,ck27,rfl,rfl,rfl⟩
   refine AL 2 ?_;refine AY rfl ?_
   refine GC.skip (?_:GC _ _ _ _)
   refine GC.region ?_;refine AA 1 ?_;refine Ad 2 ?_;refine AA 1 ?_
   refine Ac (?_:GC _ _ _ _)
   refine GC.region ?_;refine AO rfl (EU rfl rfl (Fh (by omega) (by omega))) ?_;refine AA 1 ?_;refine Ac ?_
   exact λa w h=>⟨(k+1),(_),(_),(by omega),⟨by omega,λj hj=>(Nat.lt_succ_iff_lt_or_eq.1 hj).elim (hk.2.1 j) (λe=>by subst e;exact hok.1),by omega⟩,h.cut (is:=[1,0]) (js:=[0,4,5]) ⟨rfl,rfl,rfl,rfl,rfl,trivial⟩ rfl rfl⟩
  skip
  refine GL.step rfl (Ej (i:=2) rfl rfl rfl rfl Tryz.underlying59 GY (by omega) (EW (by omega) (by omega))) (Aa λp_x13=>Aa λVl=>GL.and λgW=>?_)
  rcases Vl with⟨_,⟨_,⟨_,⟨Ax13_0,nR⟩⟩⟩⟩
  refine GL.step rfl (Ed rfl (FX (i:=0) rfl rfl UC (vs:=[_,_,_,_]) GY ⟨rfl,rfl,rfl,rfl,trivial⟩)) ?_;refine GL.step rfl (EH rfl Jq) (Aa λjJ=>?_);refine Ar 0 ?_;refine Ap ?_
  refine AB ?_;refine AV 1 ?_;refine Ad 0 ?_;refine AA 3 ?_;refine Ak 19 ?_ ?_
  ·intro h3;try simp only[D6] at h3
   refine AL 10 ?_;refine AU rfl ?_;refine AP 2 ?_;refine GC.ret (BR 2 3 [] [] ?_)
   exact⟨rfl,rfl,rfl⟩
  intro h3;try simp only[D6] at h3
  refine AA 2 ?_;refine Aj 0 ?_;refine AA 1 ?_;refine Aj 0 ?_;refine AA 1 ?_;refine BX 0 2 ?_;refine Au rfl (s:=19) rfl rfl (EI rfl Tryz.call193 rfl (is:=[2,1]) (js:=[2,1]) rfl rfl (by exact put_ct _ _ _ _ (I8 (l.take k)) _ _ (gt l (k:Int)).result _ _ (VI (YI hk.1 hk.2.1)))) (GL.ret ?_)
  rintro _ _ _ ⟨es27,ck27,rfl,rfl,rfl⟩
  refine AL 2 ?_;refine Af ?_ ?_
  ·intro h4;try simp only[D6] at h4
   refine AP 2 ?_;refine GC.ret (BR 2 3 [] [] ?_)
   exact⟨rfl,rfl,rfl⟩
  intro h4;try simp only[D6] at h4
  exfalso;first|omega|exact put_bad (by omega) hk.2.1 hk.2.2 hok (by omega) h4
 intro h1;try simp only[D6] at h1
 refine GC.exit (?_:GC _ _ _ _)
 refine AP 3 ?_;refine GC.ret (BR 2 3 [] [] ?_)
 exfalso
 obtain rfl:k=l.length:=by omega
 rw[right_of hk.2.1 hk.2.2] at hr
 cases hr
abbrev kI:Kd Int:=Kd.int .i64
abbrev iv(x:Int):Value:=Value.int .i64 x
theorem Yo{α:Type}[Inhabited α]{l:List α}{x:α}(h:x∈l):∃k:Nat,k<l.length/\gt l (k:Int)=x:=by
 obtain⟨k,hk,rfl⟩:=List.getElem_of_mem h
 have g:=EW (xs:=l) (i:=(k:Int)) (by omega) (by omega)
 simp only[Int.toNat_natCast,List.getElem?_eq_getElem hk,Option.some.injEq] at g
 exact⟨k,hk,g.symm⟩
theorem nJ{α:Type}[Inhabited α]{a b:List α}(hl:a.length=b.length)(h:∀j:Nat,j<a.length->gt a (j:Int)=gt b (j:Int)):a=b:=by
 apply List.ext_getElem hl
 intro i h1 h2
 have g1:=EW (xs:=a) (i:=(i:Int)) (by omega) (by omega)
 have g2:=EW (xs:=b) (i:=(i:Int)) (by omega) (by omega)
 simp only[Int.toNat_natCast,List.getElem?_eq_getElem h1,List.getElem?_eq_getElem h2,Option.some.injEq] at g1 g2
 rw[g1,g2,h i h1]
theorem zq14_{X:Prop}(h:X:=by(exact⟨congrArg Value.bool (decide_eq_false (λe=>by subst e;omega)).symm,rfl,rfl⟩)):X:=h
theorem zq15_{X:Prop}(h:X:=by(exact⟨congrArg Value.bool (decide_eq_true (nJ (by omega) λj hj=>he j (by omega))).symm,rfl,rfl⟩)):X:=h
theorem equal_i(A:Option Addr)(x:List Int)(cp:Nat)(B:Option Addr)(y:List Int)(cq:Nat)(hl:x.length<=140737488355328):Ct Tryz.prog 189 [.slice A x.length cp,.slice B y.length cq] [] [D7.row kI A x,D7.row kI B y] (λu G Q=>u=.bool (decide (x=y))/\G=[]/\Q=[]):=by
 refine Ct.intro Tryz.func189 rfl rfl rfl (λc hc=>?_)
 refine AP 1 ?_;refine AB ?_;refine AP 5 ?_;refine Af ?_ ?_
 ·intro h1;try simp only[D6] at h1
  refine AP 1 ?_;refine GC.ret (AQ 4 [] [] ?_)
  exact dP
 intro h1;try simp only[D6] at h1
 refine GC.skip (?_:GC _ _ _ _)
 refine AB ?_;refine AP 3 ?_;refine GC.block ?_;refine Bd (ks:=[0,1,12]) (is:=[]) (js:=[0,1]) (fun(k:Nat)=>k<=x.length/\∀j:Nat,j<k->gt x (j:Int)=gt y (j:Int)) (fun(k:Nat)=>[(13,.int .i64 (k:Int))]) (fun(k:Nat)=>[]) (fun(k:Nat)=>[]) (fun(k:Nat)=>x.length - k) (0) rfl rfl rfl (λa w h=>⟨⟨by omega,λj hj=>by omega⟩,h.Hf (is:=[]) (js:=[0,1]) (ks:=[0,1,12]) ⟨rfl,trivial⟩ rfl rfl rfl⟩) ?_
 intro k hk
 try dsimp only[List.cons_append,List.nil_append] at hk ⊢
 obtain⟨hk,he⟩:=hk
 refine AP 1 ?_;refine AB ?_;refine Af ?_ ?_
 ·intro h2;try simp only[D6] at h2
  refine GC.skip (?_:GC _ _ _ _)
  refine AB ?_;refine GC.block ?_;refine AP 2 ?_;refine AB ?_;refine BM (y:=.tmp 5) (j:=0) rfl rfl (by omega) (EW (by omega) (by omega)) (λp_x18 Vh iw gQ=>?_)
  rcases Vh with _
  refine BM (y:=.tmp 5) (j:=2) rfl rfl (by omega) (EW (by omega) (by omega)) (λkY RZ Tj Yf=>?_)
  rcases RZ with _
  refine BP Ef (by kernel_rfl) ?_;refine Am 2 ?_;refine GQ.step rfl (EP (Eb iw rfl rfl Tryz.underlying53 GV (by omega) (by omega))) ?_;refine GQ.step rfl (Ea (ES (i:=1) rfl rfl Ei rfl)) ?_
  refine Am 2 ?_;refine GQ.step rfl (EP (Eb Tj rfl rfl Tryz.underlying53 GV (by omega) (by omega))) ?_;refine GQ.step rfl (Ea (ES (i:=0) rfl rfl Ei rfl)) ?_;refine Am 1 ?_
  refine BO (?_:GC _ _ _ _)
  refine Af ?_ ?_
  ·intro h3;try simp only[D6] at h3
   refine AP 1 ?_;refine GC.ret (AQ 4 [] [] ?_)
   exact zq14_
  intro h3;try simp only[D6] at h3
  refine GC.skip (?_:GC _ _ _ _)
  refine GC.region ?_;refine AO rfl (EU rfl rfl (Fh (by omega) (by omega))) ?_;refine AA 1 ?_;refine Ac ?_
  exact λa w h=>⟨(k+1),(by omega),⟨by omega,λj hj=>(Nat.lt_succ_iff_lt_or_eq.1 hj).elim (he j) (λe=>by subst e;omega)⟩,h.ct [] [2,3]⟩
 intro h2;try simp only[D6] at h2
 refine GC.exit (?_:GC _ _ _ _)
 refine AP 1 ?_;refine GC.ret (AQ 4 [] [] ?_)
 exact zq15_
theorem clone_i(A:Option Addr)(xs:List Int)(cp:Nat)(hx:xs.length<=17592186044416):Ct Tryz.prog 195 [.slice A xs.length cp] [] [D7.row kI A xs]
    (λv G Q=>∃A' cp',xs.length<=cp'/\cp'<=9223372036854775807/\v=.slice A' xs.length cp'/\G=[.row (.slice A' xs.length cp') 3 1 xs.length (xs.map iv)]/\Q=[]):=by
 cases A with
 |none =>
   refine Ct.pure (λw S h=>VW (h.per _ (List.mem_singleton.2 rfl))) λhx0=>?_
   subst hx0
   refine Ct.intro Tryz.func195 rfl rfl rfl (λc hc=>?_)
   refine AP 1 ?_;refine AB ?_;refine AV 1 ?_;refine AO rfl (J9 Tryz.underlying53 rfl rfl) ?_;refine Ap ?_;refine AU rfl ?_;refine AP 1 ?_;refine GC.Hu 3 1 ?_;refine GC.ret (AQ 2 [0] [] ?_)
   exact⟨_,_,by simp,by simp,rfl,rfl,rfl⟩
 |some a =>
   refine Ct.intro Tryz.func195 rfl rfl rfl (λc hc=>?_)
   refine AP 1 ?_;refine AB ?_;refine AV 1 ?_;refine AO rfl (J9 Tryz.underlying53 rfl rfl) ?_;refine Ap ?_;refine AY rfl ?_
   refine GC.skip (?_:GC _ _ _ _)
   refine AX ?_;refine GL.step rfl (EC rfl Tryz.underlying53 GV Ja rfl rfl rfl rfl rfl rfl) (Aa λRD=>?_);refine AA 1 ?_;refine Ci (i:=0) (m:=0) (sz:=1) rfl rfl (by decide) rfl ?_
   refine GL.step rfl (Ep (i:=0) (k:=0) rfl NS rfl rfl rfl rfl (by simp;omega) (λ_=>rfl)) (Aa λv7=>?_);refine AL 1 ?_;refine GC.shape (i:=0) rfl (λA1 c1 e1 l1 l2=>?_)
   subst e1
   simp only[Nat.zero_add,List.nil_append] at l1 ⊢
   refine GC.ret (AQ 2 [0] [] ?_)
   exact⟨_,_,l1,l2,rfl,rfl,rfl⟩
def LZ:Int->List Int->Bool
 |_,[]=>true
 |b,x::l=>decide (b<x) && decide (x<64) && LZ x l
def FP(e:Int)(l:List Int):Bool:=decide (0<=e) && decide (e<=4611686018427387904) && decide (1<=l.length) && decide (l.length<=9) && LZ (-1) l
def JX(l:List Int):Nat->Int
 |0 => -1
 |k+1=>gt l (k:Int)
theorem drop_gtI{α:Type}[Inhabited α]{l:List α}{k:Nat}(h:k<l.length):l.drop k=gt l (k:Int)::l.drop (k+1):=by
 have:=EW (xs:=l) (i:=(k:Int)) (by omega) (by omega)
 simp only[Int.toNat_natCast] at this
 rw[List.drop_eq_getElem_cons h]
 rw[List.getElem?_eq_getElem h] at this
 simp only[Option.some.injEq] at this
 rw[this]
theorem TW{l:List Int}{k:Nat}{b:Int}(h:k<l.length):LZ b (l.drop k)=(decide (b<gt l (k:Int)) && decide (gt l (k:Int)<64) && LZ (gt l (k:Int)) (l.drop (k+1))):=by
 rw[drop_gtI h];rfl
theorem mY{l:List Int}{k:Nat}{b:Int}(h:k<l.length)(h1:b<gt l (k:Int))(h2:gt l (k:Int)<64):LZ b (l.drop k)=LZ (gt l (k:Int)) (l.drop (k+1)):=by
 rw[TW h,decide_eq_true h1,decide_eq_true h2];rfl
theorem P5{l:List Int}{k:Nat}{b:Int}(h:k<l.length)(h1:gt l (k:Int)<=b\/64<=gt l (k:Int)):LZ b (l.drop k)=false:=by
 rw[TW h]
 rcases h1 with h1|h1
 ·rw[decide_eq_false (by omega)];rfl
 ·rw[decide_eq_false (show ¬gt l (k:Int)<64 by omega),Bool.and_false,Bool.false_and]
theorem grp_next{x b nb:Bool}{l:List Int}{k:Nat}(hk:k<l.length)(he:x=(b && LZ (JX l k) (l.drop k)))(hb:nb=(b && decide (JX l k<gt l (k:Int)) && decide (gt l (k:Int)<64))):x=(nb && LZ (JX l (k+1)) (l.drop (k+1))):=by
 subst hb;rw[he,TW hk,JX,Bool.and_assoc,Bool.and_assoc,Bool.and_assoc]
abbrev Qj(e:Int)(A:Option Addr)(n cp:Nat):Value:=.agg #[.int .i64 e,.slice A n cp]
theorem O5{X:Prop}(h:X:=by(exact λa w h=>⟨(k+1),(_),(by omega),⟨by omega,grp_next (by omega) he (by rw[Bool.eq_iff_iff];(try simp[*])<;>omega)⟩,h.cut (is:=[0]) (js:=[1]) ⟨rfl,rfl,rfl,rfl,rfl,trivial⟩ rfl rfl⟩)):X:=h
theorem MP(e:Int)(A:Option Addr)(l:List Int)(cp:Nat)(hl:l.length<=140737488355328):Ct Tryz.prog 89 [Qj e A l.length cp] [] [D7.row kI A l] (λu G Q=>u=.int .i64 (if FP e l=true then 0 else 71)/\G=[]/\Q=[]):=by
 refine Ct.intro Tryz.func89 rfl rfl rfl (λc hc=>?_)
 refine AX ?_;refine GL.step rfl (Ee rfl rfl rfl) (Aa λIJ=>?_);refine AL 1 ?_;refine AV 1 ?_;refine Ad 0 ?_;refine AA 2 ?_;refine Ak 10 ?_ ?_
 ·intro h1;try simp only[D6] at h1
  refine AA 1 ?_;refine Aj 0 ?_;refine AA 3 ?_;refine Ak 15 ?_ ?_
  ·intro h2;try simp only[D6] at h2
   refine AA 1 ?_;refine Aj 0 ?_;refine AA 4 ?_;refine Ak 21 ?_ ?_
   ·intro h3;try simp only[D6] at h3
    refine AA 1 ?_;refine Aj 0 ?_;refine AL 4 ?_;refine AP 1 ?_;refine AB ?_;refine AV 1 ?_;refine Ad 0 ?_;refine AL 2 ?_;refine GC.block ?_;refine CV (ks:=[28,29]) (is:=[0]) (js:=[0]) (fun(k:Nat) (b:Bool)=>k<=l.length/\FP e l=(b && LZ (JX l k) (l.drop k))) (fun(k:Nat) (b:Bool)=>[(3,.bool b),(4,.int .i64 (JX l k)),(30,.int .i64 (k:Int))]) (fun(k:Nat) (b:Bool)=>[]) (fun(k:Nat) (b:Bool)=>[]) (fun(k:Nat) (b:Bool)=>l.length - k) (0) (_) rfl rfl rfl (λa w h=>⟨⟨by omega,by unfold FP;congr 1;rw[Bool.eq_iff_iff];(try simp)<;>omega⟩,h.Hf (is:=[0]) (js:=[0]) (ks:=[28,29]) ⟨rfl,rfl,rfl,trivial⟩ rfl rfl rfl⟩) ?_
    intro k b hk
    try dsimp only[List.cons_append,List.nil_append] at hk ⊢
    obtain⟨hk,he⟩:=hk
    refine AP 1 ?_;refine AB ?_;refine Af ?_ ?_
    ·intro h4;try simp only[D6] at h4
     refine GC.skip (?_:GC _ _ _ _)
     refine AB ?_;refine GC.block ?_;refine AX ?_;refine GL.step rfl (Ej (i:=0) rfl rfl rfl rfl Tryz.underlying53 GV (by omega) (EW (by omega) (by omega))) (Aa λkX=>Aa λRX=>GL.and λYe=>?_)
     rcases RX with _
     refine GL.step rfl (Ed rfl (ES (i:=0) rfl rfl Ei rfl)) ?_;refine AL 1 ?_;refine AV 2 ?_;refine Ak 35 ?_ ?_
     ·intro h5;try simp only[D6] at h5
      refine AA 5 ?_;refine Ak 40 ?_ ?_
      ·intro h6;try simp only[D6] at h6
       refine AL 4 ?_;refine GC.region ?_;refine AA 2 ?_
       refine Ac (?_:GC _ _ _ _)
       refine GC.region ?_;refine AO rfl (EU rfl rfl (Fh (by omega) (by omega))) ?_;refine AA 1 ?_;refine Ac ?_
       exact O5
      intro h6;try simp only[D6] at h6
      refine AL 4 ?_;refine GC.region ?_;refine AA 2 ?_
      refine Ac (?_:GC _ _ _ _)
      refine GC.region ?_;refine AO rfl (EU rfl rfl (Fh (by omega) (by omega))) ?_;refine AA 1 ?_;refine Ac ?_
      exact O5
     intro h5;try simp only[D6] at h5
     refine AL 9 ?_;refine GC.region ?_;refine AA 2 ?_
     refine Ac (?_:GC _ _ _ _)
     refine GC.region ?_;refine AO rfl (EU rfl rfl (Fh (by omega) (by omega))) ?_;refine AA 1 ?_;refine Ac ?_
     exact O5
    intro h4;try simp only[D6] at h4
    refine GC.exit (?_:GC _ _ _ _)
    refine AB ?_;refine AP 2 ?_;refine Af ?_ ?_
    ·intro h7;try simp only[D6] at h7
     refine AP 1 ?_;refine GC.ret (AQ 2 [] [] ?_)
     obtain rfl:k=l.length:=by omega
     rw[List.drop_of_length_le (Nat.le_refl _)] at he
     refine⟨congrArg (Value.int .i64) ?_,rfl,rfl⟩
     rw[he];simp[LZ, *]
    intro h7;try simp only[D6] at h7
    refine GC.skip (?_:GC _ _ _ _)
    refine AP 1 ?_;refine GC.ret (AQ 2 [] [] ?_)
    obtain rfl:k=l.length:=by omega
    rw[List.drop_of_length_le (Nat.le_refl _)] at he
    refine⟨congrArg (Value.int .i64) ?_,rfl,rfl⟩
    rw[he];simp[LZ, *]
   intro h3;try simp only[D6] at h3
   refine AL 6 ?_;refine AP 1 ?_;refine AB ?_;refine AV 1 ?_;refine Ad 0 ?_;refine AL 2 ?_;refine GC.block ?_;refine CV (ks:=[28,29]) (is:=[0]) (js:=[0]) (fun(k:Nat) (b:Bool)=>k<=l.length/\FP e l=(b && LZ (JX l k) (l.drop k))) (fun(k:Nat) (b:Bool)=>[(3,.bool b),(4,.int .i64 (JX l k)),(30,.int .i64 (k:Int))]) (fun(k:Nat) (b:Bool)=>[]) (fun(k:Nat) (b:Bool)=>[]) (fun(k:Nat) (b:Bool)=>l.length - k) (0) (_) rfl rfl rfl (λa w h=>⟨⟨by omega,by unfold FP;congr 1;rw[Bool.eq_iff_iff];(try simp)<;>omega⟩,h.Hf (is:=[0]) (js:=[0]) (ks:=[28,29]) ⟨rfl,rfl,rfl,trivial⟩ rfl rfl rfl⟩) ?_
   intro k b hk
   try dsimp only[List.cons_append,List.nil_append] at hk ⊢
   obtain⟨hk,he⟩:=hk
   refine AP 1 ?_;refine AB ?_;refine Af ?_ ?_
   ·intro h8;try simp only[D6] at h8
    refine GC.skip (?_:GC _ _ _ _)
    refine AB ?_;refine GC.block ?_;refine AX ?_;refine GL.step rfl (Ej (i:=0) rfl rfl rfl rfl Tryz.underlying53 GV (by omega) (EW (by omega) (by omega))) (Aa λkX=>Aa λRX=>GL.and λYe=>?_)
    rcases RX with _
    refine GL.step rfl (Ed rfl (ES (i:=0) rfl rfl Ei rfl)) ?_;refine AL 1 ?_;refine AV 2 ?_;refine Ak 35 ?_ ?_
    ·intro h9;try simp only[D6] at h9
     refine AA 5 ?_;refine Ak 40 ?_ ?_
     ·intro h10;try simp only[D6] at h10
      refine AL 4 ?_;refine GC.region ?_;refine AA 2 ?_
      refine Ac (?_:GC _ _ _ _)
      refine GC.region ?_;refine AO rfl (EU rfl rfl (Fh (by omega) (by omega))) ?_;refine AA 1 ?_;refine Ac ?_
      exact O5
     intro h10;try simp only[D6] at h10
     refine AL 4 ?_;refine GC.region ?_;refine AA 2 ?_
     refine Ac (?_:GC _ _ _ _)
     refine GC.region ?_;refine AO rfl (EU rfl rfl (Fh (by omega) (by omega))) ?_;refine AA 1 ?_;refine Ac ?_
     exact O5
    intro h9;try simp only[D6] at h9
    refine AL 9 ?_;refine GC.region ?_;refine AA 2 ?_
    refine Ac (?_:GC _ _ _ _)
    refine GC.region ?_;refine AO rfl (EU rfl rfl (Fh (by omega) (by omega))) ?_;refine AA 1 ?_;refine Ac ?_
    exact O5
   intro h8;try simp only[D6] at h8
   refine GC.exit (?_:GC _ _ _ _)
   refine AB ?_;refine AP 2 ?_;refine Af ?_ ?_
   ·intro h11;try simp only[D6] at h11
    refine AP 1 ?_;refine GC.ret (AQ 2 [] [] ?_)
    obtain rfl:k=l.length:=by omega
    rw[List.drop_of_length_le (Nat.le_refl _)] at he
    refine⟨congrArg (Value.int .i64) ?_,rfl,rfl⟩
    rw[he];simp[LZ, *]
   intro h11;try simp only[D6] at h11
   refine GC.skip (?_:GC _ _ _ _)
   refine AP 1 ?_;refine GC.ret (AQ 2 [] [] ?_)
   obtain rfl:k=l.length:=by omega
   rw[List.drop_of_length_le (Nat.le_refl _)] at he
   refine⟨congrArg (Value.int .i64) ?_,rfl,rfl⟩
   rw[he];simp[LZ, *]
  intro h2;try simp only[D6] at h2
  refine AL 12 ?_;refine AP 1 ?_;refine AB ?_;refine AV 1 ?_;refine Ad 0 ?_;refine AL 2 ?_;refine GC.block ?_;refine CV (ks:=[28,29]) (is:=[0]) (js:=[0]) (fun(k:Nat) (b:Bool)=>k<=l.length/\FP e l=(b && LZ (JX l k) (l.drop k))) (fun(k:Nat) (b:Bool)=>[(3,.bool b),(4,.int .i64 (JX l k)),(30,.int .i64 (k:Int))]) (fun(k:Nat) (b:Bool)=>[]) (fun(k:Nat) (b:Bool)=>[]) (fun(k:Nat) (b:Bool)=>l.length - k) (0) (_) rfl rfl rfl (λa w h=>⟨⟨by omega,by unfold FP;congr 1;rw[Bool.eq_iff_iff];(try simp)<;>omega⟩,h.Hf (is:=[0]) (js:=[0]) (ks:=[28,29]) ⟨rfl,rfl,rfl,trivial⟩ rfl rfl rfl⟩) ?_
  intro k b hk
  try dsimp only[List.cons_append,List.nil_append] at hk ⊢
  obtain⟨hk,he⟩:=hk
  refine AP 1 ?_;refine AB ?_;refine Af ?_ ?_
  ·intro h12;try simp only[D6] at h12
   refine GC.skip (?_:GC _ _ _ _)
   refine AB ?_;refine GC.block ?_;refine AX ?_;refine GL.step rfl (Ej (i:=0) rfl rfl rfl rfl Tryz.underlying53 GV (by omega) (EW (by omega) (by omega))) (Aa λkX=>Aa λRX=>GL.and λYe=>?_)
   rcases RX with _
   refine GL.step rfl (Ed rfl (ES (i:=0) rfl rfl Ei rfl)) ?_;refine AL 1 ?_;refine AV 2 ?_;refine Ak 35 ?_ ?_
   ·intro h13;try simp only[D6] at h13
    refine AA 5 ?_;refine Ak 40 ?_ ?_
    ·intro Nb;try simp only[D6] at Nb
     refine AL 4 ?_;refine GC.region ?_;refine AA 2 ?_
     refine Ac (?_:GC _ _ _ _)
     refine GC.region ?_;refine AO rfl (EU rfl rfl (Fh (by omega) (by omega))) ?_;refine AA 1 ?_;refine Ac ?_
     exact O5
    intro Nb;try simp only[D6] at Nb
    refine AL 4 ?_;refine GC.region ?_;refine AA 2 ?_
    refine Ac (?_:GC _ _ _ _)
    refine GC.region ?_;refine AO rfl (EU rfl rfl (Fh (by omega) (by omega))) ?_;refine AA 1 ?_;refine Ac ?_
    exact O5
   intro h13;try simp only[D6] at h13
   refine AL 9 ?_;refine GC.region ?_;refine AA 2 ?_
   refine Ac (?_:GC _ _ _ _)
   refine GC.region ?_;refine AO rfl (EU rfl rfl (Fh (by omega) (by omega))) ?_;refine AA 1 ?_;refine Ac ?_
   exact O5
  intro h12;try simp only[D6] at h12
  refine GC.exit (?_:GC _ _ _ _)
  refine AB ?_;refine AP 2 ?_;refine Af ?_ ?_
  ·intro h15;try simp only[D6] at h15
   refine AP 1 ?_;refine GC.ret (AQ 2 [] [] ?_)
   obtain rfl:k=l.length:=by omega
   rw[List.drop_of_length_le (Nat.le_refl _)] at he
   refine⟨congrArg (Value.int .i64) ?_,rfl,rfl⟩
   rw[he];simp[LZ, *]
  intro h15;try simp only[D6] at h15
  refine GC.skip (?_:GC _ _ _ _)
  refine AP 1 ?_;refine GC.ret (AQ 2 [] [] ?_)
  obtain rfl:k=l.length:=by omega
  rw[List.drop_of_length_le (Nat.le_refl _)] at he
  refine⟨congrArg (Value.int .i64) ?_,rfl,rfl⟩
  rw[he];simp[LZ, *]
 intro h1;try simp only[D6] at h1
 refine AL 17 ?_;refine AP 1 ?_;refine AB ?_;refine AV 1 ?_;refine Ad 0 ?_;refine AL 2 ?_;refine GC.block ?_;refine CV (ks:=[28,29]) (is:=[0]) (js:=[0]) (fun(k:Nat) (b:Bool)=>k<=l.length/\FP e l=(b && LZ (JX l k) (l.drop k))) (fun(k:Nat) (b:Bool)=>[(3,.bool b),(4,.int .i64 (JX l k)),(30,.int .i64 (k:Int))]) (fun(k:Nat) (b:Bool)=>[]) (fun(k:Nat) (b:Bool)=>[]) (fun(k:Nat) (b:Bool)=>l.length - k) (0) (_) rfl rfl rfl (λa w h=>⟨⟨by omega,by unfold FP;congr 1;rw[Bool.eq_iff_iff];(try simp)<;>omega⟩,h.Hf (is:=[0]) (js:=[0]) (ks:=[28,29]) ⟨rfl,rfl,rfl,trivial⟩ rfl rfl rfl⟩) ?_
 intro k b hk
 try dsimp only[List.cons_append,List.nil_append] at hk ⊢
 obtain⟨hk,he⟩:=hk
 refine AP 1 ?_;refine AB ?_;refine Af ?_ ?_
 ·intro h16;try simp only[D6] at h16
  refine GC.skip (?_:GC _ _ _ _)
  refine AB ?_;refine GC.block ?_;refine AX ?_;refine GL.step rfl (Ej (i:=0) rfl rfl rfl rfl Tryz.underlying53 GV (by omega) (EW (by omega) (by omega))) (Aa λkX=>Aa λRX=>GL.and λYe=>?_)
  rcases RX with _
  refine GL.step rfl (Ed rfl (ES (i:=0) rfl rfl Ei rfl)) ?_;refine AL 1 ?_;refine AV 2 ?_;refine Ak 35 ?_ ?_
  ·intro h17;try simp only[D6] at h17
   refine AA 5 ?_;refine Ak 40 ?_ ?_
   ·intro h18;try simp only[D6] at h18
    refine AL 4 ?_;refine GC.region ?_;refine AA 2 ?_
    refine Ac (?_:GC _ _ _ _)
    refine GC.region ?_;refine AO rfl (EU rfl rfl (Fh (by omega) (by omega))) ?_;refine AA 1 ?_;refine Ac ?_
    exact O5
   intro h18;try simp only[D6] at h18
   refine AL 4 ?_;refine GC.region ?_;refine AA 2 ?_
   refine Ac (?_:GC _ _ _ _)
   refine GC.region ?_;refine AO rfl (EU rfl rfl (Fh (by omega) (by omega))) ?_;refine AA 1 ?_;refine Ac ?_
   exact O5
  intro h17;try simp only[D6] at h17
  refine AL 9 ?_;refine GC.region ?_;refine AA 2 ?_
  refine Ac (?_:GC _ _ _ _)
  refine GC.region ?_;refine AO rfl (EU rfl rfl (Fh (by omega) (by omega))) ?_;refine AA 1 ?_;refine Ac ?_
  exact O5
 intro h16;try simp only[D6] at h16
 refine GC.exit (?_:GC _ _ _ _)
 refine AB ?_;refine AP 2 ?_;refine Af ?_ ?_
 ·intro h19;try simp only[D6] at h19
  refine AP 1 ?_;refine GC.ret (AQ 2 [] [] ?_)
  obtain rfl:k=l.length:=by omega
  rw[List.drop_of_length_le (Nat.le_refl _)] at he
  refine⟨congrArg (Value.int .i64) ?_,rfl,rfl⟩
  rw[he];simp[LZ, *]
 intro h19;try simp only[D6] at h19
 refine GC.skip (?_:GC _ _ _ _)
 refine AP 1 ?_;refine GC.ret (AQ 2 [] [] ?_)
 obtain rfl:k=l.length:=by omega
 rw[List.drop_of_length_le (Nat.le_refl _)] at he
 refine⟨congrArg (Value.int .i64) ?_,rfl,rfl⟩
 rw[he];simp[LZ, *]
theorem incI_end{l:List Int}{k:Nat}(h:l.length<=k)(b:Int):LZ b (l.drop k)=true:=by rw[List.drop_of_length_le h];rfl
theorem je{X:Prop}(h:X:=by(exact⟨by rw[if_neg (by unfold FP;simp;omega)];rfl,rfl,rfl⟩)):X:=h
theorem MN(e:Int)(A:Option Addr)(l:List Int)(cp:Nat)(hl:l.length<=140737488355328):Ct Tryz.prog 122 [Qj e A l.length cp] [] [D7.row kI A l] (λu G Q=>u=.int .i64 (if FP e l=true then 0 else 71)/\G=[]/\Q=[]):=by
 refine Ct.intro Tryz.func122 rfl rfl rfl (λc hc=>?_)
 refine AX ?_;refine GL.step rfl (Ee rfl rfl rfl) (Aa λIJ=>?_);refine AL 1 ?_;refine AB ?_;refine AV 1 ?_;refine Ad 0 ?_;refine AA 2 ?_;refine Ak 7 ?_ ?_
 ·intro h1;try simp only[D6] at h1
  refine AL 16 ?_;refine AU rfl ?_;refine AP 1 ?_;refine GC.ret (AQ 2 [] [] ?_)
  exact je
 intro h1;try simp only[D6] at h1
 refine AA 1 ?_;refine Aj 0 ?_;refine AA 3 ?_;refine Ak 12 ?_ ?_
 ·intro h2;try simp only[D6] at h2
  refine AL 11 ?_;refine AU rfl ?_;refine AP 1 ?_;refine GC.ret (AQ 2 [] [] ?_)
  exact je
 intro h2;try simp only[D6] at h2
 refine AA 1 ?_;refine Aj 0 ?_;refine AA 4 ?_;refine Ak 18 ?_ ?_
 ·intro h3;try simp only[D6] at h3
  refine AL 5 ?_;refine AU rfl ?_;refine AP 1 ?_;refine GC.ret (AQ 2 [] [] ?_)
  exact je
 intro h3;try simp only[D6] at h3
 refine AA 1 ?_;refine Aj 0 ?_;refine AL 3 ?_;refine Af ?_ ?_
 ·intro h4;try simp only[D6] at h4
  refine AP 1 ?_;refine GC.ret (AQ 2 [] [] ?_)
  exact je
 intro h4;try simp only[D6] at h4
 refine GC.skip (?_:GC _ _ _ _)
 refine AB ?_;refine AP 1 ?_;refine GC.block ?_;refine Bd (ks:=[1]) (is:=[0]) (js:=[0]) (fun(k:Nat)=>k<=l.length/\LZ (-1) l=LZ (JX l k) (l.drop k) /\ -1<=JX l k) (fun(k:Nat)=>[(3,.int .i64 (k:Int))]) (fun(k:Nat)=>[]) (fun(k:Nat)=>[]) (fun(k:Nat)=>l.length - k) (0) rfl rfl rfl (λa w h=>⟨⟨by omega,rfl,by simp[JX]⟩,h.Hf (is:=[0]) (js:=[0]) (ks:=[1]) ⟨rfl,trivial⟩ rfl rfl rfl⟩) ?_
 intro k hk
 try dsimp only[List.cons_append,List.nil_append] at hk ⊢
 obtain⟨hk,he,hlast⟩:=hk
 refine AB ?_;refine AV 2 ?_;refine Ad 0 ?_;refine AL 2 ?_;refine Af ?_ ?_
 ·intro h5;try simp only[D6] at h5
  refine GC.skip (?_:GC _ _ _ _)
  refine AB ?_;refine GC.block ?_;refine AB ?_
  rcases k with _|k
  ·skip
   refine BM (y:=.tmp 3) (j:=0) rfl rfl (by omega) (EW (by omega) (by omega)) (λp_x34 r_x34 iZ ok_x34=>?_)
   rcases r_x34 with _
   refine BM (y:=.tmp 3) (j:=1) rfl rfl (by omega) (EW (by omega) (by omega)) (λp_x41 r_x41 iW ok_x41=>?_)
   rcases r_x41 with _
   refine BM (y:=.tmp 3) (j:=2) rfl rfl (by omega) (EW (by omega) (by omega)) (λp_x52 r_x52 hA_x52 ok_x52=>?_)
   rcases r_x52 with _
   refine BP Ef (by kernel_rfl) ?_;refine Am 1 ?_;refine GQ.step rfl (Ea (EF (i:=0) rfl rfl JZ rfl)) ?_;refine Am 1 ?_;refine GQ.step rfl (EP (Eb iZ rfl rfl Tryz.underlying53 GV (by omega) (by omega))) ?_
   refine GQ.step rfl (Ea (ES (i:=2) rfl rfl Ei rfl)) ?_;refine Am 2 ?_;refine BJ (i:=37) rfl (λh6=>?_) (λh6=>?_)
   ·try simp only[D6] at h6
    refine Am 11 ?_
    iterate 12 refine Bo (s:=48) rfl rfl rfl ?_
    refine Am 2 ?_
    refine BO (?_:GC _ _ _ _)
    refine AU rfl ?_;refine AP 1 ?_;refine GC.ret (AQ 2 [] [] ?_)
    refine⟨?_,rfl,rfl⟩
    (try simp only[show ∀x:Nat,((x+1:Nat):Int) - 1=x by omega] at *)
    rw[if_neg (by unfold FP;rw[he,P5 (by omega) (by simp only[JX] at hlast ⊢;omega),Bool.and_false];simp)]
    rfl
   try simp only[D6] at h6
   refine Am 1 ?_;refine Ai (s:=37) rfl rfl rfl (Ea (EF (i:=0) rfl rfl JZ rfl)) ?_;refine Am 1 ?_;refine Ai (s:=37) rfl rfl rfl (EP (Eb iW rfl rfl Tryz.underlying53 GV (by omega) (by omega))) ?_
   refine Ai (s:=37) rfl rfl rfl (Ea (ES (i:=1) rfl rfl Ei rfl)) ?_;refine Am 3 ?_;refine BJ (i:=45) rfl (λh7=>?_) (λh7=>?_)
   ·try simp only[D6] at h7
    refine Am 3 ?_
    iterate 12 refine Bo (s:=48) rfl rfl rfl ?_
    refine Am 2 ?_
    refine BO (?_:GC _ _ _ _)
    refine AU rfl ?_;refine AP 1 ?_;refine GC.ret (AQ 2 [] [] ?_)
    refine⟨?_,rfl,rfl⟩
    (try simp only[show ∀x:Nat,((x+1:Nat):Int) - 1=x by omega] at *)
    rw[if_neg (by unfold FP;rw[he,P5 (by omega) (by simp only[JX] at hlast ⊢;omega),Bool.and_false];simp)]
    rfl
   try simp only[D6] at h7
   refine Am 3 ?_;refine BJ (i:=48) rfl (λh8=>?_) (λh8=>?_)
   ·try simp only[D6] at h8
    exfalso;omega
   try simp only[D6] at h8
   refine Am 14 ?_
   refine BO (?_:GC _ _ _ _)
   refine AY rfl ?_
   refine GC.skip (?_:GC _ _ _ _)
   refine GC.region ?_;refine AA 1 ?_;refine AO rfl (EU rfl rfl (Fh (by omega) (by omega))) ?_;refine AA 1 ?_;refine Ac ?_
   (try simp only[show ∀x:Nat,((x+1:Nat):Int) - 1=x by omega] at *)
   exact λa w h=>⟨(_+1),(by omega),⟨by omega,by rw[he,mY (by omega) (by simp only[JX];omega) (by omega)];rfl,by simp only[JX];omega⟩,h.cut (is:=[0]) (js:=[3]) ⟨rfl,rfl,trivial⟩ rfl rfl⟩
  skip
  refine Di (x:=.const (.slice A l.length cp)) (y:=.const (.int .i64 (((k+1:Nat):Int) - 1))) (j:=0) rfl rfl rfl (by omega) (EW (by omega) (by omega)) (λp_xp Ve P6 aC=>?_)
  rcases Ve with _
  refine BM (y:=.tmp 3) (j:=1) rfl rfl (by omega) (EW (by omega) (by omega)) (λp_x34 r_x34 iZ ok_x34=>?_)
  rcases r_x34 with _
  refine BM (y:=.tmp 3) (j:=2) rfl rfl (by omega) (EW (by omega) (by omega)) (λp_x41 r_x41 iW ok_x41=>?_)
  rcases r_x41 with _
  refine BM (y:=.tmp 3) (j:=3) rfl rfl (by omega) (EW (by omega) (by omega)) (λp_x52 r_x52 hA_x52 ok_x52=>?_)
  rcases r_x52 with _
  refine BP Ef (by kernel_rfl) ?_;refine Am 1 ?_;refine GQ.step rfl (Ea (EF (i:=0) rfl rfl JZ rfl)) ?_;refine Am 1 ?_;refine GQ.step rfl (EP (Eb iZ rfl rfl Tryz.underlying53 GV (by omega) (by omega))) ?_
  refine GQ.step rfl (Ea (ES (i:=2) rfl rfl Ei rfl)) ?_;refine Am 2 ?_;refine BJ (i:=37) rfl (λh9=>?_) (λh9=>?_)
  ·try simp only[D6] at h9
   refine Am 11 ?_
   iterate 12 refine Bo (s:=48) rfl rfl rfl ?_
   refine Am 2 ?_
   refine BO (?_:GC _ _ _ _)
   refine AU rfl ?_;refine AP 1 ?_;refine GC.ret (AQ 2 [] [] ?_)
   refine⟨?_,rfl,rfl⟩
   (try simp only[show ∀x:Nat,((x+1:Nat):Int) - 1=x by omega] at *)
   rw[if_neg (by unfold FP;rw[he,P5 (by omega) (by simp only[JX] at hlast ⊢;omega),Bool.and_false];simp)]
   rfl
  try simp only[D6] at h9
  refine Am 1 ?_;refine Ai (s:=37) rfl rfl rfl (Ea (EF (i:=0) rfl rfl JZ rfl)) ?_;refine Am 1 ?_;refine Ai (s:=37) rfl rfl rfl (EP (Eb iW rfl rfl Tryz.underlying53 GV (by omega) (by omega))) ?_
  refine Ai (s:=37) rfl rfl rfl (Ea (ES (i:=1) rfl rfl Ei rfl)) ?_;refine Am 3 ?_;refine BJ (i:=45) rfl (λh10=>?_) (λh10=>?_)
  ·try simp only[D6] at h10
   refine Am 3 ?_
   iterate 12 refine Bo (s:=48) rfl rfl rfl ?_
   refine Am 2 ?_
   refine BO (?_:GC _ _ _ _)
   refine AU rfl ?_;refine AP 1 ?_;refine GC.ret (AQ 2 [] [] ?_)
   refine⟨?_,rfl,rfl⟩
   (try simp only[show ∀x:Nat,((x+1:Nat):Int) - 1=x by omega] at *)
   rw[if_neg (by unfold FP;rw[he,P5 (by omega) (by simp only[JX] at hlast ⊢;omega),Bool.and_false];simp)]
   rfl
  try simp only[D6] at h10
  refine Am 3 ?_;refine BJ (i:=48) rfl (λh11=>?_) (λh11=>?_)
  ·try simp only[D6] at h11
   refine Am 1 ?_;refine Ai (s:=48) rfl rfl rfl (Ea (EF (i:=0) rfl rfl JZ rfl)) ?_;refine Am 1 ?_;refine Ai (s:=48) rfl rfl rfl (EP (Eb hA_x52 rfl rfl Tryz.underlying53 GV (by omega) (by omega))) ?_
   refine Ai (s:=48) rfl rfl rfl (Ea (ES (i:=0) rfl rfl Ei rfl)) ?_;refine Am 1 ?_;refine Ai (s:=48) rfl rfl rfl (Ea (EF (i:=0) rfl rfl JZ rfl)) ?_;refine Am 1 ?_;refine Ai (s:=48) rfl rfl rfl (EP (Jv rfl rfl (Fh (by omega) (by omega)))) ?_
   refine Ai (s:=48) rfl rfl rfl (EP (Eb P6 rfl rfl Tryz.underlying53 GV (by omega) (by omega))) ?_;refine Ai (s:=48) rfl rfl rfl (Ea (ES (i:=3) rfl rfl Ei rfl)) ?_;refine Am 3 ?_
   refine BO (?_:GC _ _ _ _)
   refine Af ?_ ?_
   ·intro h12;try simp only[D6] at h12
    refine AP 1 ?_;refine GC.ret (AQ 2 [] [] ?_)
    refine⟨?_,rfl,rfl⟩
    (try simp only[show ∀x:Nat,((x+1:Nat):Int) - 1=x by omega] at *)
    rw[if_neg (by unfold FP;rw[he,P5 (by omega) (by simp only[JX] at hlast ⊢;omega),Bool.and_false];simp)]
    rfl
   intro h12;try simp only[D6] at h12
   refine GC.skip (?_:GC _ _ _ _)
   refine GC.region ?_;refine AA 1 ?_;refine AO rfl (EU rfl rfl (Fh (by omega) (by omega))) ?_;refine AA 1 ?_;refine Ac ?_
   (try simp only[show ∀x:Nat,((x+1:Nat):Int) - 1=x by omega] at *)
   exact λa w h=>⟨(_+1),(by omega),⟨by omega,by rw[he,mY (by omega) (by simp only[JX];omega) (by omega)];rfl,by simp only[JX];omega⟩,h.cut (is:=[0]) (js:=[4]) ⟨rfl,rfl,trivial⟩ rfl rfl⟩
  try simp only[D6] at h11
  exfalso;omega
 intro h5;try simp only[D6] at h5
 refine GC.exit (?_:GC _ _ _ _)
 refine AP 1 ?_;refine GC.ret (AQ 2 [] [] ?_)
 exact⟨by rw[if_pos (by unfold FP;rw[he,incI_end (by omega)];simp;omega)];rfl,rfl,rfl⟩
def VQ(e:Int)(l:List Int)(f:Int)(m:List Int):Bool:=decide (e=f) && decide (l=m)
theorem jd{X:Prop}(h:X:=by(first|(rw[decide_eq_false (show ¬e=f by assumption)];rfl)|(rw[decide_eq_false (show ¬l=m from λg=>by subst g;first|omega|contradiction),Bool.and_false])|(rw[decide_eq_true (show e=f by omega),decide_eq_true (nJ (by omega) λj hj=>he j (by omega))];rfl))):X:=h
theorem qA(e:Int)(A:Option Addr)(l:List Int)(cp:Nat)(f:Int)(B:Option Addr)(m:List Int)(cq:Nat)(hl:l.length<=140737488355328):Ct Tryz.prog 27 [Qj e A l.length cp,Qj f B m.length cq] [] [D7.row kI A l,D7.row kI B m] (λu G Q=>u=.bool (VQ e l f m)/\G=[]/\Q=[]):=by
 refine Ct.intro Tryz.func27 rfl rfl rfl (λc hc=>?_)
 refine AX ?_;refine GL.step rfl (Ee rfl rfl rfl) (Aa λGm=>?_);refine GL.step rfl (Ee rfl rfl rfl) (Aa λFQ=>?_);refine AL 1 ?_;refine AB ?_;refine AV 1 ?_;refine Ad 1 ?_
 refine AA 1 ?_;refine Ad 0 ?_;refine AA 2 ?_;refine Ak 11 ?_ ?_
 ·intro h1;try simp only[D6] at h1
  refine AL 8 ?_;refine AU rfl ?_;refine AP 1 ?_;refine GC.ret (AQ 4 [] [] ?_)
  refine⟨congrArg Value.bool ?_,rfl,rfl⟩
  unfold VQ
  symm
  exact jd
 intro h1;try simp only[D6] at h1
 refine AA 1 ?_;refine Aj 1 ?_;refine AA 2 ?_;refine Aj 0 ?_;refine AL 3 ?_;refine Af ?_ ?_
 ·intro h2;try simp only[D6] at h2
  refine AP 1 ?_;refine GC.ret (AQ 4 [] [] ?_)
  refine⟨congrArg Value.bool ?_,rfl,rfl⟩
  unfold VQ
  symm
  exact jd
 intro h2;try simp only[D6] at h2
 refine GC.skip (?_:GC _ _ _ _)
 refine AB ?_;refine AP 1 ?_;refine GC.block ?_;refine Bd (ks:=[2,3]) (is:=[0,1]) (js:=[0,1]) (fun(k:Nat)=>k<=l.length/\∀j:Nat,j<k->gt l (j:Int)=gt m (j:Int)) (fun(k:Nat)=>[(5,.int .i64 (k:Int))]) (fun(k:Nat)=>[]) (fun(k:Nat)=>[]) (fun(k:Nat)=>l.length - k) (0) rfl rfl rfl (λa w h=>⟨⟨by omega,λj hj=>by omega⟩,h.Hf (is:=[0,0]) (js:=[0,1]) (ks:=[2,3]) ⟨rfl,trivial⟩ rfl rfl rfl⟩) ?_
 intro k hk
 try dsimp only[List.cons_append,List.nil_append] at hk ⊢
 obtain⟨hk,he⟩:=hk
 refine AB ?_;refine AV 2 ?_;refine Ad 1 ?_;refine AL 2 ?_;refine Af ?_ ?_
 ·intro h3;try simp only[D6] at h3
  refine GC.skip (?_:GC _ _ _ _)
  refine AB ?_;refine GC.block ?_;refine AB ?_;refine BM (y:=.tmp 5) (j:=0) rfl rfl (by omega) (EW (by omega) (by omega)) (λp_x30 r_x30 hA_x30 ok_x30=>?_)
  rcases r_x30 with _
  refine BM (y:=.tmp 5) (j:=2) rfl rfl (by omega) (EW (by omega) (by omega)) (λp_x35 Zp Yz ok_x35=>?_)
  rcases Zp with _
  refine BP Ef (by kernel_rfl) ?_;refine Am 1 ?_;refine GQ.step rfl (Ea (EF (i:=1) rfl rfl JZ rfl)) ?_;refine Am 1 ?_;refine GQ.step rfl (EP (Eb hA_x30 rfl rfl Tryz.underlying53 GV (by omega) (by omega))) ?_
  refine GQ.step rfl (Ea (ES (i:=1) rfl rfl Ei rfl)) ?_;refine Am 1 ?_;refine GQ.step rfl (Ea (EF (i:=0) rfl rfl JZ rfl)) ?_;refine Am 1 ?_;refine GQ.step rfl (EP (Eb Yz rfl rfl Tryz.underlying53 GV (by omega) (by omega))) ?_
  refine GQ.step rfl (Ea (ES (i:=0) rfl rfl Ei rfl)) ?_;refine Am 1 ?_
  refine BO (?_:GC _ _ _ _)
  refine Af ?_ ?_
  ·intro h4;try simp only[D6] at h4
   refine AP 1 ?_;refine GC.ret (AQ 4 [] [] ?_)
   refine⟨congrArg Value.bool ?_,rfl,rfl⟩
   unfold VQ
   symm
   exact jd
  intro h4;try simp only[D6] at h4
  refine GC.skip (?_:GC _ _ _ _)
  refine GC.region ?_;refine AA 1 ?_;refine AO rfl (EU rfl rfl (Fh (by omega) (by omega))) ?_;refine AA 1 ?_;refine Ac ?_
  exact λa w h=>⟨(k+1),(by omega),⟨by omega,λj hj=>(Nat.lt_succ_iff_lt_or_eq.1 hj).elim (he j) (λe=>by subst e;omega)⟩,h.ct [0,0] [2,3]⟩
 intro h3;try simp only[D6] at h3
 refine GC.exit (?_:GC _ _ _ _)
 refine AP 1 ?_;refine GC.ret (AQ 4 [] [] ?_)
 refine⟨congrArg Value.bool ?_,rfl,rfl⟩
 unfold VQ
 symm
 exact jd
theorem grp_len{e:Int}{l:List Int}(h:FP e l=true):1<=l.length/\l.length<=9/\0<=e/\e<=4611686018427387904:=by simp[FP] at h;omega
def okRow(r:Row):Prop:=((Lit.int .i64 r.client).wf=true)/\((Lit.int .i64 r.serial).wf=true)/\(okRes r.result)
theorem opensRow:Opens Tryz.prog 166 Jz okRow:=Opens.struct Tryz.underlying166 (E5.cons (Opens.int Tryz.underlying3) (by kernel_rfl) rfl (E5.cons (Opens.int Tryz.underlying3) (by kernel_rfl) rfl (E5.one Z_ (by kernel_rfl)))) (by kernel_rfl) (λr:Row=>(r.client,r.serial,r.result)) (λp=>(⟨p.1,p.2.1,p.2.2⟩:Row)) (λ_=>rfl)
def FK:Nat->Nat->List UInt8
 |0,_=>[]
 |n+1,v=>UInt8.ofNat (v % 256)::FK n (v / 256)
def GH:List UInt8->Nat
 |[]=>0
 |b::r=>b.toNat+256 * GH r
theorem D_:∀(n v:Nat),(FK n v).length=n
 |0,_=>rfl
 |n+1,v=>by rw[FK,List.length_cons,D_ n]
theorem Ry:∀(k v:Nat),FK (k+1) v=FK k v++[UInt8.ofNat (v / 256 ^ k % 256)]
 |0,v=>by simp[FK]
 |k+1,v=>by
  rw[FK,Ry k (v / 256),FK,List.cons_append,Nat.div_div_eq_div_mul,Nat.pow_succ,Nat.mul_comm 256]
theorem YG:∀(l:List UInt8),GH l<256 ^ l.length
 |[]=>by simp[GH]
 |b::r=>by
  have:=YG r
  have hb:=b.toNat_lt
  rw[GH,List.length_cons,Nat.pow_succ]
  omega
theorem Xf:∀(l:List UInt8) (b:UInt8),GH (l++[b])=GH l+b.toNat * 256 ^ l.length
 |[],b=>by simp[GH]
 |c::r,b=>by
  rw[List.cons_append,GH,GH,Xf r b,List.length_cons,Nat.pow_succ,Nat.mul_add,<-Nat.add_assoc]
  congr 1
  rw[Nat.mul_left_comm,Nat.mul_comm 256]
theorem ofNat_mod(v:Nat):(UInt8.ofNat (v % 256)).toNat=v % 256:=by simp
theorem PU:∀(n v:Nat),v<256 ^ n->GH (FK n v)=v
 |0,v,h=>by simp at h;subst h;rfl
 |n+1,v,h=>by
  rw[Nat.pow_succ] at h
  rw[FK,GH,PU n (v / 256) (Nat.div_lt_of_lt_mul (by rw[Nat.mul_comm];exact h)),ofNat_mod]
  omega
theorem nI(v p:Nat):(v:Int).fdiv ((p:Nat):Int)=((v / p:Nat):Int):=by
 rw[Int.fdiv_eq_ediv_of_nonneg _ (by omega)];rfl
theorem fP(k:Nat):256 ^ k=2 ^ (8 * k):=by rw[Nat.pow_mul]
theorem shr8{v k:Nat}(hk:k<=8):(v:Int).fdiv (2 ^ (min ((8 * k:Nat):Int).toNat IntKind.u64.bits))=((v / 256 ^ k:Nat):Int):=by
 have h1:min ((8 * k:Nat):Int).toNat IntKind.u64.bits=8 * k:=by show min _ 64=_;omega
 rw[h1,fP,<-nI];norm_cast
theorem Qk(m:Nat):IntKind.u8.wrap (m:Int)=((UInt8.ofNat (m % 256)).toNat:Int):=by
 rw[ofNat_mod]
 simp[IntKind.wrap,IntKind.bits,IntKind.signed]
theorem wrap64{m:Nat}(h:m<18446744073709551616):IntKind.u64.wrap (m:Int)=(m:Int):=by
 simp[IntKind.wrap,IntKind.bits,IntKind.signed];omega
theorem bn{m:Int}(h:0<=m)(h':m<18446744073709551616):IntKind.u64.wrap m=m:=by
 simp[IntKind.wrap,IntKind.bits,IntKind.signed];omega
theorem cvU'(m:Int):IntKind.u64.wrap m=((m % 18446744073709551616).toNat:Int):=by
 simp[IntKind.wrap,IntKind.bits,IntKind.signed];omega
theorem W9{m:Int}(h:-9223372036854775808<=m)(h':m<=9223372036854775807):IntKind.i64.wrap m=m:=by
 simp[IntKind.wrap,IntKind.bits,IntKind.signed];omega
theorem ofInt64{m:Nat}:BitVec.ofInt 64 (m:Int)=BitVec.ofNat 64 m:=by
 apply BitVec.eq_of_toNat_eq;simp
theorem or8{a c k:Nat}(hk:k<=7)(ha:a<256 ^ k)(hc:c<256):IntKind.u64.wrap ((BitVec.ofInt IntKind.u64.bits (a:Int) ||| BitVec.ofInt IntKind.u64.bits ((c * 256 ^ k:Nat):Int)).toNat:Int)=((a+c * 256 ^ k:Nat):Int):=by
 have h7:256 ^ k<=256 ^ 7:=Nat.pow_le_pow_right (by decide) hk
 have h8:(256:Nat) ^ 7=72057594037927936:=by decide
 have hb:c * 256 ^ k<=255 * 256 ^ k:=Nat.mul_le_mul_right _ (by omega)
 show IntKind.u64.wrap ((BitVec.ofInt 64 (a:Int) ||| BitVec.ofInt 64 ((c * 256 ^ k:Nat):Int)).toNat:Int)=_
 have e:(BitVec.ofInt 64 (a:Int) ||| BitVec.ofInt 64 ((c * 256 ^ k:Nat):Int)).toNat=a+c * 256 ^ k:=by
  rw[ofInt64,ofInt64,BitVec.toNat_or,BitVec.toNat_ofNat,BitVec.toNat_ofNat,Nat.mod_eq_of_lt (by omega),Nat.mod_eq_of_lt (by omega)]
  rw[fP] at ha ⊢
  have:=Nat.shiftLeft_add_eq_or_of_lt ha c
  rw[Nat.shiftLeft_eq] at this
  rw[Nat.or_comm,<-this];omega
 rw[e]
 exact wrap64 (by omega)
theorem shl8{c k:Nat}(hk:k<=7)(hc:c<256):IntKind.u64.wrap ((c:Int) * 2 ^ (min ((8 * k:Nat):Int).toNat IntKind.u64.bits))=((c * 256 ^ k:Nat):Int):=by
 have h1:min ((8 * k:Nat):Int).toNat IntKind.u64.bits=8 * k:=by show min _ 64=_;omega
 have h7:256 ^ k<=256 ^ 7:=Nat.pow_le_pow_right (by decide) hk
 have h8:(256:Nat) ^ 7=72057594037927936:=by decide
 have hb:c * 256 ^ k<=255 * 256 ^ k:=Nat.mul_le_mul_right _ (by omega)
 have e:(c:Int) * 2 ^ (8 * k)=((c * 256 ^ k:Nat):Int):=by rw[fP];norm_cast
 rw[h1,e]
 exact wrap64 (by omega)
structure Ld where
 epoch:Int
 members:List Int
 deriving Inhabited,DecidableEq
def kGrp:Kd Ld:=Cj (BU (Kd.int .i64) (Kd.slice (Kd.int .i64))) (λr=>(r.epoch,r.members))
def lK(r:Ld):Prop:=((Lit.int .i64 r.epoch).wf=true)/\((r.members.length * 8<=140737488351232/\∀y∈r.members,(Lit.int .i64 y).wf=true))
theorem Vt:Opens Tryz.prog 55 kGrp lK:=Opens.struct Tryz.underlying55 (E5.cons (Opens.int Tryz.underlying3) (by kernel_rfl) rfl (E5.one (Opens.slice Tryz.underlying53 (Opens.int Tryz.underlying3) (by kernel_rfl) (by decide) (by kernel_rfl:Program.bytesOf Tryz.prog 3=8)) (by kernel_rfl))) (by kernel_rfl) (λr:Ld=>(r.epoch,r.members)) (λp=>(⟨p.1,p.2⟩:Ld)) (λ_=>rfl)
structure Entry where
 kind:Int
 num:Int
 view:Int
 client:Int
 serial:Int
 op:LM
 grp:Ld
 deriving Inhabited,DecidableEq
def JV:Kd Entry:=Cj (BU (Kd.int .u8) (BU (Kd.int .i64) (BU (Kd.int .i64) (BU (Kd.int .i64) (BU (Kd.int .i64) (BU kOpD (kGrp))))))) (λr=>(r.kind,r.num,r.view,r.client,r.serial,r.op,r.grp))
def Yg(r:Entry):Prop:=((Lit.int .u8 r.kind).wf=true)/\((Lit.int .i64 r.num).wf=true)/\((Lit.int .i64 r.view).wf=true)/\((Lit.int .i64 r.client).wf=true)/\((Lit.int .i64 r.serial).wf=true)/\(okOpD r.op)/\(lK r.grp)
theorem gI:Opens Tryz.prog 97 JV Yg:=Opens.struct Tryz.underlying97 (E5.cons (Opens.int Tryz.underlying95) (by kernel_rfl) rfl (E5.cons (Opens.int Tryz.underlying3) (by kernel_rfl) rfl (E5.cons (Opens.int Tryz.underlying3) (by kernel_rfl) rfl (E5.cons (Opens.int Tryz.underlying3) (by kernel_rfl) rfl (E5.cons (Opens.int Tryz.underlying3) (by kernel_rfl) rfl (E5.cons aA (by kernel_rfl) rfl (E5.one Vt (by kernel_rfl)))))))) (by kernel_rfl) (λr:Entry=>(r.kind,r.num,r.view,r.client,r.serial,r.op,r.grp)) (λp=>(⟨p.1,p.2.1,p.2.2.1,p.2.2.2.1,p.2.2.2.2.1,p.2.2.2.2.2.1,p.2.2.2.2.2.2⟩:Entry)) (λ_=>rfl)
structure I4 where
 num:Int
 Jo:Shp
 pages:List F5
 rows:List Row
 grp:Ld
 deriving Inhabited,DecidableEq
def kStt:Kd I4:=Cj (BU (Kd.int .i64) (BU kShp (BU (Kd.slice GR) (BU (Kd.slice Jz) (kGrp))))) (λr=>(r.num,r.Jo,r.pages,r.rows,r.grp))
def okStt(r:I4):Prop:=((Lit.int .i64 r.num).wf=true)/\(okShp r.Jo)/\((r.pages.length * 40<=140737488351232/\∀y∈r.pages,okPage y))/\((r.rows.length * 48<=140737488351232/\∀y∈r.rows,okRow y))/\(lK r.grp)
theorem opensStt:Opens Tryz.prog 61 kStt okStt:=Opens.struct Tryz.underlying61 (E5.cons (Opens.int Tryz.underlying3) (by kernel_rfl) rfl (E5.cons opensShp (by kernel_rfl) rfl (E5.cons (Opens.slice Tryz.underlying58 qJ (by kernel_rfl) (by decide) (by kernel_rfl:Program.bytesOf Tryz.prog 164=40)) (by kernel_rfl) rfl (E5.cons (Opens.slice Tryz.underlying59 opensRow (by kernel_rfl) (by decide) (by kernel_rfl:Program.bytesOf Tryz.prog 166=48)) (by kernel_rfl) rfl (E5.one Vt (by kernel_rfl)))))) (by kernel_rfl) (λr:I4=>(r.num,r.Jo,r.pages,r.rows,r.grp)) (λp=>(⟨p.1,p.2.1,p.2.2.1,p.2.2.2.1,p.2.2.2.2⟩:I4)) (λ_=>rfl)
structure GZ where
 kind:Int
 src:Int
 dst:Int
 epoch:Int
 view:Int
 num:Int
 commit:Int
 normal:Int
 Ez:Int
 client:Int
 serial:Int
 op:LM
 res:J4
 grp:Ld
 stt:I4
 log:List Entry
 deriving Inhabited,DecidableEq
def kMsg:Kd GZ:=Cj (BU (Kd.int .u8) (BU (Kd.int .i64) (BU (Kd.int .i64) (BU (Kd.int .i64) (BU (Kd.int .i64) (BU (Kd.int .i64) (BU (Kd.int .i64) (BU (Kd.int .i64) (BU (Kd.int .u64) (BU (Kd.int .i64) (BU (Kd.int .i64) (BU kOpD (BU kRes (BU kGrp (BU kStt (Kd.slice JV)))))))))))))))) (λr=>(r.kind,r.src,r.dst,r.epoch,r.view,r.num,r.commit,r.normal,r.Ez,r.client,r.serial,r.op,r.res,r.grp,r.stt,r.log))
def lJ(r:GZ):Prop:=((Lit.int .u8 r.kind).wf=true)/\((Lit.int .i64 r.src).wf=true)/\((Lit.int .i64 r.dst).wf=true)/\((Lit.int .i64 r.epoch).wf=true)/\((Lit.int .i64 r.view).wf=true)/\((Lit.int .i64 r.num).wf=true)/\((Lit.int .i64 r.commit).wf=true)/\((Lit.int .i64 r.normal).wf=true)/\((Lit.int .u64 r.Ez).wf=true)/\((Lit.int .i64 r.client).wf=true)/\((Lit.int .i64 r.serial).wf=true)/\(okOpD r.op)/\(okRes r.res)/\(lK r.grp)/\(okStt r.stt)/\((r.log.length * 144<=140737488351232/\∀y∈r.log,Yg y))
theorem opensMsg:Opens Tryz.prog 64 kMsg lJ:=Opens.struct Tryz.underlying64 (E5.cons (Opens.int Tryz.underlying44) (by kernel_rfl) rfl (E5.cons (Opens.int Tryz.underlying3) (by kernel_rfl) rfl (E5.cons (Opens.int Tryz.underlying3) (by kernel_rfl) rfl (E5.cons (Opens.int Tryz.underlying3) (by kernel_rfl) rfl (E5.cons (Opens.int Tryz.underlying3) (by kernel_rfl) rfl (E5.cons (Opens.int Tryz.underlying3) (by kernel_rfl) rfl (E5.cons (Opens.int Tryz.underlying3) (by kernel_rfl) rfl (E5.cons (Opens.int Tryz.underlying3) (by kernel_rfl) rfl (E5.cons (Opens.int Tryz.underlying45) (by kernel_rfl) rfl (E5.cons (Opens.int Tryz.underlying3) (by kernel_rfl) rfl (E5.cons (Opens.int Tryz.underlying3) (by kernel_rfl) rfl (E5.cons aA (by kernel_rfl) rfl (E5.cons Z_ (by kernel_rfl) rfl (E5.cons Vt (by kernel_rfl) rfl (E5.cons opensStt (by kernel_rfl) rfl (E5.one (Opens.slice Tryz.underlying62 gI (by kernel_rfl) (by decide) (by kernel_rfl:Program.bytesOf Tryz.prog 97=144)) (by kernel_rfl))))))))))))))))) (by kernel_rfl) (λr:GZ=>(r.kind,r.src,r.dst,r.epoch,r.view,r.num,r.commit,r.normal,r.Ez,r.client,r.serial,r.op,r.res,r.grp,r.stt,r.log)) (λp=>(⟨p.1,p.2.1,p.2.2.1,p.2.2.2.1,p.2.2.2.2.1,p.2.2.2.2.2.1,p.2.2.2.2.2.2.1,p.2.2.2.2.2.2.2.1,p.2.2.2.2.2.2.2.2.1,p.2.2.2.2.2.2.2.2.2.1,p.2.2.2.2.2.2.2.2.2.2.1,p.2.2.2.2.2.2.2.2.2.2.2.1,p.2.2.2.2.2.2.2.2.2.2.2.2.1,p.2.2.2.2.2.2.2.2.2.2.2.2.2.1,p.2.2.2.2.2.2.2.2.2.2.2.2.2.2.1,p.2.2.2.2.2.2.2.2.2.2.2.2.2.2.2⟩:GZ)) (λ_=>rfl)
def Iw:LM:=⟨0,0,0,[],[]⟩
def Le:Ld:=⟨0,[]⟩
def PI:I4:=⟨0,⟨0,0⟩,[],[],Le⟩
def UW:GZ:=⟨0,0,0,0,0,0,0,0,0,0,0,Iw,rz,Le,PI,[]⟩
abbrev lI(o:LM)(A:Option Addr)(cp:Nat)(B:Option Addr)(cq:Nat):Value:=opV o.kind o.at_ o.n A o.data.length cp B o.old.length cq
abbrev Wj(e:Entry)(A:Option Addr)(cp:Nat)(B:Option Addr)(cq:Nat)(C:Option Addr)(cr:Nat):Value:=.agg #[.int .u8 e.kind,.int .i64 e.num,.int .i64 e.view,.int .i64 e.client,.int .i64 e.serial,.int .u8 e.op.kind,.int .i64 e.op.at_,.int .i64 e.op.n,.slice A e.op.data.length cp,.slice B e.op.old.length cq,.int .i64 e.grp.epoch,.slice C e.grp.members.length cr]
abbrev Wn(e:Entry)(A B C:Option Addr):List D7:=[D7.row Kd.u8 A e.op.data,D7.row Kd.u8 B e.op.old,D7.row kI C e.grp.members]
abbrev Nw(s:I4)(A:Option Addr)(cp:Nat)(B:Option Addr)(cq:Nat)(C:Option Addr)(cr:Nat):Value:=.agg #[.int .i64 s.num,.int .i64 s.Jo.bl,.int .i64 s.Jo.sz,.slice A s.pages.length cp,.slice B s.rows.length cq,.int .i64 s.grp.epoch,.slice C s.grp.members.length cr]
abbrev NW(s:I4)(A B C:Option Addr):List D7:=[D7.row GR A s.pages,D7.row Jz B s.rows,D7.row kI C s.grp.members]
structure Lie where
 a1:Option Addr
 c1:Nat
 a2:Option Addr
 c2:Nat
 a3:Option Addr
 c3:Nat
 a4:Option Addr
 c4:Nat
 a5:Option Addr
 c5:Nat
 a6:Option Addr
 c6:Nat
 a7:Option Addr
 c7:Nat
 a8:Option Addr
 c8:Nat
abbrev msgL(m:GZ)(s:Lie):List Value:=[.int .u8 m.kind,.int .i64 m.src,.int .i64 m.dst,.int .i64 m.epoch,.int .i64 m.view,.int .i64 m.num,.int .i64 m.commit,.int .i64 m.normal,.int .u64 m.Ez,.int .i64 m.client,.int .i64 m.serial,
 .int .u8 m.op.kind,.int .i64 m.op.at_,.int .i64 m.op.n,.slice s.a1 m.op.data.length s.c1,.slice s.a2 m.op.old.length s.c2,.int .u8 m.res.code,.slice s.a3 m.res.data.length s.c3,.int .i64 m.grp.epoch,.slice s.a4 m.grp.members.length s.c4,
 .int .i64 m.stt.num,.int .i64 m.stt.Jo.bl,.int .i64 m.stt.Jo.sz,.slice s.a5 m.stt.pages.length s.c5,.slice s.a6 m.stt.rows.length s.c6,.int .i64 m.stt.grp.epoch,.slice s.a7 m.stt.grp.members.length s.c7,.slice s.a8 m.log.length s.c8]
abbrev Ip(m:GZ)(s:Lie):Value:=.agg (msgL m s).toArray
abbrev H9(m:GZ)(s:Lie):List D7:=[D7.row Kd.u8 s.a1 m.op.data,D7.row Kd.u8 s.a2 m.op.old,D7.row Kd.u8 s.a3 m.res.data,D7.row kI s.a4 m.grp.members,D7.row GR s.a5 m.stt.pages,D7.row Jz s.a6 m.stt.rows,D7.row kI s.a7 m.stt.grp.members,D7.row JV s.a8 m.log]
abbrev KQ(n:Nat):Prop:=n<=140737488351232
structure Lp(e:Entry):Prop where
 d:KQ e.op.data.length
 o:KQ e.op.old.length
 m:e.grp.members.length<=17592186043904
structure IU(s:I4):Prop where
 p:s.pages.length<=17592186043904
 r:s.rows.length<=17592186043904
 m:s.grp.members.length<=17592186043904
 pd:∀p∈s.pages,KQ p.data.length
 rd:∀r∈s.rows,KQ r.result.data.length
structure FT(m:GZ):Prop where
 d:KQ m.op.data.length
 o:KQ m.op.old.length
 r:KQ m.res.data.length
 g:m.grp.members.length<=17592186043904
 s:IU m.stt
 l:m.log.length<=17592186043904
 e:∀e∈m.log,Lp e
def Jp(o:LM):Prop:=SE o.kind o.at_ o.n o.data.length o.old.length
instance (o:LM):Decidable (Jp o):=by unfold Jp;infer_instance
def JD(n:Int):Prop:=0<=n/\n<=4611686018427387904
instance (n:Int):Decidable (JD n):=by unfold JD;infer_instance
def Eo(e:Entry):Prop:=isNum e.num=true/\isNum e.client=true/\isNum e.serial=true/\JD e.view/\((e.kind=1/\Jp e.op/\e.grp.epoch=0/\e.grp.members.length=0)\/(e.kind=2/\e.op=Iw/\FP e.grp.epoch e.grp.members=true/\e.view<4611686018427387904))
instance (e:Entry):Decidable (Eo e):=by unfold Eo;infer_instance
def Oy(e:Entry):Int:=if Eo e then 0 else 71
def Gj(s:I4):Prop:=JD s.num/\FP s.grp.epoch s.grp.members=true/\G5 s.Jo.bl s.Jo.sz/\IC s.Jo.bl s.Jo.sz (-1) s.pages=true/\Ie s.rows=true/\∀p∈s.pages,p.ver<=s.num
instance (s:I4):Decidable (Gj s):=by unfold Gj;infer_instance
def Oi(l:List Entry):Prop:=∀k:Nat,k<l.length->Eo (gt l (k:Int))/\(0<k->(gt l (k:Int)).num - 1=(gt l ((k:Int) - 1)).num)
instance (l:List Entry):Decidable (Oi l):=by unfold Oi;infer_instance
def who(n:Int):Prop := -4611686018427387904<=n/\n<64
instance (n:Int):Decidable (who n):=by unfold who;infer_instance
def Vy(m:GZ):Prop:=JD m.epoch/\JD m.view/\JD m.num/\JD m.commit/\JD m.normal/\JD m.client/\JD m.serial
instance (m:GZ):Decidable (Vy m):=by unfold Vy;infer_instance
def QV(m:GZ):Prop:=(m.op=Iw\/Jp m.op)/\(m.res=rz\/Ic m.res.code m.res.data.length=true)/\(m.grp=Le\/FP m.grp.epoch m.grp.members=true)/\(m.stt=PI\/Gj m.stt)
instance (m:GZ):Decidable (QV m):=by unfold QV;infer_instance
def IX(m:GZ):Prop:=Vy m/\1<=m.kind/\m.kind<=14/\who m.src/\who m.dst/\QV m/\Oi m.log
instance (m:GZ):Decidable (IX m):=by unfold IX;infer_instance
def aN(m:GZ):Int:=if IX m then 0 else 160
theorem E_(e:Entry):(Oy e=0)=Eo e:=by unfold Oy;split<;>simp_all
theorem Ru(m:GZ):(aN m=0)=IX m:=by unfold aN;split<;>simp_all
theorem MO(b:Bool):((if b=true then (0:Int) else 42)=0)=(b=true):=by cases b<;>simp
theorem D9(b:Bool):((if b=true then (0:Int) else 71)=0)=(b=true):=by cases b<;>simp
end Go.Proofs.YtliacpkblicnhaaGreat
namespace Go.Proofs.YtliacpkblicnhaaGreat
open Go Go.Sx Go.Proofs
section
variable {P:Program}{n:Nat}{env:List (Nat×Value)}{d:Nat}{t u ty:TypeId}{pos:String}{Ew:Array Edge}{g:Option (Nat×Bool)}{x y:Operand}{k k' yk:IntKind}{m l r:Int}
theorem EO(ht:P.underlying t≠none)(hu:P.underlying u=some (.int k'))(hx:ev env x=some (.int k m))(hr:k'.wrap m=r):Pv P n env ⟨some d,.convert t u x,ty,pos,Ew,g⟩ (.int k' r):=hr▸NH ht hu hx
theorem p_shlR(hx:ev env x=some (.int k m))(hy:ev env y=some (.int yk l))(h0:0<=l)(hr:k.wrap (m * 2 ^ (min l.toNat k.bits))=r):Pv P n env ⟨some d,.binOp .shl t x y u,ty,pos,Ew,g⟩ (.int k r):=hr▸p_shl hx hy h0
theorem Pj(hx:ev env x=some (.int k m))(hy:ev env y=some (.int yk l))(h0:0<=l)(hr:m.fdiv (2 ^ (min l.toNat k.bits))=r):Pv P n env ⟨some d,.binOp .shr t x y u,ty,pos,Ew,g⟩ (.int k r):=hr▸p_shr hx hy h0
theorem Vq(hx:ev env x=some (.int k m))(hy:ev env y=some (.int k l))(hr:k.wrap ((BitVec.ofInt k.bits m ||| BitVec.ofInt k.bits l).toNat:Int)=r):Pv P n env ⟨some d,.binOp .or t x y u,ty,pos,Ew,g⟩ (.int k r):=hr▸p_or hx hy
theorem Js(hx:ev env x=some (.int k m))(hy:ev env y=some (.int k l))(hr:k.wrap ((BitVec.ofInt k.bits m &&& BitVec.ofInt k.bits l).toNat:Int)=r):Pv P n env ⟨some d,.binOp .and t x y u,ty,pos,Ew,g⟩ (.int k r):=hr▸p_and hx hy
end
end Go.Proofs.YtliacpkblicnhaaGreat
namespace Go.Proofs.YtliacpkblicnhaaGreat
open Go Go.Sx Go.Proofs
theorem Ct.drop{P:Program}{f:FuncId}{args:List Value}{G:List Own}{Q:List D7}{R:Value->List Own->List D7->Prop}{R':Value->Prop}(h:Ct P f args G Q R)(hr:∀v G' Q',R v G' Q'->R' v):Ct P f args G Q (λv G' Q'=>R' v/\G'=[]/\Q'=[]) :=
 λw S hh=>(h w S hh).mono λe w' ⟨v,G',Q',S',h1,h2,h3,h4,h5,h6⟩=>⟨v,[],[],S',h1,⟨hr _ _ _ h2,rfl,rfl⟩,h3.sub (List.nil_sublist _) (λq hq=>by cases hq),h4,h5,λk hk=>by cases hk⟩
theorem Ct.free{P:Program}{f:FuncId}{args:List Value}{G:List Own}{q:D7}{Q:List D7}{R:Value->List Own->List D7->Prop}(h:Ct P f args G (q::Q) R)(hq:∀w S,q.h w S):Ct P f args G Q R :=
 λw S hh=>h w S ⟨hh.own,hh.Oj,hh.out,λp hp=>by
  rcases List.mem_cons.1 hp with rfl|hp
  ·exact hq w S
  ·exact hh.per p hp⟩
theorem DZ{P:Program}{f:FuncId}{args:List Value}{G:List Own}{Q Q':List D7}{R:Value->List Own->List D7->Prop}(h:Ct P f args G Q R)(hq:∀q∈Q,q∈Q'\/∀w S,q.h w S):Ct P f args G Q' R :=
 λw S hh=>h w S ⟨hh.own,hh.Oj,hh.out,λp hp=>(hq p hp).elim (hh.per p) (λg=>g w S)⟩
theorem gy:∀w S,(D7.row Kd.u8 none []).h w S:=λ_ _=>.inl rfl
theorem N_(o p:LM):(o=p)↔(o.kind=p.kind/\o.at_=p.at_/\o.n=p.n/\o.data=p.data/\o.old=p.old):=by cases o;cases p;simp
theorem Oo(o p:Ld):(o=p)↔(o.epoch=p.epoch/\o.members=p.members):=by cases o;cases p;simp
theorem YT(o p:F5):(o=p)↔(o.at_=p.at_/\o.ver=p.ver/\o.data=p.data):=by cases o;cases p;simp
theorem TB(o p:J4):(o=p)↔(o.code=p.code/\o.data=p.data):=by cases o;cases p;simp
theorem N7(o p:Shp):(o=p)↔(o.bl=p.bl/\o.sz=p.sz):=by cases o;cases p;simp
theorem Q8(o p:Entry):(o=p)↔(o.kind=p.kind/\o.num=p.num/\o.view=p.view/\o.client=p.client/\o.serial=p.serial/\o.op=p.op/\o.grp=p.grp):=by cases o;cases p;simp
theorem Ny(o p:I4):(o=p)↔(o.num=p.num/\o.Jo=p.Jo/\o.pages=p.pages/\o.rows=p.rows/\o.grp=p.grp):=by cases o;cases p;simp
theorem ms_ext(o p:GZ):(o=p)↔(o.kind=p.kind/\o.src=p.src/\o.dst=p.dst/\o.epoch=p.epoch/\o.view=p.view/\o.num=p.num/\o.commit=p.commit/\o.normal=p.normal/\o.Ez=p.Ez/\o.client=p.client/\o.serial=p.serial/\o.op=p.op/\o.res=p.res/\o.grp=p.grp/\o.stt=p.stt/\o.log=p.log):=by cases o;cases p;simp
theorem pI(g h:Ld):VQ g.epoch g.members h.epoch h.members=decide (g=h):=by
 unfold VQ;rw[Bool.eq_iff_iff];simp[Oo]
theorem eH(g h:J4):Og g h=decide (g=h):=by
 unfold Og;rw[Bool.eq_iff_iff];simp[TB]
theorem bsame_ct(o p:LM)(A:Option Addr)(cp:Nat)(B:Option Addr)(cq:Nat)(C:Option Addr)(cr:Nat)(D:Option Addr)(cs:Nat):Ct Tryz.prog 92 [lI o A cp B cq,lI p C cr D cs] [] [D7.row Kd.u8 A o.data,D7.row Kd.u8 B o.old,D7.row Kd.u8 C p.data,D7.row Kd.u8 D p.old] (λu G Q=>u=.bool (decide (o=p))/\G=[]/\Q=[]):=by
 refine Ct.intro Tryz.func92 rfl rfl rfl (λc hc=>?_)
 refine AX ?_;refine GL.step rfl (Ee rfl rfl rfl) (Aa λGm=>?_);refine GL.step rfl (Ee rfl rfl rfl) (Aa λFQ=>?_);refine AL 1 ?_;refine AV 1 ?_;refine Ad 1 ?_;refine AA 1 ?_
 refine Ad 0 ?_;refine AA 2 ?_;refine Ak 10 ?_ ?_
 ·intro h1;try simp only[D6] at h1
  refine AA 1 ?_;refine Aj 1 ?_;refine AA 1 ?_;refine Aj 0 ?_;refine AA 3 ?_;refine Ak 17 ?_ ?_
  ·intro h2;try simp only[D6] at h2
   refine AA 1 ?_;refine Aj 1 ?_;refine AA 1 ?_;refine Aj 0 ?_;refine AA 3 ?_;refine Ak 24 ?_ ?_
   ·intro h3;try simp only[D6] at h3
    refine AA 1 ?_;refine Aj 1 ?_;refine AA 1 ?_;refine Aj 0 ?_;refine Au rfl (s:=24) rfl rfl (EI rfl Tryz.call50 rfl (is:=[]) (js:=[0,2]) rfl rfl (by exact P_ _ _ _ _ _ _)) (GL.ret ?_)
    rintro _ _ _ ⟨rfl,rfl,rfl⟩
    refine AA 2 ?_;refine Ak 31 ?_ ?_
    ·intro h4;try simp only[D6] at h4
     refine AA 1 ?_;refine Aj 1 ?_;refine AA 1 ?_;refine Aj 0 ?_;refine Au rfl (s:=31) rfl rfl (EI rfl Tryz.call50 rfl (is:=[]) (js:=[1,3]) rfl rfl (by exact P_ _ _ _ _ _ _)) (GL.ret ?_)
     rintro _ _ _ ⟨rfl,rfl,rfl⟩
     refine AL 2 ?_;refine GC.ret (AQ 4 [] [] ?_)
     refine⟨congrArg Value.bool ?_,rfl,rfl⟩
     simp[N_, *]
    intro h4;try simp only[D6] at h4
    refine AL 7 ?_;refine GC.ret (AQ 4 [] [] ?_)
    refine⟨congrArg Value.bool ?_,rfl,rfl⟩
    simp[N_, *]
   intro h3;try simp only[D6] at h3
   refine AL 14 ?_;refine GC.ret (AQ 4 [] [] ?_)
   refine⟨congrArg Value.bool ?_,rfl,rfl⟩
   simp[N_, *]
  intro h2;try simp only[D6] at h2
  refine AL 21 ?_;refine GC.ret (AQ 4 [] [] ?_)
  refine⟨congrArg Value.bool ?_,rfl,rfl⟩
  simp[N_, *]
 intro h1;try simp only[D6] at h1
 refine AL 28 ?_;refine GC.ret (AQ 4 [] [] ?_)
 refine⟨congrArg Value.bool ?_,rfl,rfl⟩
 simp[N_, *]
theorem TJ(o p:LM)(A:Option Addr)(cp:Nat)(B:Option Addr)(cq:Nat)(C:Option Addr)(cr:Nat)(D:Option Addr)(cs:Nat):Ct Tryz.prog 25 [lI o A cp B cq,lI p C cr D cs] [] [D7.row Kd.u8 A o.data,D7.row Kd.u8 B o.old,D7.row Kd.u8 C p.data,D7.row Kd.u8 D p.old] (λu G Q=>u=.bool (decide (o=p))/\G=[]/\Q=[]):=by
 refine Ct.intro Tryz.func25 rfl rfl rfl (λc hc=>?_)
 refine AX ?_;refine GL.step rfl (Ee rfl rfl rfl) (Aa λGm=>?_);refine GL.step rfl (Ee rfl rfl rfl) (Aa λFQ=>?_);refine AL 1 ?_;refine AV 1 ?_;refine Ad 1 ?_;refine AA 1 ?_
 refine Ad 0 ?_;refine AA 2 ?_;refine Ak 10 ?_ ?_
 ·intro h1;try simp only[D6,str_eq] at h1
  refine AA 1 ?_;refine Aj 1 ?_;refine AA 1 ?_;refine Aj 0 ?_;refine AA 3 ?_;refine Ak 17 ?_ ?_
  ·intro h2;try simp only[D6,str_eq] at h2
   refine AA 1 ?_;refine Aj 1 ?_;refine AA 1 ?_;refine Aj 0 ?_;refine AA 3 ?_;refine Ak 24 ?_ ?_
   ·intro h3;try simp only[D6,str_eq] at h3
    refine AA 1 ?_;refine Aj 1 ?_;refine Au rfl (s:=24) rfl rfl (Ed rfl (Lu (i:=0) rfl rfl Tryz.underlying47 Tryz.underlying5 Tryz.underlying9)) ?_;refine AA 1 ?_;refine Aj 0 ?_;refine Au rfl (s:=24) rfl rfl (Ed rfl (Lu (i:=2) rfl rfl Tryz.underlying47 Tryz.underlying5 Tryz.underlying9)) ?_
    refine Ba (s:=24) rfl rfl rfl (YV rfl rfl) ?_;refine AA 2 ?_;refine Ak 33 ?_ ?_
    ·intro h4;try simp only[D6,str_eq] at h4
     refine AA 1 ?_;refine Aj 1 ?_;refine Au rfl (s:=33) rfl rfl (Ed rfl (Lu (i:=1) rfl rfl Tryz.underlying47 Tryz.underlying5 Tryz.underlying9)) ?_;refine AA 1 ?_;refine Aj 0 ?_;refine Au rfl (s:=33) rfl rfl (Ed rfl (Lu (i:=3) rfl rfl Tryz.underlying47 Tryz.underlying5 Tryz.underlying9)) ?_
     refine Ba (s:=33) rfl rfl rfl (YV rfl rfl) ?_;refine AL 2 ?_;refine GC.ret (AQ 4 [] [] ?_)
     refine⟨congrArg Value.bool ?_,rfl,rfl⟩
     simp[N_,str_eq, *]
    intro h4;try simp only[D6,str_eq] at h4
    refine AL 9 ?_;refine GC.ret (AQ 4 [] [] ?_)
    refine⟨congrArg Value.bool ?_,rfl,rfl⟩
    simp[N_,str_eq, *]
   intro h3;try simp only[D6,str_eq] at h3
   refine AL 18 ?_;refine GC.ret (AQ 4 [] [] ?_)
   refine⟨congrArg Value.bool ?_,rfl,rfl⟩
   simp[N_,str_eq, *]
  intro h2;try simp only[D6,str_eq] at h2
  refine AL 25 ?_;refine GC.ret (AQ 4 [] [] ?_)
  refine⟨congrArg Value.bool ?_,rfl,rfl⟩
  simp[N_,str_eq, *]
 intro h1;try simp only[D6,str_eq] at h1
 refine AL 32 ?_;refine GC.ret (AQ 4 [] [] ?_)
 refine⟨congrArg Value.bool ?_,rfl,rfl⟩
 simp[N_,str_eq, *]
theorem dD(o:LM)(A:Option Addr)(cp:Nat)(B:Option Addr)(cq:Nat):Ct Tryz.prog 92 [lI o A cp B cq,.agg #[.int .u8 0,.int .i64 0,.int .i64 0,.slice none 0 0,.slice none 0 0]] [] [D7.row Kd.u8 A o.data,D7.row Kd.u8 B o.old] (λu G Q=>u=.bool (decide (o=Iw))/\G=[]/\Q=[]) :=
 DZ (bsame_ct o Iw A cp B cq none 0 none 0) (by intro q hq;simp only[List.mem_cons,List.not_mem_nil,or_false] at hq ⊢;rcases hq with rfl|rfl|rfl|rfl<;>first|exact .inr gy|simp)
theorem TI(o:LM)(A:Option Addr)(cp:Nat)(B:Option Addr)(cq:Nat):Ct Tryz.prog 25 [lI o A cp B cq,.agg #[.int .u8 0,.int .i64 0,.int .i64 0,.slice none 0 0,.slice none 0 0]] [] [D7.row Kd.u8 A o.data,D7.row Kd.u8 B o.old] (λu G Q=>u=.bool (decide (o=Iw))/\G=[]/\Q=[]) :=
 DZ (TJ o Iw A cp B cq none 0 none 0) (by intro q hq;simp only[List.mem_cons,List.not_mem_nil,or_false] at hq ⊢;rcases hq with rfl|rfl|rfl|rfl<;>first|exact .inr gy|simp)
theorem msgr_ct(g h:Ld)(A:Option Addr)(cp:Nat)(B:Option Addr)(cq:Nat)(hl:g.members.length<=140737488355328):Ct Tryz.prog 150 [Qj g.epoch A g.members.length cp,Qj h.epoch B h.members.length cq] [] [D7.row kI A g.members,D7.row kI B h.members] (λu G Q=>u=.bool (decide (g=h))/\G=[]/\Q=[]):=by
 refine Ct.intro Tryz.func150 rfl rfl rfl (λc hc=>?_)
 refine AX ?_;refine GL.step rfl (Ee rfl rfl rfl) (Aa λGm=>?_);refine GL.step rfl (Ee rfl rfl rfl) (Aa λFQ=>?_);refine AL 1 ?_;refine AV 1 ?_;refine Ad 1 ?_;refine AA 1 ?_
 refine Ad 0 ?_;refine AA 2 ?_;refine Ak 10 ?_ ?_
 ·intro h1;try simp only[D6] at h1
  refine AA 1 ?_;refine Aj 1 ?_;refine AA 1 ?_;refine Aj 0 ?_;refine Au rfl (s:=10) rfl rfl (EI rfl Tryz.call189 rfl (is:=[]) (js:=[0,1]) rfl rfl (by exact equal_i _ _ _ _ _ _ (by first|assumption|omega))) (GL.ret ?_)
  rintro _ _ _ ⟨rfl,rfl,rfl⟩
  refine AL 2 ?_;refine GC.ret (AQ 4 [] [] ?_)
  refine⟨congrArg Value.bool ?_,rfl,rfl⟩
  simp[Oo, *]
 intro h1;try simp only[D6] at h1
 refine AL 7 ?_;refine GC.ret (AQ 4 [] [] ?_)
 refine⟨congrArg Value.bool ?_,rfl,rfl⟩
 simp[Oo, *]
theorem YM(g h:Ld)(A:Option Addr)(cp:Nat)(B:Option Addr)(cq:Nat)(hl:g.members.length<=140737488355328):Ct Tryz.prog 27 [Qj g.epoch A g.members.length cp,Qj h.epoch B h.members.length cq] [] [D7.row kI A g.members,D7.row kI B h.members] (λu G Q=>u=.bool (decide (g=h))/\G=[]/\Q=[]):=by
 have:=qA g.epoch A g.members cp h.epoch B h.members cq hl
 rw[pI] at this
 exact this
theorem srs_ct(r s:J4)(A B:Option Addr)(cp cq:Nat):Ct Tryz.prog 26 [.agg #[.int .u8 r.code,.slice A r.data.length cp],.agg #[.int .u8 s.code,.slice B s.data.length cq]] [] [D7.row Kd.u8 A r.data,D7.row Kd.u8 B s.data] (λv G Q=>v=.bool (decide (r=s))/\G=[]/\Q=[]):=by
 have:=kG r s A B cp cq
 rw[eH] at this
 exact this
theorem pgc_ct(r s:F5)(A:Option Addr)(cp:Nat)(B:Option Addr)(cq:Nat):Ct Tryz.prog 148 [kW r A cp,kW s B cq] [] [D7.row Kd.u8 A r.data,D7.row Kd.u8 B s.data] (λu G Q=>u=.bool (decide (r=s))/\G=[]/\Q=[]):=by
 refine Ct.intro Tryz.func148 rfl rfl rfl (λc hc=>?_)
 refine AX ?_;refine GL.step rfl (Ee rfl rfl rfl) (Aa λGm=>?_);refine GL.step rfl (Ee rfl rfl rfl) (Aa λFQ=>?_);refine AL 1 ?_;refine AV 1 ?_;refine Ad 1 ?_;refine AA 1 ?_
 refine Ad 0 ?_;refine AA 2 ?_;refine Ak 10 ?_ ?_
 ·intro h1;try simp only[D6] at h1
  refine AA 1 ?_;refine Aj 1 ?_;refine AA 1 ?_;refine Aj 0 ?_;refine AA 3 ?_;refine Ak 17 ?_ ?_
  ·intro h2;try simp only[D6] at h2
   refine AA 1 ?_;refine Aj 1 ?_;refine AA 1 ?_;refine Aj 0 ?_;refine Au rfl (s:=17) rfl rfl (EI rfl Tryz.call50 rfl (is:=[]) (js:=[0,1]) rfl rfl (by exact P_ _ _ _ _ _ _)) (GL.ret ?_)
   rintro _ _ _ ⟨rfl,rfl,rfl⟩
   refine AL 2 ?_;refine GC.ret (AQ 4 [] [] ?_)
   refine⟨congrArg Value.bool ?_,rfl,rfl⟩
   simp[YT, *]
  intro h2;try simp only[D6] at h2
  refine AL 7 ?_;refine GC.ret (AQ 4 [] [] ?_)
  refine⟨congrArg Value.bool ?_,rfl,rfl⟩
  simp[YT, *]
 intro h1;try simp only[D6] at h1
 refine AL 14 ?_;refine GC.ret (AQ 4 [] [] ?_)
 refine⟨congrArg Value.bool ?_,rfl,rfl⟩
 simp[YT, *]
theorem eqpg_ct(A:Option Addr)(a_:List F5)(cp:Nat)(B:Option Addr)(b_:List F5)(cq:Nat)(hl:a_.length<=140737488355328):Ct Tryz.prog 147 [.slice A a_.length cp,.slice B b_.length cq,.func (.func 148) #[] #[]] [] [D7.row GR A a_,D7.row GR B b_] (λu G Q=>u=.bool (decide (a_=b_))/\G=[]/\Q=[]):=by
 refine Ct.intro Tryz.func147 rfl rfl rfl (λc hc=>?_)
 refine AP 1 ?_;refine AB ?_;refine AP 5 ?_;refine Af ?_ ?_
 ·intro h1;try simp only[D6] at h1
  refine AP 1 ?_;refine GC.ret (AQ 6 [] [] ?_)
  exact dP
 intro h1;try simp only[D6] at h1
 refine GC.skip (?_:GC _ _ _ _)
 refine AB ?_;refine AP 3 ?_;refine GC.block ?_;refine Bd (ks:=[1,2,15,16]) (is:=[]) (js:=[0,1]) (fun(k:Nat)=>k<=a_.length/\∀j:Nat,j<k->gt a_ (j:Int)=gt b_ (j:Int)) (fun(k:Nat)=>[(17,.int .i64 (k:Int))]) (fun(k:Nat)=>[]) (fun(k:Nat)=>[]) (fun(k:Nat)=>a_.length - k) (0) rfl rfl rfl (λa w h=>⟨⟨by omega,λj hj=>by omega⟩,h.Hf (is:=[]) (js:=[0,1]) (ks:=[1,2,15,16]) ⟨rfl,trivial⟩ rfl rfl rfl⟩) ?_
 intro k hk
 try dsimp only[List.cons_append,List.nil_append] at hk ⊢
 obtain⟨hk,he⟩:=hk
 refine AP 1 ?_;refine AB ?_;refine Af ?_ ?_
 ·intro h2;try simp only[D6] at h2
  refine GC.skip (?_:GC _ _ _ _)
  refine AB ?_;refine GC.block ?_;refine AV 1 ?_;refine GL.step rfl (Ej (i:=0) rfl rfl rfl rfl Tryz.underlying58 Gs (by omega) (EW (by omega) (by omega))) (Aa λp_x20=>Aa λZr=>GL.and λok_x20=>?_)
  rcases Zr with⟨_,⟨_,⟨Ax20_0,cpx20_0⟩⟩⟩
  refine GL.step rfl (Ed rfl (FX (i:=0) rfl rfl RF (vs:=[_,_,_]) Gs ⟨rfl,rfl,rfl,trivial⟩)) ?_;refine GL.step rfl (EH rfl Je) (Aa λZA=>?_);refine AA 1 ?_;refine Ar 0 ?_
  refine BL 2 ?_;refine GL.step rfl (Ej (i:=3) rfl rfl rfl rfl Tryz.underlying58 Gs (by omega) (EW (by omega) (by omega))) (Aa λp_x24=>Aa λVf=>GL.and λgJ=>?_)
  rcases Vf with⟨_,⟨_,⟨jQ,Y7⟩⟩⟩
  refine GL.step rfl (Ed rfl (FX (i:=0) rfl rfl RF (vs:=[_,_,_]) Gs ⟨rfl,rfl,rfl,trivial⟩)) ?_;refine GL.step rfl (EH rfl Je) (Aa λdF=>?_);refine Ar 0 ?_;refine BL 1 ?_
  refine Az 1 3 ?_;refine Az 0 3 ?_;refine GL.step rfl (QG rfl Tryz.call148 rfl rfl (is:=[]) (js:=[3,1]) rfl rfl (by exact pgc_ct _ _ _ _ _ _)) (GL.ret ?_)
  rintro _ _ _ ⟨rfl,rfl,rfl⟩
  refine AL 1 ?_;refine Af ?_ ?_
  ·intro h3;try simp only[D6] at h3
   refine AP 1 ?_;refine GC.ret (AQ 6 [] [] ?_)
   exact zq12_
  intro h3;try simp only[D6] at h3
  refine GC.skip (?_:GC _ _ _ _)
  refine GC.region ?_;refine AO rfl (EU rfl rfl (Fh (by omega) (by omega))) ?_;refine AA 1 ?_;refine Ac ?_
  exact zq13_
 intro h2;try simp only[D6] at h2
 refine GC.exit (?_:GC _ _ _ _)
 refine AP 1 ?_;refine GC.ret (AQ 6 [] [] ?_)
 exact ZL
theorem rpgs_ct(A:Option Addr)(a_:List F5)(cp:Nat)(B:Option Addr)(b_:List F5)(cq:Nat)(hl:a_.length<=140737488355328):Ct Tryz.prog 51 [.slice A a_.length cp,.slice B b_.length cq] [] [D7.row GR A a_,D7.row GR B b_] (λu G Q=>u=.bool (decide (a_=b_))/\G=[]/\Q=[]):=by
 refine Ct.intro Tryz.func51 rfl rfl rfl (λc hc=>?_)
 refine AP 1 ?_;refine AB ?_;refine AP 5 ?_;refine Af ?_ ?_
 ·intro h1;try simp only[D6,str_eq] at h1
  refine AP 1 ?_;refine GC.ret (AQ 4 [] [] ?_)
  exact dP
 intro h1;try simp only[D6,str_eq] at h1
 refine GC.skip (?_:GC _ _ _ _)
 refine AB ?_;refine AP 1 ?_;refine GC.block ?_;refine Bd (ks:=[0,1]) (is:=[]) (js:=[0,1]) (fun(k:Nat)=>k<=a_.length/\∀j:Nat,j<k->gt a_ (j:Int)=gt b_ (j:Int)) (fun(k:Nat)=>[(5,.int .i64 (k:Int))]) (fun(k:Nat)=>[]) (fun(k:Nat)=>[]) (fun(k:Nat)=>a_.length - k) (0) rfl rfl rfl (λa w h=>⟨⟨by omega,λj hj=>by omega⟩,h.Hf (is:=[]) (js:=[0,1]) (ks:=[0,1]) ⟨rfl,trivial⟩ rfl rfl rfl⟩) ?_
 intro k hk
 try dsimp only[List.cons_append,List.nil_append] at hk ⊢
 obtain⟨hk,he⟩:=hk
 refine AB ?_;refine AP 4 ?_;refine Af ?_ ?_
 ·intro h2;try simp only[D6,str_eq] at h2
  refine GC.skip (?_:GC _ _ _ _)
  refine AB ?_;refine GC.block ?_;refine AB ?_;refine BM (y:=.tmp 5) (j:=0) rfl rfl (by omega) (EW (by omega) (by omega)) (λp_x19 Vg WM gK=>?_)
  rcases Vg with⟨_,⟨_,⟨Ax19_0,nN⟩⟩⟩
  refine BM (y:=.tmp 5) (j:=3) rfl rfl (by omega) (EW (by omega) (by omega)) (λp_x24 Vf iq gJ=>?_)
  rcases Vf with⟨_,⟨_,⟨jQ,Y7⟩⟩⟩
  refine BM (y:=.tmp 5) (j:=4) rfl rfl (by omega) (EW (by omega) (by omega)) (λp_x31 r_x31 ig ok_x31=>?_)
  rcases r_x31 with⟨_,⟨_,⟨Ax31_0,cpx31_0⟩⟩⟩
  refine BM (y:=.tmp 5) (j:=7) rfl rfl (by omega) (EW (by omega) (by omega)) (λp_x36 Zo iY ok_x36=>?_)
  rcases Zo with⟨_,⟨_,⟨Ax36_0,cpx36_0⟩⟩⟩
  refine BM (y:=.tmp 5) (j:=8) rfl rfl (by omega) (EW (by omega) (by omega)) (λp_x44 Zn iV ok_x44=>?_)
  rcases Zn with⟨_,⟨_,⟨Ax44_0,cpx44_0⟩⟩⟩
  refine BM (y:=.tmp 5) (j:=11) rfl rfl (by omega) (EW (by omega) (by omega)) (λZ4 Pg Q7 Vu=>?_)
  rcases Pg with⟨_,⟨_,⟨jP,Y6⟩⟩⟩
  refine BP Ef (by kernel_rfl) ?_;refine Am 2 ?_;refine GQ.step rfl (EP (Eb WM rfl rfl Tryz.underlying58 Gs (by omega) (by omega))) ?_;refine GQ.step rfl (EP (EM SI rfl)) ?_
  refine GQ.step rfl (Ea (ES (i:=10) rfl rfl Ei rfl)) ?_;refine Am 2 ?_;refine GQ.step rfl (EP (Eb iq rfl rfl Tryz.underlying58 Gs (by omega) (by omega))) ?_;refine GQ.step rfl (EP (EM SI rfl)) ?_
  refine GQ.step rfl (Ea (ES (i:=8) rfl rfl Ei rfl)) ?_;refine Am 2 ?_;refine BJ (i:=28) rfl (λh3=>?_) (λh3=>?_)
  ·try simp only[D6,str_eq] at h3
   refine Am 27 ?_
   refine BO (?_:GC _ _ _ _)
   refine AU rfl ?_;refine AP 1 ?_;refine GC.ret (AQ 4 [] [] ?_)
   exact Xa
  try simp only[D6,str_eq] at h3
  refine Am 2 ?_;refine Ai (s:=28) rfl rfl rfl (EP (Eb ig rfl rfl Tryz.underlying58 Gs (by omega) (by omega))) ?_;refine Ai (s:=28) rfl rfl rfl (EP (EM SH rfl)) ?_
  refine Ai (s:=28) rfl rfl rfl (Ea (ES (i:=6) rfl rfl Ei rfl)) ?_;refine Am 2 ?_;refine Ai (s:=28) rfl rfl rfl (EP (Eb iY rfl rfl Tryz.underlying58 Gs (by omega) (by omega))) ?_
  refine Ai (s:=28) rfl rfl rfl (EP (EM SH rfl)) ?_;refine Ai (s:=28) rfl rfl rfl (Ea (ES (i:=4) rfl rfl Ei rfl)) ?_;refine Am 3 ?_;refine BJ (i:=41) rfl (λh4=>?_) (λh4=>?_)
  ·try simp only[D6,str_eq] at h4
   refine Am 14 ?_
   refine BO (?_:GC _ _ _ _)
   refine AU rfl ?_;refine AP 1 ?_;refine GC.ret (AQ 4 [] [] ?_)
   exact Xa
  try simp only[D6,str_eq] at h4
  refine Am 2 ?_;refine Ai (s:=41) rfl rfl rfl (EP (Eb iV rfl rfl Tryz.underlying58 Gs (by omega) (by omega))) ?_;refine Ai (s:=41) rfl rfl rfl (EP (EM WW rfl)) ?_
  refine Ai (s:=41) rfl rfl rfl (Ea (ES (i:=2) rfl rfl G_ rfl)) ?_;refine Ai (s:=41) rfl rfl rfl (Ea (Lu (i:=3) rfl rfl Tryz.underlying47 Tryz.underlying5 Tryz.underlying9)) ?_;refine Am 2 ?_
  refine Ai (s:=41) rfl rfl rfl (EP (Eb Q7 rfl rfl Tryz.underlying58 Gs (by omega) (by omega))) ?_;refine Ai (s:=41) rfl rfl rfl (EP (EM WW rfl)) ?_;refine Ai (s:=41) rfl rfl rfl (Ea (ES (i:=0) rfl rfl G_ rfl)) ?_
  refine Ai (s:=41) rfl rfl rfl (Ea (Lu (i:=1) rfl rfl Tryz.underlying47 Tryz.underlying5 Tryz.underlying9)) ?_;refine Ai (s:=41) rfl rfl rfl (EP (YU rfl rfl)) ?_;refine Am 1 ?_
  refine BO (?_:GC _ _ _ _)
  refine Af ?_ ?_
  ·intro h5;try simp only[D6,str_eq] at h5
   refine AP 1 ?_;refine GC.ret (AQ 4 [] [] ?_)
   exact Xa
  intro h5;try simp only[D6,str_eq] at h5
  refine GC.skip (?_:GC _ _ _ _)
  refine GC.region ?_;refine AA 1 ?_;refine AO rfl (EU rfl rfl (Fh (by omega) (by omega))) ?_;refine AA 1 ?_;refine Ac ?_
  exact λa w h=>⟨(k+1),(by omega),⟨by omega,λj hj=>(Nat.lt_succ_iff_lt_or_eq.1 hj).elim (he j) (λe=>by subst e;exact(YT _ _).2 ⟨by assumption,by assumption,by assumption⟩)⟩,h.cut (is:=[]) (js:=[12,13]) ⟨rfl,rfl,rfl,trivial⟩ rfl rfl⟩
 intro h2;try simp only[D6,str_eq] at h2
 refine GC.exit (?_:GC _ _ _ _)
 refine AP 1 ?_;refine GC.ret (AQ 4 [] [] ?_)
 exact ZL
theorem rsen_ct(e f:Entry)(A:Option Addr)(cp:Nat)(B:Option Addr)(cq:Nat)(C:Option Addr)(cr:Nat)(A':Option Addr)(cp':Nat)(B':Option Addr)(Uk:Nat)(C':Option Addr)(cr':Nat)(hl:e.grp.members.length<=140737488355328):Ct Tryz.prog 53 [Wj e A cp B cq C cr,Wj f A' cp' B' Uk C' cr'] [] (Wn e A B C++Wn f A' B' C') (λu G Q=>u=.bool (decide (e=f))/\G=[]/\Q=[]):=by
 refine Ct.intro Tryz.func53 rfl rfl rfl (λc hc=>?_)
 refine AX ?_;refine GL.step rfl (Ee rfl rfl rfl) (Aa λGm=>?_);refine GL.step rfl (Ee rfl rfl rfl) (Aa λFQ=>?_);refine AL 1 ?_;refine AV 1 ?_;refine Ad 1 ?_;refine AA 1 ?_
 refine Ad 0 ?_;refine AA 2 ?_;refine Ak 10 ?_ ?_
 ·intro h1;try simp only[D6] at h1
  refine AA 1 ?_;refine Aj 1 ?_;refine AA 1 ?_;refine Aj 0 ?_;refine AA 3 ?_;refine Ak 17 ?_ ?_
  ·intro h2;try simp only[D6] at h2
   refine AA 1 ?_;refine Aj 1 ?_;refine AA 1 ?_;refine Aj 0 ?_;refine AA 3 ?_;refine Ak 24 ?_ ?_
   ·intro h3;try simp only[D6] at h3
    refine AA 1 ?_;refine Aj 1 ?_;refine AA 1 ?_;refine Aj 0 ?_;refine AA 3 ?_;refine Ak 31 ?_ ?_
    ·intro h4;try simp only[D6] at h4
     refine AA 1 ?_;refine Aj 1 ?_;refine AA 1 ?_;refine Aj 0 ?_;refine AA 3 ?_;refine Ak 38 ?_ ?_
     ·intro h5;try simp only[D6] at h5
      refine AA 1 ?_;refine BX 1 5 ?_;refine AA 1 ?_;refine BX 0 5 ?_;refine Au rfl (s:=38) rfl rfl (EI rfl Tryz.call25 rfl (is:=[]) (js:=[0,1,3,4]) rfl rfl (by exact TJ e.op f.op _ _ _ _ _ _ _ _)) (GL.ret ?_)
      rintro _ _ _ ⟨rfl,rfl,rfl⟩
      refine AA 2 ?_;refine Ak 45 ?_ ?_
      ·intro h6;try simp only[D6] at h6
       refine AA 1 ?_;refine BX 1 2 ?_;refine AA 1 ?_;refine BX 0 2 ?_;refine Au rfl (s:=45) rfl rfl (EI rfl Tryz.call27 rfl (is:=[]) (js:=[2,5]) rfl rfl (by exact YM e.grp f.grp _ _ _ _ (by first|assumption|omega))) (GL.ret ?_)
       rintro _ _ _ ⟨rfl,rfl,rfl⟩
       refine AL 2 ?_;refine GC.ret (AQ 4 [] [] ?_)
       refine⟨congrArg Value.bool ?_,rfl,rfl⟩
       simp[Q8, *]
      intro h6;try simp only[D6] at h6
      refine AL 7 ?_;refine GC.ret (AQ 4 [] [] ?_)
      refine⟨congrArg Value.bool ?_,rfl,rfl⟩
      simp[Q8, *]
     intro h5;try simp only[D6] at h5
     refine AL 14 ?_;refine GC.ret (AQ 4 [] [] ?_)
     refine⟨congrArg Value.bool ?_,rfl,rfl⟩
     simp[Q8, *]
    intro h4;try simp only[D6] at h4
    refine AL 21 ?_;refine GC.ret (AQ 4 [] [] ?_)
    refine⟨congrArg Value.bool ?_,rfl,rfl⟩
    simp[Q8, *]
   intro h3;try simp only[D6] at h3
   refine AL 28 ?_;refine GC.ret (AQ 4 [] [] ?_)
   refine⟨congrArg Value.bool ?_,rfl,rfl⟩
   simp[Q8, *]
  intro h2;try simp only[D6] at h2
  refine AL 35 ?_;refine GC.ret (AQ 4 [] [] ?_)
  refine⟨congrArg Value.bool ?_,rfl,rfl⟩
  simp[Q8, *]
 intro h1;try simp only[D6] at h1
 refine AL 42 ?_;refine GC.ret (AQ 4 [] [] ?_)
 refine⟨congrArg Value.bool ?_,rfl,rfl⟩
 simp[Q8, *]
theorem Ec{α:Type}[Inhabited α]{l:List α}{k:Nat}(h:k<l.length):gt l (k:Int)∈l:=by
 have:=EW (xs:=l) (i:=(k:Int)) (by omega) (by omega)
 exact List.mem_of_getElem? this
theorem rens_ct(A:Option Addr)(a_:List Entry)(cp:Nat)(B:Option Addr)(b_:List Entry)(cq:Nat)(hl:a_.length<=140737488355328)(hm:∀e∈a_,Lp e):Ct Tryz.prog 29 [.slice A a_.length cp,.slice B b_.length cq] [] [D7.row JV A a_,D7.row JV B b_] (λu G Q=>u=.bool (decide (a_=b_))/\G=[]/\Q=[]):=by
 refine Ct.intro Tryz.func29 rfl rfl rfl (λc hc=>?_)
 refine AP 1 ?_;refine AB ?_;refine AP 5 ?_;refine Af ?_ ?_
 ·intro h1;try simp only[D6] at h1
  refine AP 1 ?_;refine GC.ret (AQ 4 [] [] ?_)
  exact dP
 intro h1;try simp only[D6] at h1
 refine GC.skip (?_:GC _ _ _ _)
 refine AB ?_;refine AP 1 ?_;refine GC.block ?_;refine Bd (ks:=[0,1]) (is:=[]) (js:=[0,1]) (fun(k:Nat)=>k<=a_.length/\∀j:Nat,j<k->gt a_ (j:Int)=gt b_ (j:Int)) (fun(k:Nat)=>[(5,.int .i64 (k:Int))]) (fun(k:Nat)=>[]) (fun(k:Nat)=>[]) (fun(k:Nat)=>a_.length - k) (0) rfl rfl rfl (λa w h=>⟨⟨by omega,λj hj=>by omega⟩,h.Hf (is:=[]) (js:=[0,1]) (ks:=[0,1]) ⟨rfl,trivial⟩ rfl rfl rfl⟩) ?_
 intro k hk
 try dsimp only[List.cons_append,List.nil_append] at hk ⊢
 obtain⟨hk,he⟩:=hk
 refine AB ?_;refine AP 4 ?_;refine Af ?_ ?_
 ·intro h2;try simp only[D6] at h2
  refine GC.skip (?_:GC _ _ _ _)
  refine AB ?_;refine GC.block ?_;refine AB ?_;refine BM (y:=.tmp 5) (j:=0) rfl rfl (by omega) (EW (by omega) (by omega)) (λp_x19 Vg WM gK=>?_)
  rcases Vg with⟨_,⟨_,⟨_,⟨_,⟨_,⟨⟨_,⟨_,⟨_,⟨⟨Ax19_0,nN⟩,⟨Ax19_1,cpx19_1⟩⟩⟩⟩⟩,⟨_,⟨Ax19_2,cpx19_2⟩⟩⟩⟩⟩⟩⟩⟩
  refine BM (y:=.tmp 5) (j:=5) rfl rfl (by omega) (EW (by omega) (by omega)) (λp_x23 Zq WL ok_x23=>?_)
  rcases Zq with⟨_,⟨_,⟨_,⟨_,⟨_,⟨⟨_,⟨_,⟨_,⟨⟨Ax23_0,nM⟩,⟨Ax23_1,cpx23_1⟩⟩⟩⟩⟩,⟨_,⟨Ax23_2,cpx23_2⟩⟩⟩⟩⟩⟩⟩⟩
  refine BP Ef (by kernel_rfl) ?_;refine Am 2 ?_;refine GQ.step rfl (EP (Eb WM rfl rfl Tryz.underlying62 F9 (by omega) (by omega))) ?_;refine GQ.step rfl (Ea (FX (i:=4) rfl rfl Ku (vs:=[_,_,_,_,_,_,_,_,_,_,_,_]) F9 ⟨rfl,rfl,rfl,rfl,rfl,rfl,rfl,rfl,rfl,rfl,rfl,rfl,trivial⟩)) ?_
  refine Am 2 ?_;refine GQ.step rfl (EP (Eb WL rfl rfl Tryz.underlying62 F9 (by omega) (by omega))) ?_;refine GQ.step rfl (Ea (FX (i:=0) rfl rfl Ku (vs:=[_,_,_,_,_,_,_,_,_,_,_,_]) F9 ⟨rfl,rfl,rfl,rfl,rfl,rfl,rfl,rfl,rfl,rfl,rfl,rfl,trivial⟩)) ?_
  refine GQ.step rfl (JU Tryz.call53 rfl (js:=[5,6,7,1,2,3]) rfl (by exact rsen_ct (gt a_ (k:Int)) (gt b_ (k:Int)) _ _ _ _ _ _ _ _ _ _ _ _ (by have:=(hm _ (Ec (l:=a_) (k:=k) (by omega))).m;omega))) ?_
  refine Am 1 ?_
  refine BO (?_:GC _ _ _ _)
  refine Af ?_ ?_
  ·intro h3;try simp only[D6] at h3
   refine AP 1 ?_;refine GC.ret (AQ 4 [] [] ?_)
   exact zq12_
  intro h3;try simp only[D6] at h3
  refine GC.skip (?_:GC _ _ _ _)
  refine GC.region ?_;refine AA 1 ?_;refine AO rfl (EU rfl rfl (Fh (by omega) (by omega))) ?_;refine AA 1 ?_;refine Ac ?_
  exact λa w h=>⟨(k+1),(by omega),⟨by omega,λj hj=>(Nat.lt_succ_iff_lt_or_eq.1 hj).elim (he j) (λe=>by subst e;assumption)⟩,h.ct [] [8,9]⟩
 intro h2;try simp only[D6] at h2
 refine GC.exit (?_:GC _ _ _ _)
 refine AP 1 ?_;refine GC.ret (AQ 4 [] [] ?_)
 exact ZL
theorem Zg(w:World)(a b c d:Int):(Op.equalIn 10000 57 (.agg #[.int .i64 a,.int .i64 b]) (.agg #[.int .i64 c,.int .i64 d])).run Tryz.prog w=.ok (decide (a=c) && decide (b=d)) w:=by
 have h1:Tryz.prog.fieldsOf 57=(match Tryz.prog.underlying 57 with|some (.struct fs)=>fs|_=>#[]):=rfl
 rw[run_equalIn_agg w 9999 _ _ _ (by rw[h1,Tryz.underlying57]) (by kernel_rfl),h1,Tryz.underlying57]
 have p1:∀(l:List Value) (v:Value) (o:Nat) (w:World),nth l o=some v->(part 3 l.toArray o).run Tryz.prog w=.ok v w:=λl v o w h=>Rf Ei h w
 have e0:∀w,(part 3 #[.int .i64 a,.int .i64 b] 0).run Tryz.prog w=.ok (.int .i64 a) w:=λw=>p1 [_,_] _ 0 w rfl
 have e1:∀w,(part 3 #[.int .i64 a,.int .i64 b] 1).run Tryz.prog w=.ok (.int .i64 b) w:=λw=>p1 [_,_] _ 1 w rfl
 have e2:∀w,(part 3 #[.int .i64 c,.int .i64 d] 0).run Tryz.prog w=.ok (.int .i64 c) w:=λw=>p1 [_,_] _ 0 w rfl
 have e3:∀w,(part 3 #[.int .i64 c,.int .i64 d] 1).run Tryz.prog w=.ok (.int .i64 d) w:=λw=>p1 [_,_] _ 1 w rfl
 have q:∀(x y:Int) (w:World),(Op.equalIn 9999 3 (.int .i64 x) (.int .i64 y)).run Tryz.prog w=.ok (x == y) w:=λx y w=>run_equalIn_int w 9998 _ _ _ _ _ Tryz.underlying3
 simp only[Op.eqFields,Sem.run_bind,Sem.run_ite,e0,e1,e2,e3,q,Result.andThen_ok]
 by_cases h:a=c<;>by_cases h':b=d<;>subst_vars<;>simp[Sem.run_ite,e0,e1,e2,e3,q,Result.andThen, *]
end Go.Proofs.YtliacpkblicnhaaGreat
namespace Go.Proofs.YtliacpkblicnhaaGreat
open Go Go.Sx Go.Proofs
section
variable {n:Nat}{env:List (Nat×Value)}{dst:Nat}{ty:TypeId}{pos:String}{Ew:Array Edge}{g:Option (Nat×Bool)}{x y:Operand}{u:TypeId}
theorem Vo{a b c d:Int}(hx:ev env x=some (Ua a b))(hy:ev env y=some (Ua c d)):Pv Tryz.prog n env ⟨some dst,.binOp .eql 57 x y u,ty,pos,Ew,g⟩ (.bool (decide (a=c) && decide (b=d))):=λact w he=>by
 simp only[execOp,he.eval hx,he.eval hy,run_eqGuard_agg w _ _ _ _ _ _ (show Tryz.prog.eqGuardType Tryz.prog.depth 57=false by kernel_rfl),Sem.run_bind,Result.andThen_ok,run_eql_struct,Zg,Sem.run_pure]
end
end Go.Proofs.YtliacpkblicnhaaGreat
namespace Go.Proofs.YtliacpkblicnhaaGreat
open Go Go.Sx Go.Proofs
theorem mstt_ct(s t:I4)(A:Option Addr)(cp:Nat)(B:Option Addr)(cq:Nat)(C:Option Addr)(cr:Nat)(A':Option Addr)(cp':Nat)(B':Option Addr)(Uk:Nat)(C':Option Addr)(cr':Nat)(h1_:s.pages.length<=140737488355328)(h2_:s.rows.length<=140737488355328)(h3_:s.grp.members.length<=140737488355328):Ct Tryz.prog 93 [Nw s A cp B cq C cr,Nw t A' cp' B' Uk C' cr'] [] (NW s A B C++NW t A' B' C') (λu G Q=>u=.bool (decide (s=t))/\G=[]/\Q=[]):=by
 refine Ct.intro Tryz.func93 rfl rfl rfl (λc hc=>?_)
 refine AX ?_;refine GL.step rfl (Ee rfl rfl rfl) (Aa λGm=>?_);refine GL.step rfl (Ee rfl rfl rfl) (Aa λFQ=>?_);refine AL 1 ?_;refine AV 1 ?_;refine Ad 1 ?_;refine AA 1 ?_
 refine Ad 0 ?_;refine Ah Tryz.call147 [] [0,3] rfl rfl rfl (by exact eqpg_ct _ s.pages _ _ t.pages _ (by first|assumption|omega)) ?_
 rintro _ _ _ ⟨rfl,rfl,rfl⟩
 refine AL 1 ?_;refine AV 2 ?_;refine Ak 12 ?_ ?_
 ·intro h1;try simp only[D6,Bool.and_eq_true,Bool.and_eq_false_iff] at h1
  refine AA 1 ?_;refine Aj 1 ?_;refine AA 1 ?_;refine Aj 0 ?_;refine AA 3 ?_;refine Ak 19 ?_ ?_
  ·intro h2;try simp only[D6,Bool.and_eq_true,Bool.and_eq_false_iff] at h2
   refine AA 1 ?_;refine BX 1 2 ?_;refine AA 1 ?_;refine BX 0 2 ?_;refine Ba (s:=19) rfl rfl rfl (Vo rfl rfl) ?_;refine AA 2 ?_;refine Ak 26 ?_ ?_
   ·intro h3;try simp only[D6,Bool.and_eq_true,Bool.and_eq_false_iff] at h3
    refine AA 1 ?_;refine Aj 1 ?_;refine AA 1 ?_;refine Aj 0 ?_;refine Au rfl (s:=26) rfl rfl (EI rfl Tryz.call149 rfl (is:=[]) (js:=[1,4]) rfl rfl (by exact tsame_ct _ s.rows _ _ t.rows _ (by first|assumption|omega))) (GL.ret ?_)
    rintro _ _ _ ⟨rfl,rfl,rfl⟩
    refine AA 2 ?_;refine Ak 33 ?_ ?_
    ·intro h4;try simp only[D6,Bool.and_eq_true,Bool.and_eq_false_iff] at h4
     refine AA 1 ?_;refine BX 1 2 ?_;refine AA 1 ?_;refine BX 0 2 ?_;refine Au rfl (s:=33) rfl rfl (EI rfl Tryz.call150 rfl (is:=[]) (js:=[2,5]) rfl rfl (by exact msgr_ct s.grp t.grp _ _ _ _ (by first|assumption|omega))) (GL.ret ?_)
     rintro _ _ _ ⟨rfl,rfl,rfl⟩
     refine AL 2 ?_;refine GC.ret (AQ 4 [] [] ?_)
     refine⟨congrArg Value.bool ?_,rfl,rfl⟩
     simp[Ny,N7, *]
     (try (intros;simp_all))
    intro h4;try simp only[D6,Bool.and_eq_true,Bool.and_eq_false_iff] at h4
    refine AL 7 ?_;refine GC.ret (AQ 4 [] [] ?_)
    refine⟨congrArg Value.bool ?_,rfl,rfl⟩
    simp[Ny,N7, *]
    (try (intros;simp_all))
   intro h3;try simp only[D6,Bool.and_eq_true,Bool.and_eq_false_iff] at h3
   refine AL 14 ?_;refine GC.ret (AQ 4 [] [] ?_)
   refine⟨congrArg Value.bool ?_,rfl,rfl⟩
   simp[Ny,N7, *]
   (try (intros;simp_all))
  intro h2;try simp only[D6,Bool.and_eq_true,Bool.and_eq_false_iff] at h2
  refine AL 21 ?_;refine GC.ret (AQ 4 [] [] ?_)
  refine⟨congrArg Value.bool ?_,rfl,rfl⟩
  simp[Ny,N7, *]
  (try (intros;simp_all))
 intro h1;try simp only[D6,Bool.and_eq_true,Bool.and_eq_false_iff] at h1
 refine AL 28 ?_;refine GC.ret (AQ 4 [] [] ?_)
 refine⟨congrArg Value.bool ?_,rfl,rfl⟩
 simp[Ny,N7, *]
 (try (intros;simp_all))
theorem kJ(s t:I4)(A:Option Addr)(cp:Nat)(B:Option Addr)(cq:Nat)(C:Option Addr)(cr:Nat)(A':Option Addr)(cp':Nat)(B':Option Addr)(Uk:Nat)(C':Option Addr)(cr':Nat)(h1_:s.pages.length<=140737488355328)(h2_:s.rows.length<=140737488355328)(h3_:s.grp.members.length<=140737488355328):Ct Tryz.prog 28 [Nw s A cp B cq C cr,Nw t A' cp' B' Uk C' cr'] [] (NW s A B C++NW t A' B' C') (λu G Q=>u=.bool (decide (s=t))/\G=[]/\Q=[]):=by
 refine Ct.intro Tryz.func28 rfl rfl rfl (λc hc=>?_)
 refine AX ?_;refine GL.step rfl (Ee rfl rfl rfl) (Aa λGm=>?_);refine GL.step rfl (Ee rfl rfl rfl) (Aa λFQ=>?_);refine AL 1 ?_;refine AV 1 ?_;refine Ad 1 ?_;refine AA 1 ?_
 refine Ad 0 ?_;refine AA 2 ?_;refine Ak 10 ?_ ?_
 ·intro h1;try simp only[D6,Bool.and_eq_true,Bool.and_eq_false_iff] at h1
  refine AA 1 ?_;refine BX 1 2 ?_;refine AA 1 ?_;refine BX 0 2 ?_;refine Ba (s:=10) rfl rfl rfl (Vo rfl rfl) ?_;refine AA 2 ?_;refine Ak 17 ?_ ?_
  ·intro h2;try simp only[D6,Bool.and_eq_true,Bool.and_eq_false_iff] at h2
   refine AA 1 ?_;refine Aj 1 ?_;refine AA 1 ?_;refine Aj 0 ?_;refine Au rfl (s:=17) rfl rfl (EI rfl Tryz.call51 rfl (is:=[]) (js:=[0,3]) rfl rfl (by exact rpgs_ct _ s.pages _ _ t.pages _ (by first|assumption|omega))) (GL.ret ?_)
   rintro _ _ _ ⟨rfl,rfl,rfl⟩
   refine AA 2 ?_;refine Ak 24 ?_ ?_
   ·intro h3;try simp only[D6,Bool.and_eq_true,Bool.and_eq_false_iff] at h3
    refine AA 1 ?_;refine Aj 1 ?_;refine AA 1 ?_;refine Aj 0 ?_;refine Au rfl (s:=24) rfl rfl (EI rfl Tryz.call52 rfl (is:=[]) (js:=[1,4]) rfl rfl (by exact rsame_ct _ s.rows _ _ t.rows _ (by first|assumption|omega))) (GL.ret ?_)
    rintro _ _ _ ⟨rfl,rfl,rfl⟩
    refine AA 2 ?_;refine Ak 31 ?_ ?_
    ·intro h4;try simp only[D6,Bool.and_eq_true,Bool.and_eq_false_iff] at h4
     refine AA 1 ?_;refine BX 1 2 ?_;refine AA 1 ?_;refine BX 0 2 ?_;refine Au rfl (s:=31) rfl rfl (EI rfl Tryz.call27 rfl (is:=[]) (js:=[2,5]) rfl rfl (by exact YM s.grp t.grp _ _ _ _ (by first|assumption|omega))) (GL.ret ?_)
     rintro _ _ _ ⟨rfl,rfl,rfl⟩
     refine AL 2 ?_;refine GC.ret (AQ 4 [] [] ?_)
     refine⟨congrArg Value.bool ?_,rfl,rfl⟩
     simp[Ny,N7, *]
     (try (intros;simp_all))
    intro h4;try simp only[D6,Bool.and_eq_true,Bool.and_eq_false_iff] at h4
    refine AL 7 ?_;refine GC.ret (AQ 4 [] [] ?_)
    refine⟨congrArg Value.bool ?_,rfl,rfl⟩
    simp[Ny,N7, *]
    (try (intros;simp_all))
   intro h3;try simp only[D6,Bool.and_eq_true,Bool.and_eq_false_iff] at h3
   refine AL 14 ?_;refine GC.ret (AQ 4 [] [] ?_)
   refine⟨congrArg Value.bool ?_,rfl,rfl⟩
   simp[Ny,N7, *]
   (try (intros;simp_all))
  intro h2;try simp only[D6,Bool.and_eq_true,Bool.and_eq_false_iff] at h2
  refine AL 21 ?_;refine GC.ret (AQ 4 [] [] ?_)
  refine⟨congrArg Value.bool ?_,rfl,rfl⟩
  simp[Ny,N7, *]
  (try (intros;simp_all))
 intro h1;try simp only[D6,Bool.and_eq_true,Bool.and_eq_false_iff] at h1
 refine AL 28 ?_;refine GC.ret (AQ 4 [] [] ?_)
 refine⟨congrArg Value.bool ?_,rfl,rfl⟩
 simp[Ny,N7, *]
 (try (intros;simp_all))
theorem mzst_ct(s:I4)(A:Option Addr)(cp:Nat)(B:Option Addr)(cq:Nat)(C:Option Addr)(cr:Nat)(h1_:s.pages.length<=140737488355328)(h2_:s.rows.length<=140737488355328)(h3_:s.grp.members.length<=140737488355328):Ct Tryz.prog 93 [Nw s A cp B cq C cr,.agg #[.int .i64 0,.int .i64 0,.int .i64 0,.slice none 0 0,.slice none 0 0,.int .i64 0,.slice none 0 0]] [] (NW s A B C) (λu G Q=>u=.bool (decide (s=PI))/\G=[]/\Q=[]) :=
 DZ (mstt_ct s PI A cp B cq C cr none 0 none 0 none 0 h1_ h2_ h3_) (by intro q hq;simp only[List.mem_cons,List.mem_append,List.not_mem_nil,or_false] at hq ⊢;rcases hq with(rfl|rfl|rfl)|rfl|rfl|rfl<;>first|exact .inr (λ_ _=>.inl rfl)|simp)
theorem rzst_ct(s:I4)(A:Option Addr)(cp:Nat)(B:Option Addr)(cq:Nat)(C:Option Addr)(cr:Nat)(h1_:s.pages.length<=140737488355328)(h2_:s.rows.length<=140737488355328)(h3_:s.grp.members.length<=140737488355328):Ct Tryz.prog 28 [Nw s A cp B cq C cr,.agg #[.int .i64 0,.int .i64 0,.int .i64 0,.slice none 0 0,.slice none 0 0,.int .i64 0,.slice none 0 0]] [] (NW s A B C) (λu G Q=>u=.bool (decide (s=PI))/\G=[]/\Q=[]) :=
 DZ (kJ s PI A cp B cq C cr none 0 none 0 none 0 h1_ h2_ h3_) (by intro q hq;simp only[List.mem_cons,List.mem_append,List.not_mem_nil,or_false] at hq ⊢;rcases hq with(rfl|rfl|rfl)|rfl|rfl|rfl<;>first|exact .inr (λ_ _=>.inl rfl)|simp)
end Go.Proofs.YtliacpkblicnhaaGreat
namespace Go.Sx
open Go
section
variable {P:Program}{c:Cx}{n:Nat}{env env' IG E:List (Nat×Value)}{G G' Gr GK:List Own}{Q Q' QK:List D7}{a:Act}{w:World}
variable {α β γ δ:Type}{x z:Code}{R:Exit->Gz}{ks is js:List Nat}
theorem Bh(φ:α->Prop)(F:α->List (Nat×Value))(GF:α->List Own)(QF:α->List D7)(hK:kept env ks=some IG)(hG:Eu G is=some GK)(hQ:Eu Q js=some QK)
  (hx:GC P (Exit.then (λa w=>∃y,φ y/\St c n (F y++IG) (GF y++GK) (QF y++QK) a w) R) x (St c n env G Q))
  (hz:∀y,φ y->GC P R z (St c n (F y++IG) (GF y++GK) (QF y++QK))):GC P R (.seq x z) (St c n env G Q) :=
 GC.seq hx λa w ⟨y,hp,h⟩=>hz y hp a w h
theorem CQ(φ:α->β->Prop)(F:α->β->List (Nat×Value))(GF:α->β->List Own)(QF:α->β->List D7)(hK:kept env ks=some IG)(hG:Eu G is=some GK)(hQ:Eu Q js=some QK)
  (hx:GC P (Exit.then (λa w=>∃y1 y2,φ y1 y2/\St c n (F y1 y2++IG) (GF y1 y2++GK) (QF y1 y2++QK) a w) R) x (St c n env G Q))
  (hz:∀y1 y2,φ y1 y2->GC P R z (St c n (F y1 y2++IG) (GF y1 y2++GK) (QF y1 y2++QK))):GC P R (.seq x z) (St c n env G Q) :=
 GC.seq hx λa w ⟨y1,y2,hp,h⟩=>hz y1 y2 hp a w h
theorem Dq(φ:α->β->γ->Prop)(F:α->β->γ->List (Nat×Value))(GF:α->β->γ->List Own)(QF:α->β->γ->List D7)(hK:kept env ks=some IG)(hG:Eu G is=some GK)(hQ:Eu Q js=some QK)
  (hx:GC P (Exit.then (λa w=>∃y1 y2 y3,φ y1 y2 y3/\St c n (F y1 y2 y3++IG) (GF y1 y2 y3++GK) (QF y1 y2 y3++QK) a w) R) x (St c n env G Q))
  (hz:∀y1 y2 y3,φ y1 y2 y3->GC P R z (St c n (F y1 y2 y3++IG) (GF y1 y2 y3++GK) (QF y1 y2 y3++QK))):GC P R (.seq x z) (St c n env G Q) :=
 GC.seq hx λa w ⟨y1,y2,y3,hp,h⟩=>hz y1 y2 y3 hp a w h
theorem Cm(φ:α->β->γ->δ->Prop)(F:α->β->γ->δ->List (Nat×Value))(GF:α->β->γ->δ->List Own)(QF:α->β->γ->δ->List D7)(hK:kept env ks=some IG)(hG:Eu G is=some GK)(hQ:Eu Q js=some QK)
  (hx:GC P (Exit.then (λa w=>∃y1 y2 y3 y4,φ y1 y2 y3 y4/\St c n (F y1 y2 y3 y4++IG) (GF y1 y2 y3 y4++GK) (QF y1 y2 y3 y4++QK) a w) R) x (St c n env G Q))
  (hz:∀y1 y2 y3 y4,φ y1 y2 y3 y4->GC P R z (St c n (F y1 y2 y3 y4++IG) (GF y1 y2 y3 y4++GK) (QF y1 y2 y3 y4++QK))):GC P R (.seq x z) (St c n env G Q) :=
 GC.seq hx λa w ⟨y1,y2,y3,y4,hp,h⟩=>hz y1 y2 y3 y4 hp a w h
theorem St.LW{i:Nat}{v v':Value}(h:St c n env G Q a w)(hi:look env i=some v)(hv:v=v'):St c n ((i,v')::env) G Q a w:=by
 obtain⟨S,he,hh,hr⟩:=h
 subst hv
 exact⟨S,he.over hi,hh,hr⟩
theorem GL.LW{ops:Array Oper}{rest:List Oper}(i:Nat){v v':Value}(hi:look env i=some v)(hv:v=v')(k:GL P ops R rest (St c n ((i,v')::env) G Q)):GL P ops R rest (St c n env G Q):=GL.imp (λa w h=>h.LW hi hv) k
theorem GC.LW(i:Nat){v v':Value}(hi:look env i=some v)(hv:v=v')(k:GC P R x (St c n ((i,v')::env) G Q)):GC P R x (St c n env G Q):=GC.imp (λa w h=>h.LW hi hv) k
end
end Go.Sx
namespace Go.Proofs.YtliacpkblicnhaaGreat
open Go Go.Sx Go.Proofs
theorem PL{X:Prop}(h:X:=by(exact λa w h=>⟨(()),trivial,by rw[decide_eq_false (show ¬(m.kind=k.kind/\m.src=k.src/\m.dst=k.dst/\m.epoch=k.epoch/\m.view=k.view/\m.num=k.num/\m.commit=k.commit/\m.normal=k.normal/\m.Ez=k.Ez/\m.client=k.client/\m.serial=k.serial) by simp[*])];exact h.ct [0,0] (up 0 16)⟩)):X:=h
theorem XZ{X:Prop}(h:X:=by(first|(refine⟨congrArg Value.bool (decide_eq_true ?_).symm,rfl,rfl⟩;simp_all [ms_ext,Oo,TB];done)|(refine⟨congrArg Value.bool (decide_eq_false ?_).symm,rfl,rfl⟩;intro e;subst e;simp_all;done)|(refine⟨congrArg Value.bool ?_,rfl,rfl⟩;rw[Bool.eq_iff_iff];simp_all [ms_ext,Oo,TB];done))):X:=h
theorem pq(m k:GZ)(s t:Lie)(hm:FT m):Ct Tryz.prog 12 [Ip m s,Ip k t] [] (H9 m s++H9 k t) (λu G Q=>u=.bool (decide (m=k))/\G=[]/\Q=[]):=by
 refine Ct.intro Tryz.func12 rfl rfl rfl (λc hc=>?_)
 refine AX ?_;refine GL.step rfl (Ee rfl rfl rfl) (Aa λGm=>?_);refine GL.step rfl (Ee rfl rfl rfl) (Aa λFQ=>?_);refine AL 1 ?_;refine Bh (ks:=[2,3,4]) (is:=[0,1]) (js:=(up 0 16)) (fun(u_:Unit)=>True) (fun(u_:Unit)=>[(5,.bool (decide (m.kind=k.kind/\m.src=k.src/\m.dst=k.dst/\m.epoch=k.epoch/\m.view=k.view/\m.num=k.num/\m.commit=k.commit/\m.normal=k.normal/\m.Ez=k.Ez/\m.client=k.client/\m.serial=k.serial)))]) (fun(u_:Unit)=>[]) (fun(u_:Unit)=>[]) rfl rfl rfl ?_ ?_
 ·refine GC.region ?_;refine AA 1 ?_;refine Ad 1 ?_;refine AA 1 ?_;refine Ad 0 ?_;refine AA 2 ?_;refine Ak 11 ?_ ?_
  ·intro h1;try simp only[D6] at h1
   refine AA 1 ?_;refine Aj 1 ?_;refine AA 1 ?_;refine Aj 0 ?_;refine AA 3 ?_;refine Ak 18 ?_ ?_
   ·intro h2;try simp only[D6] at h2
    refine AA 1 ?_;refine Aj 1 ?_;refine AA 1 ?_;refine Aj 0 ?_;refine AA 3 ?_;refine Ak 25 ?_ ?_
    ·intro h3;try simp only[D6] at h3
     refine AA 1 ?_;refine Aj 1 ?_;refine AA 1 ?_;refine Aj 0 ?_;refine AA 3 ?_;refine Ak 32 ?_ ?_
     ·intro h4;try simp only[D6] at h4
      refine AA 1 ?_;refine Aj 1 ?_;refine AA 1 ?_;refine Aj 0 ?_;refine AA 3 ?_;refine Ak 39 ?_ ?_
      ·intro h5;try simp only[D6] at h5
       refine AA 1 ?_;refine Aj 1 ?_;refine AA 1 ?_;refine Aj 0 ?_;refine AA 3 ?_;refine Ak 46 ?_ ?_
       ·intro h6;try simp only[D6] at h6
        refine AA 1 ?_;refine Aj 1 ?_;refine AA 1 ?_;refine Aj 0 ?_;refine AA 3 ?_;refine Ak 53 ?_ ?_
        ·intro h7;try simp only[D6] at h7
         refine AA 1 ?_;refine Aj 1 ?_;refine AA 1 ?_;refine Aj 0 ?_;refine AA 3 ?_;refine Ak 60 ?_ ?_
         ·intro h8;try simp only[D6] at h8
          refine AA 1 ?_;refine Aj 1 ?_;refine AA 1 ?_;refine Aj 0 ?_;refine AA 3 ?_;refine Ak 67 ?_ ?_
          ·intro h9;try simp only[D6] at h9
           refine AA 1 ?_;refine Aj 1 ?_;refine AA 1 ?_;refine Aj 0 ?_;refine AA 3 ?_;refine Ak 74 ?_ ?_
           ·intro h10;try simp only[D6] at h10
            refine AA 1 ?_;refine Aj 1 ?_;refine AA 1 ?_;refine Aj 0 ?_;refine AA 3 ?_;refine Ak 5 ?_ ?_
            ·intro h11;try simp only[D6] at h11
             refine Ac ?_
             exact λa w h=>⟨(()),trivial,by rw[decide_eq_true (show m.kind=k.kind/\m.src=k.src/\m.dst=k.dst/\m.epoch=k.epoch/\m.view=k.view/\m.num=k.num/\m.commit=k.commit/\m.normal=k.normal/\m.Ez=k.Ez/\m.client=k.client/\m.serial=k.serial by simp[*])];exact h.ct [0,0] (up 0 16)⟩
            intro h11;try simp only[D6] at h11
            refine Ac ?_
            exact PL
           intro h10;try simp only[D6] at h10
           refine AA 7 ?_;refine Ac ?_
           exact PL
          intro h9;try simp only[D6] at h9
          refine AA 14 ?_;refine Ac ?_
          exact PL
         intro h8;try simp only[D6] at h8
         refine AA 21 ?_;refine Ac ?_
         exact PL
        intro h7;try simp only[D6] at h7
        refine AA 28 ?_;refine Ac ?_
        exact PL
       intro h6;try simp only[D6] at h6
       refine AA 35 ?_;refine Ac ?_
       exact PL
      intro h5;try simp only[D6] at h5
      refine AA 42 ?_;refine Ac ?_
      exact PL
     intro h4;try simp only[D6] at h4
     refine AA 49 ?_;refine Ac ?_
     exact PL
    intro h3;try simp only[D6] at h3
    refine AA 56 ?_;refine Ac ?_
    exact PL
   intro h2;try simp only[D6] at h2
   refine AA 63 ?_;refine Ac ?_
   exact PL
  intro h1;try simp only[D6] at h1
  refine AA 70 ?_;refine Ac ?_
  exact PL
 intro u_ hj1
 try dsimp only[List.cons_append,List.nil_append] at hj1 ⊢
 refine AV 2 ?_;refine Ak 82 ?_ ?_
 ·intro h12;try simp only[D6] at h12
  refine AA 1 ?_;refine BX 1 5 ?_;refine AA 1 ?_;refine BX 0 5 ?_;refine Au rfl (s:=82) rfl rfl (EI rfl Tryz.call25 rfl (is:=[]) (js:=[0,1,8,9]) rfl rfl (by exact TJ m.op k.op _ _ _ _ _ _ _ _)) (GL.ret ?_)
  rintro _ _ _ ⟨rfl,rfl,rfl⟩
  refine AA 2 ?_;refine Ak 89 ?_ ?_
  ·intro h13;try simp only[D6] at h13
   refine AA 1 ?_;refine BX 1 2 ?_;refine AA 1 ?_;refine BX 0 2 ?_;refine Au rfl (s:=89) rfl rfl (EI rfl Tryz.call26 rfl (is:=[]) (js:=[2,10]) rfl rfl (by exact srs_ct m.res k.res _ _ _ _)) (GL.ret ?_)
   rintro _ _ _ ⟨rfl,rfl,rfl⟩
   refine AA 2 ?_;refine Ak 96 ?_ ?_
   ·intro Nb;try simp only[D6] at Nb
    refine AA 1 ?_;refine BX 1 2 ?_;refine AA 1 ?_;refine BX 0 2 ?_;refine Au rfl (s:=96) rfl rfl (EI rfl Tryz.call27 rfl (is:=[]) (js:=[3,11]) rfl rfl (by exact YM m.grp k.grp _ _ _ _ (by have:=hm.g;omega))) (GL.ret ?_)
    rintro _ _ _ ⟨rfl,rfl,rfl⟩
    refine AA 2 ?_;refine Ak 103 ?_ ?_
    ·intro h15;try simp only[D6] at h15
     refine AA 1 ?_;refine BX 1 7 ?_;refine AA 1 ?_;refine BX 0 7 ?_;refine Au rfl (s:=103) rfl rfl (EI rfl Tryz.call28 rfl (is:=[]) (js:=[4,5,6,12,13,14]) rfl rfl (by exact kJ m.stt k.stt _ _ _ _ _ _ _ _ _ _ _ _ (by have:=hm.s.p;omega) (by have:=hm.s.r;omega) (by have:=hm.s.m;omega))) (GL.ret ?_)
     rintro _ _ _ ⟨rfl,rfl,rfl⟩
     refine AA 2 ?_;refine Ak 110 ?_ ?_
     ·intro h16;try simp only[D6] at h16
      refine AA 1 ?_;refine Aj 1 ?_;refine AA 1 ?_;refine Aj 0 ?_;refine Au rfl (s:=110) rfl rfl (EI rfl Tryz.call29 rfl (is:=[]) (js:=[7,15]) rfl rfl (by exact rens_ct _ m.log _ _ k.log _ (by have:=hm.l;omega) hm.e)) (GL.ret ?_)
      rintro _ _ _ ⟨rfl,rfl,rfl⟩
      refine AL 2 ?_;refine GC.ret (AQ 4 [] [] ?_)
      exact XZ
     intro h16;try simp only[D6] at h16
     refine AL 7 ?_;refine GC.ret (AQ 4 [] [] ?_)
     exact XZ
    intro h15;try simp only[D6] at h15
    refine AL 14 ?_;refine GC.ret (AQ 4 [] [] ?_)
    exact XZ
   intro Nb;try simp only[D6] at Nb
   refine AL 21 ?_;refine GC.ret (AQ 4 [] [] ?_)
   exact XZ
  intro h13;try simp only[D6] at h13
  refine AL 28 ?_;refine GC.ret (AQ 4 [] [] ?_)
  exact XZ
 intro h12;try simp only[D6] at h12
 refine AL 35 ?_;refine GC.ret (AQ 4 [] [] ?_)
 exact XZ
theorem Yl(n:Int):Ct Tryz.prog 156 [.int .i64 n] [] [] (λv G Q=>v=.bool (isNum n)/\G=[]/\Q=[]):=by
 refine Ct.intro Tryz.func156 rfl rfl rfl (λc hc=>?_)
 refine AP 1 ?_;refine AV 3 ?_;refine Ak 5 ?_ ?_
 ·intro h1;try simp only[D6] at h1
  refine AL 4 ?_;refine GC.ret (AQ 2 [] [] ?_)
  refine⟨congrArg Value.bool ?_,rfl,rfl⟩;simp[isNum];omega
 intro h1;try simp only[D6] at h1
 refine AL 4 ?_;refine GC.ret (AQ 2 [] [] ?_)
 refine⟨congrArg Value.bool ?_,rfl,rfl⟩;simp[isNum];omega
theorem jc{X:Prop}(h:X:=by(refine⟨congrArg Value.bool ?_,rfl,rfl⟩;first|exact(decide_eq_true (by unfold who;omega)).symm|exact(decide_eq_false (by unfold who;omega)).symm|exact decide_eq_decide.2 (by unfold who;omega))):X:=h
theorem who_ct(n:Int):Ct Tryz.prog 59 [.int .i64 n] [] [] (λv G Q=>v=.bool (decide (who n))/\G=[]/\Q=[]):=by
 refine Ct.intro Tryz.func59 rfl rfl rfl (λc hc=>?_)
 refine AP 1 ?_;refine AV 3 ?_;refine Ak 5 ?_ ?_
 ·intro h1;try simp only[D6] at h1
  refine AL 4 ?_;refine GC.ret (AQ 2 [] [] ?_)
  exact jc
 intro h1;try simp only[D6] at h1
 refine AL 4 ?_;refine GC.ret (AQ 2 [] [] ?_)
 exact jc
theorem kH(n:Int):Ct Tryz.prog 116 [.int .i64 n] [] [] (λv G Q=>v=.bool (decide (who n))/\G=[]/\Q=[]):=by
 refine Ct.intro Tryz.func116 rfl rfl rfl (λc hc=>?_)
 refine AP 1 ?_;refine AV 3 ?_;refine Ak 5 ?_ ?_
 ·intro h1;try simp only[D6] at h1
  refine AL 4 ?_;refine GC.ret (AQ 2 [] [] ?_)
  exact jc
 intro h1;try simp only[D6] at h1
 refine AL 4 ?_;refine GC.ret (AQ 2 [] [] ?_)
 exact jc
theorem zq22_{X:Prop}(h:X:=by(refine⟨congrArg Value.bool ?_,rfl,rfl⟩;first|exact(decide_eq_true (by unfold JD;omega)).symm|exact(decide_eq_false (by unfold JD;omega)).symm|exact decide_eq_decide.2 (by unfold JD;omega))):X:=h
theorem chk1_ct(n:Int):Ct Tryz.prog 58 [.int .i64 n] [] [] (λv G Q=>v=.bool (decide (¬JD n))/\G=[]/\Q=[]):=by
 refine Ct.intro Tryz.func58 rfl rfl rfl (λc hc=>?_)
 refine AP 1 ?_;refine AV 3 ?_;refine Ak 5 ?_ ?_
 ·intro h1;try simp only[D6] at h1
  refine AL 4 ?_;refine GC.ret (AQ 2 [] [] ?_)
  exact zq22_
 intro h1;try simp only[D6] at h1
 refine AL 4 ?_;refine GC.ret (AQ 2 [] [] ?_)
 exact zq22_
theorem jg(g:Ld)(A:Option Addr)(cp:Nat):Ct Tryz.prog 121 [Qj g.epoch A g.members.length cp] [] [] (λv G Q=>v=.bool (decide (g=Le))/\G=[]/\Q=[]):=by
 refine Ct.intro Tryz.func121 rfl rfl rfl (λc hc=>?_)
 refine AX ?_;refine GL.step rfl (Ee rfl rfl rfl) (Aa λIJ=>?_);refine AL 1 ?_;refine AV 1 ?_;refine Ad 0 ?_;refine AA 2 ?_;refine Ak 6 ?_ ?_
 ·intro h1;try simp only[D6] at h1
  refine AA 1 ?_;refine Aj 0 ?_;refine AL 4 ?_;refine GC.ret (AQ 2 [] [] ?_)
  refine⟨congrArg Value.bool ?_,rfl,rfl⟩;simp[Oo,Le, *]
 intro h1;try simp only[D6] at h1
 refine AL 6 ?_;refine GC.ret (AQ 2 [] [] ?_)
 refine⟨congrArg Value.bool ?_,rfl,rfl⟩;simp[Oo,Le, *]
theorem jU(g:J4)(A:Option Addr)(cp:Nat):Ct Tryz.prog 119 [.agg #[.int .u8 g.code,.slice A g.data.length cp]] [] [] (λv G Q=>v=.bool (decide (g=rz))/\G=[]/\Q=[]):=by
 refine Ct.intro Tryz.func119 rfl rfl rfl (λc hc=>?_)
 refine AX ?_;refine GL.step rfl (Ee rfl rfl rfl) (Aa λIJ=>?_);refine AL 1 ?_;refine AV 1 ?_;refine Ad 0 ?_;refine AA 2 ?_;refine Ak 6 ?_ ?_
 ·intro h1;try simp only[D6] at h1
  refine AA 1 ?_;refine Aj 0 ?_;refine AL 4 ?_;refine GC.ret (AQ 2 [] [] ?_)
  refine⟨congrArg Value.bool ?_,rfl,rfl⟩;simp[TB,rz, *]
 intro h1;try simp only[D6] at h1
 refine AL 6 ?_;refine GC.ret (AQ 2 [] [] ?_)
 refine⟨congrArg Value.bool ?_,rfl,rfl⟩;simp[TB,rz, *]
theorem SY(o:LM)(A:Option Addr)(cp:Nat)(B:Option Addr)(cq:Nat):Ct Tryz.prog 208 [lI o A cp B cq] [] [D7.row Kd.u8 A o.data,D7.row Kd.u8 B o.old] (λu G Q=>u=.bool (decide (o=Iw))/\G=[]/\Q=[]):=by
 refine Ct.intro Tryz.func208 rfl rfl rfl (λc hc=>?_)
 refine AX ?_;refine GL.step rfl (Ee rfl rfl rfl) (Aa λIJ=>?_);refine AL 1 ?_;refine AX ?_;refine Az 0 5 ?_;refine AO rfl (ED Hy KO rfl rfl) ?_;refine Ah Tryz.call25 [] [0,1] rfl rfl rfl (by exact TI o _ _ _ _) ?_
 rintro _ _ _ ⟨rfl,rfl,rfl⟩
 refine AL 1 ?_;refine GC.ret (AQ 2 [] [] ?_)
 exact⟨rfl,rfl,rfl⟩
def JY(e:Entry):Prop:=isNum e.num=true/\isNum e.client=true/\isNum e.serial=true/\JD e.view
instance (e:Entry):Decidable (JY e):=by unfold JY;infer_instance
def KU(e:Entry):Prop:=(e.kind=1/\Jp e.op/\e.grp.epoch=0/\e.grp.members.length=0)\/(e.kind=2/\e.op=Iw/\FP e.grp.epoch e.grp.members=true/\e.view<4611686018427387904)
instance (e:Entry):Decidable (KU e):=by unfold KU;infer_instance
theorem nK(e:Entry):Oy e=if JY e/\KU e then 0 else 71:=by
 unfold Oy Eo JY KU
 congr 1
 simp only[eq_iff_iff,and_assoc]
theorem Wp{e:Entry}(h:JY e/\KU e):Oy e=0:=by rw[nK,if_pos h]
theorem U4{e:Entry}(h:¬(JY e/\KU e)):Oy e=71:=by rw[nK,if_neg h]
theorem ZK{X:Prop}(h:X:=by(exact λa w h=>⟨(()),trivial,by rw[decide_eq_false (show ¬(JY e) by simp only[JY,JD];simp_all;try omega)];exact h.ct [0] [0,1,2]⟩)):X:=h
theorem zq24_{X:Prop}(h:X:=by(exact λa w h=>⟨(()),trivial,by rw[decide_eq_true (show JY e/\KU e by simp only[KU,Jp];simp_all;try omega)];exact h.ct [0] [0,1,2]⟩)):X:=h
theorem RJ{X:Prop}(h:X:=by(exact λa w h=>⟨(()),trivial,by rw[decide_eq_false (show ¬(JY e/\KU e) by simp only[KU,Jp];simp_all;try omega)];exact h.ct [0] [0,1,2]⟩)):X:=h
theorem zq26_{X:Prop}(h:X:=by(first|exact⟨by rw[Wp (by assumption)];rfl,rfl,rfl⟩|exact⟨by rw[U4 (by assumption)];rfl,rfl,rfl⟩)):X:=h
end Go.Proofs.YtliacpkblicnhaaGreat
