/- Texts of this claim, in one: what the law leans on (part 5). -/
import Derived.Test.YtliacpkblicnhaaGreatK4
set_option linter.unusedVariables false
set_option linter.unusedSimpArgs false
set_option maxRecDepth 100000
namespace Go.Proofs.YtliacpkblicnhaaGreat
open Go Go.Sx Go.Proofs
theorem At.step{b:List UInt8}{t:Nat}{x L:List UInt8}(h:At b t (x++L)):At b (t+x.length) L/\seg b t (t+x.length)=x/\t+x.length<=b.length:=by
 have hl:=h.len
 rw[List.length_append] at hl
 have e:b.drop (t+x.length)=L:=by rw[<-List.drop_drop,h.2,List.drop_left]
 refine⟨⟨by omega,e⟩,?_,by omega⟩
 have e2:seg b t (t+x.length)=(b.drop t).take x.length:=by rw[seg,List.drop_take];congr 1;omega
 rw[e2,h.2,List.take_left]
theorem At.seg{b:List UInt8}{t:Nat}{L:List UInt8}(h:At b t L):Go.Sx.seg b t b.length=L:=by rw[VP,h.2]
theorem At.num{b:List UInt8}{t n:Nat}{v:Int}{L:List UInt8}(h:At b t (FK n v.toNat++L))(h0:0<=v)(h1:v.toNat<256 ^ n)(h2:v<=4611686018427387904):∃u,FU b t n=some (v,u)/\At b u L:=by
 obtain⟨g1,g2,g3⟩:=h.step
 rw[D_] at g1 g2 g3
 refine⟨t+n,?_,g1⟩
 rw[FU,if_pos g3,JL,if_pos g3,Uj,if_pos g3,g2,PU _ _ h1,if_neg (by omega),show((v.toNat:Nat):Int)=v by omega]
theorem Ov(n:Nat)(x:Int):Iy n [x]=FK n x.toNat:=by simp[Iy]
theorem WX(n:Nat)(x:Int)(l:List Int):Iy n (x::l)=FK n x.toNat++Iy n l:=by simp[Iy]
theorem Y3(n:Nat):Iy n []=[]:=rfl
theorem T_{x:Int}(h:0<=x)(h':x<256):[G9 x]=FK 1 x.toNat:=by
 have:x.toNat % 256=x.toNat:=by omega
 simp[FK,G9,this]
theorem V7{α σ:Type}{f:σ->Option (α×σ)}{t u v:σ}{x:α}{xs:List α}(hx:f t=some (x,u)):∀{k:Nat} {xs:List α} {v:σ},Fq f u k=some (xs,v)->Fq f t (k+1)=some (x::xs,v)
 |0,xs,v,h=>by
  obtain⟨rfl,rfl⟩:=Prod.mk.inj (Option.some.inj h)
  simp[Fq,hx]
 |k+1,xs,v,h=>by
  rw[Fq] at h
  simp only[Option.bind_eq_some_iff,Option.map_eq_some_iff] at h
  obtain⟨⟨ys,w⟩,h1,⟨y,z⟩,h2,h3⟩:=h
  have ih:=V7 (f:=f) (t:=t) (u:=u) (v:=v) (x:=x) (xs:=xs) hx h1
  obtain⟨rfl,rfl⟩:=Prod.mk.inj h3
  rw[Fq,ih]
  simp[h2]
theorem MQ{α σ:Type}{f:σ->Option (α×σ)}{enc:α->List UInt8}(I:σ->List UInt8->Prop)(L:List UInt8):∀{xs:List α} {t:σ},(∀x∈xs,∀t L,I t (enc x++L)->∃u,f t=some (x,u)/\I u L)->I t (xs.flatMap enc++L)->∃u,Fq f t xs.length=some (xs,u)/\I u L
 |[],t,_,h=>⟨t,rfl,h⟩
 |x::xs,t,hf,h=>by
  rw[List.flatMap_cons,List.append_assoc] at h
  obtain⟨u,h1,h2⟩:=hf x (List.mem_cons_self ..) t _ h
  obtain⟨v,h3,h4⟩:=MQ I L (xs:=xs) (λy hy=>hf y (List.mem_cons_of_mem _ hy)) h2
  exact⟨v,V7 (v:=v) (xs:=xs) h1 h3,h4⟩
theorem U0{b:List UInt8}{t n v:Nat}{L:List UInt8}(h:At b t (FK n v++L))(h1:v<256 ^ n):KD b t 0 n=(v,t+n,0)/\At b (t+n) L:=by
 obtain⟨g1,g2,g3⟩:=h.step
 rw[D_] at g1 g2 g3
 refine⟨?_,g1⟩
 rw[KD,if_pos rfl,if_pos g3,g2,PU _ _ h1]
theorem txF_at{b:List UInt8}{t:Nat}{d L:List UInt8}(h:At b t (FK 4 d.length++(d++L)))(h1:d.length<=16777216):UZ b t=(d,t+4+d.length,0)/\At b (t+4+d.length) L:=by
 obtain⟨g1,g2,g3⟩:=h.step
 rw[D_] at g1 g2 g3
 obtain⟨g4,g5,g6⟩:=g1.step
 have e:GH (FK 4 d.length)=d.length:=PU _ _ (by rw[Gn];omega)
 refine⟨?_,g4⟩
 rw[UZ,if_pos g3,g2,e,if_pos h1,if_pos g6,g5]
theorem dY{b:List UInt8}{t:Nat}{d L:List UInt8}(h:At b t (FK 4 d.length++(d++L)))(h1:d.length<=16777216):UY b t 0=(d,t+4+d.length,0)/\At b (t+4+d.length) L:=by
 obtain⟨g1,g2⟩:=txF_at h h1
 refine⟨?_,g2⟩
 rw[UY,if_pos rfl,g1,if_pos rfl]
theorem bg{b:List UInt8}{o:LM}{L:List UInt8}(h:b=Ri o++L)(hf:Jp o):∃u,JM b=some (o,u)/\At b u L:=by
 obtain⟨r1,r2,r3,r4,r5,r6,r7,r8⟩:=NP hf
 have h0:=At.zero b
 rw[show At b 0 b=At b 0 (FK 1 o.kind.toNat++(FK 4 o.at_.toNat++(FK 4 o.n.toNat++(FK 4 o.data.length++(o.data++(FK 4 o.old.length++(o.old++L))))))) from by
  conv=>lhs;rw[show b=Ri o++L from h]
  rw[h,Ri,T_ (by omega) (by omega)];simp[Lm,List.append_assoc]] at h0
 obtain⟨e1,h1⟩:=U0 h0 (by rw[Gp];omega)
 obtain⟨e2,h2⟩:=U0 h1 (by rw[Gn];omega)
 obtain⟨e3,h3⟩:=U0 h2 (by rw[Gn];omega)
 obtain⟨e4,h4⟩:=dY h3 (by omega)
 obtain⟨e5,h5⟩:=dY h4 (by omega)
 refine⟨_,?_,h5⟩
 have eo:(⟨((o.kind.toNat:Nat):Int),((o.at_.toNat:Nat):Int),((o.n.toNat:Nat):Int),o.data,o.old⟩:LM)=o:=by
  rw[show((o.kind.toNat:Nat):Int)=o.kind by omega,show((o.at_.toNat:Nat):Int)=o.at_ by omega,show((o.n.toNat:Nat):Int)=o.n by omega]
 have hS:=LK e1 e2 e3 e4 e5
 rw[eo] at hS
 rw[JM,hS]
 exact if_pos ⟨rfl,(D8 ..).2 hf⟩
theorem X7{b:List UInt8}{r:J4}{L:List UInt8}(h:b=NZ r++L)(hf:Ic r.code r.data.length=true):∃u,Hw b=some (r,u)/\At b u L:=by
 obtain⟨r1,r2,r3⟩:=QO hf
 have h0:=At.zero b
 have hb:b=FK 1 r.code.toNat++(FK 4 r.data.length++(r.data++L)):=by rw[h,NZ,T_ (by omega) (by omega)];simp[List.append_assoc]
 have h0:At b 0 (FK 1 r.code.toNat++(FK 4 r.data.length++(r.data++L))):=⟨Nat.zero_le _,hb⟩
 obtain⟨e1,h1⟩:=U0 h0 (by rw[Gp];omega)
 obtain⟨e2,h2⟩:=dY h1 (by omega)
 refine⟨_,?_,h2⟩
 have eo:(⟨((r.code.toNat:Nat):Int),r.data⟩:J4)=r:=by rw[show((r.code.toNat:Nat):Int)=r.code by omega]
 have hS:=O1 e1 e2
 rw[eo] at hS
 rw[Hw,hS]
 exact if_pos ⟨rfl,hf⟩
theorem aP{b:List UInt8}{t:Nat}{g:Ld}{L:List UInt8}(h:At b t (JB g++L))(hg:FP g.epoch g.members=true):∃u,Nr b t=some (g,u)/\At b u L:=by
 obtain⟨r1,r2,r3,r4,r5⟩:=Fp hg
 simp only[JB,Ov,List.append_assoc] at h
 obtain⟨u1,e1,h1⟩:=h.num r4 (by rw[Gi];omega) r5
 obtain⟨u2,e2,h2⟩:=h1.num (by omega) (by rw[Gp];omega) (by omega)
 obtain⟨u3,e3,h3⟩:=MQ (f:=λt=>FU b t 1) (enc:=λx:Int=>FK 1 x.toNat) (At b) L (xs:=g.members) (λx hx t L h=>by
  have:=r1 x hx
  exact h.num (by omega) (by rw[Gp];omega) (by omega)) h2
 refine⟨u3,?_,h3⟩
 simp only[Nr,e1,e2,Option.bind_some]
 rw[show((g.members.length:Nat):Int).toNat=g.members.length from rfl,e3]
 rfl
theorem At.here{b:List UInt8}{t u:Nat}{M L:List UInt8}(h:At b t M)(hu:At M u L):At b (t+u) L:=by
 have h1:=h.len
 have h2:=hu.len
 exact⟨by omega,by rw[<-List.drop_drop,h.2,hu.2]⟩
theorem mentF_at{b:List UInt8}{t:Nat}{e:Entry}{L:List UInt8}(h:At b t (He e++L))(he:Eo e):∃u,Gf b t=some (e,u)/\At b u L:=by
 obtain⟨r1,r2,r3,r4,r5,r6,r7⟩:=U3 he
 have e8:(256:Nat) ^ 8=18446744073709551616:=Gi
 simp only[He,WX,Y3,T_ (show 0<=e.kind by omega) (show e.kind<256 by omega),List.append_assoc,List.nil_append] at h
 obtain⟨u1,e1,h1⟩:=h.num (by omega) (by rw[Gp];omega) (by omega)
 obtain⟨u2,e2,h2⟩:=h1.num (by omega) (by omega) (by omega)
 obtain⟨u3,e3,h3⟩:=h2.num (by omega) (by omega) (by omega)
 obtain⟨u4,e4,h4⟩:=h3.num (by omega) (by omega) (by omega)
 obtain⟨u5,e5,h5⟩:=h4.num (by omega) (by omega) (by omega)
 have fin:∀u,KA b e.kind e.num e.view e.client e.serial u5=some (e,u)->Gf b t=some (e,u):=λu hu=>by
  simp only[Gf,e1,e2,e3,e4,e5,Option.bind_some,hu,Py]
  exact if_pos (if_pos he)
 obtain⟨_,_,_,_,hk⟩:=he
 rcases hk with⟨k1,k2,k3,k4⟩|⟨k1,k2,k3,_⟩
 ·rw[if_neg (by omega)] at h5
  obtain⟨u6,e6,h6⟩:=bg (show Go.Sx.seg b u5 b.length=Ri e.op++L from h5.seg) k2
  refine⟨u5+u6,fin _ ?_,?_⟩
  ·rw[KA,if_pos k1,e6]
   have:e.grp=Le:=by
    have hm:e.grp.members=[]:=List.eq_nil_of_length_eq_zero k4
    rw[Oo];exact⟨k3,hm⟩
   show some (_,_)=some (_,_)
   rw[<-this]
  ·rw[h5.seg] at h6;exact h5.here h6
 ·rw[if_pos (by omega)] at h5
  obtain⟨u6,e6,h6⟩:=aP h5 k3
  refine⟨u6,fin _ ?_,h6⟩
  rw[KA,if_neg (by omega),if_pos k1,e6]
  show some (_,_)=some (_,_)
  rw[<-k2]
theorem mpgF_at{b:List UInt8}{p:F5}(hp:0<=p.at_/\p.at_<=4096/\1<=p.ver/\p.ver<=4611686018427387904/\p.data.length<=4096)(t:Nat)(L:List UInt8)(h:At b t (OE p++L)):∃u,KE b t=some (p,u)/\At b u L:=by
 have e8:(256:Nat) ^ 8=18446744073709551616:=Gi
 have e4_:(256:Nat) ^ 4=4294967296:=Gn
 simp only[OE,Ov,List.append_assoc] at h
 obtain⟨u1,e1,h1⟩:=h.num (by omega) (by omega) (by omega)
 obtain⟨u2,e2,h2⟩:=h1.num (by omega) (by omega) (by omega)
 obtain⟨e3,h3⟩:=txF_at h2 (by omega)
 refine⟨_,?_,h3⟩
 simp only[KE,e1,e2,Option.bind_some,Rt,e3,if_true,Option.map_some]
theorem mrowF_at{b:List UInt8}{r:Row}(hr:(1<=r.client/\r.client<=4611686018427387904)/\(1<=r.serial/\r.serial<=4611686018427387904)/\Ic r.result.code r.result.data.length=true)(t:Nat)(L:List UInt8)(h:At b t (FZ r++L)):∃u,JW b t=some (r,u)/\At b u L:=by
 have e8:(256:Nat) ^ 8=18446744073709551616:=Gi
 simp only[FZ,WX,Y3,List.append_assoc,List.nil_append] at h
 obtain⟨u1,e1,h1⟩:=h.num (by omega) (by omega) (by omega)
 obtain⟨u2,e2,h2⟩:=h1.num (by omega) (by omega) (by omega)
 obtain⟨u3,e3,h3⟩:=X7 (show Go.Sx.seg b u2 b.length=NZ r.result++L from h2.seg) hr.2.2
 refine⟨u2+u3,?_,?_⟩
 ·simp only[JW,e1,e2,Option.bind_some,e3,Option.map_some]
 ·rw[h2.seg] at h3;exact h2.here h3
theorem mstF_at{b:List UInt8}{t:Nat}{s:I4}{L:List UInt8}(h:At b t (JR s++L))(hs:Gj s)(hb:b.length<=33554432):∃u,Ih b t=some (s,u)/\At b u L:=by
 have r:=NM hs
 have e8:(256:Nat) ^ 8=18446744073709551616:=Gi
 have e4_:(256:Nat) ^ 4=4294967296:=Gn
 have q1:=r.num
 have q2:=r.bl
 have q3:=r.sz
 have q4:=r.pl
 have q5:=r.rl
 simp only[JR,JI,WX,Y3,T_ (show 0<=(s.rows.length:Int) by omega) (show(s.rows.length:Int)<256 by omega),List.append_assoc,List.nil_append] at h
 obtain⟨u1,e1,h1⟩:=h.num (by omega) (by omega) (by omega)
 obtain⟨u2,e2,h2⟩:=h1.num (by omega) (by omega) (by omega)
 obtain⟨u3,e3,h3⟩:=h2.num (by omega) (by omega) (by omega)
 obtain⟨u4,e4,h4⟩:=h3.num (by omega) (by omega) (by omega)
 obtain⟨u5,e5,h5⟩:=MQ (f:=KE b) (enc:=OE) (At b) _ (xs:=s.pages) (λx hx t L h=>mpgF_at (r.pg x hx) t L h) h4
 obtain⟨u6,e6,h6⟩:=h5.num (by omega) (by rw[Gp];omega) (by omega)
 obtain⟨u7,e7,h7⟩:=MQ (f:=JW b) (enc:=FZ) (At b) _ (xs:=s.rows) (λx hx t L h=>mrowF_at (r.Zf x hx) t L h) h6
 obtain⟨u9,e9,h9⟩:=aP h7 r.gr
 refine⟨u9,?_,h9⟩
 simp only[Ih,e1,e2,e3,e4,Option.bind_some]
 rw[show((s.pages.length:Nat):Int).toNat=s.pages.length from rfl,e5]
 simp only[Option.bind_some,e6]
 rw[show((s.rows.length:Nat):Int).toNat=s.rows.length from rfl,e7]
 simp only[Option.bind_some,e9,iC]
 exact if_pos ⟨hs,Nat.le_trans h9.1 hb⟩
theorem TG{F B:List UInt8}(hF:F=HY B)(hB:B.length<=16777216):Jc F=B.length/\XM F=0/\(gt F 2).toNat=4/\GH (seg F 4 12)=0/\seg F 16 (B.length+16)=B:=by
 have hl:F.length=B.length+20:=by rw[hF,LJ]
 have hn:Jc F=B.length:=qE hF hB (λi _ _=>rfl) (by omega)
 have hh:(headB B).length=B.length+16:=Qa B
 have h0:gt F 0=80/\gt F 1=76/\gt F 2=4/\gt F 3=0:=by rw[hF];exact⟨rfl,rfl,rfl,rfl⟩
 have e1:seg F 0 (B.length+16)=headB B:=by
  rw[hF,HY,Gy,seg,List.drop_zero,List.take_append_of_le_length (by omega),<-hh,List.take_length]
 have e2:seg F 0 (B.length+20)=F:=by rw[<-hl];exact RS F
 refine⟨hn,?_,by rw[h0.2.2.1];rfl,?_,?_⟩
 ·rw[XM,if_neg (by omega),if_neg (by rw[hn,h0.1,h0.2.1,h0.2.2.2];exact λh=>h ⟨rfl,rfl,rfl,hB⟩),if_neg (by omega),if_neg (by rw[hn,e1,e2,hF];exact λh=>h rfl)]
 ·rw[hF];rfl
 ·have:seg F 16 (B.length+16)=(headB B).drop 16:=by rw[<-e1];simp[seg]
  rw[this];rfl
theorem rd_fr{F B:List UInt8}(hF:F=HY B)(hB:B.length<=16777216){k s:Int}{bd:List UInt8}{n:Int}(h:rdR F k s bd n):k=4/\s=0/\B=bd/\n=((B.length+20:Nat):Int):=by
 obtain⟨g1,g2,g3,g4,g5⟩:=TG hF hB
 obtain⟨h1,h2,h3,h4,_⟩:=h g2
 rw[g3] at h1
 rw[g4] at h2
 rw[g1,g5] at h3
 rw[g1] at h4
 exact⟨h1,h2,h3.symm,h4⟩
theorem recW_ct(p4 p5:Nat):CtR Tryz.prog 48 [.pointer (some ⟨p4,0,none⟩),.pointer (some ⟨p5,0,none⟩)] [.cells p4 (msgL UW ⟨none,0,none,0,none,0,none,0,none,0,none,0,none,0,none,0⟩) 64,.cells p5 [.int .i64 0] 68] [] wFt
  (λu G Q=>u=.tuple #[]/\G=[.cells p4 (msgL UW ⟨none,0,none,0,none,0,none,0,none,0,none,0,none,0,none,0⟩) 64,.cells p5 [.int .i64 160] 68]/\Q=[]):=by
 refine CtR.intro Tryz.func48 rfl rfl rfl rfl rfl (λc hc=>?_)
 refine AB ?_
 refine AB ?_
 refine GC.region ?_
 refine AO rfl (Fe rfl) ?_
 refine AO rfl (YZ rfl Tryz.underlying20) ?_
 refine Ac (?_:GC _ _ _ _)
 refine AY rfl ?_
 refine GC.skip (?_:GC _ _ _ _)
 refine AB ?_
 refine AB ?_
 refine GC.region ?_
 refine AO rfl (Fe rfl) ?_
 refine AO rfl (Vs rfl Tryz.underlying128 (λm h=>by cases h)) ?_
 refine AO rfl (Fe rfl) ?_
 refine AO rfl (LC rfl rfl) ?_
 refine AO rfl (LC rfl rfl) ?_
 refine GL.step rfl (EH rfl dS) (Aa λFQ=>?_)
 refine GL.step rfl (EZ (i:=0) rfl rfl rfl sz_128 rfl rfl rfl) ?_
 refine AO rfl (Po rfl) ?_
 refine Ac (?_:GC _ _ _ _)
 refine AB ?_
 refine GC.region ?_
 refine AO rfl (Fe rfl) ?_
 refine AO rfl (ku rfl) ?_
 refine Ac (?_:GC _ _ _ _)
 refine AY rfl ?_
 refine GC.skip (?_:GC _ _ _ _)
 refine GC.region ?_
 refine AO rfl (ED F6 JF rfl rfl) ?_
 refine GL.step rfl (EZ (i:=1) rfl rfl rfl J7 rfl rfl rfl) ?_
 refine GL.step rfl (Et (i:=2) rfl rfl rfl rfl ZW rfl rfl rfl) ?_
 refine Ac ?_
 refine λa w h=>Bz rfl (is:=[1,1]) (js:=[]) rfl rfl ?_ h
 clear h
 exact⟨rfl,rfl,rfl⟩
def MV(B:List UInt8):Option GZ:=(Hz B).bind λr=>if r.2=[]/\IX r.1/\FC r.1=B then some r.1 else none
abbrev DecM(x:Option GZ)(u:Value)(G:List Own)(Q:List D7):Prop:=∃(m:GZ) (s:Lie) (k:Int),((k=0->x=some m)/\(k≠0->x=none/\m=UW/\k=160))/\u=.tuple #[Ip m s,.int .i64 k]/\G=[]/\Q=H9 m s
theorem zq83_{X:Prop}(h:X:=by(exact⟨UW,⟨none,0,none,0,none,0,none,0,none,0,none,0,none,0,none,0⟩,160,⟨λh=>absurd h (by decide),λ_=>⟨by rw[MV,OC,Option.bind_some];exact if_neg (λhh=>by have h0:=congrArg List.length hh.1;simp only[List.length_nil] at h0;first|omega|exact absurd (OV hh.2.1) (by assumption)),rfl,rfl⟩⟩,rfl,rfl,rfl⟩)):X:=h
theorem zq84_{X:Prop}(h:X:=by(exact⟨UW,⟨none,0,none,0,none,0,none,0,none,0,none,0,none,0,none,0⟩,160,⟨λh=>absurd h (by decide),λ_=>⟨by rw[MV,OC,Option.bind_some];exact if_neg (λhh=>by first|exact absurd hh.2.2 (by assumption)|exact hlen (by rw[hh.2.2];exact hB)),rfl,rfl⟩⟩,rfl,rfl,rfl⟩)):X:=h
theorem jr(A:Option Addr)(B F:List UInt8)(cp:Nat)(hF:F=HY B)(hB:B.length<=16777216)(G8:∀m M,Hz B=some (m,M)->m.log.length<100000)(hcp:F.length<=cp)(Gl:cp<=9223372036854775807):Ct Tryz.prog 24 [.slice A F.length cp] [] [D7.row Kd.u8 A F] (DecM (MV B)):=by
 have hfl:F.length=B.length+20:=by rw[hF,LJ]
 refine Ct.WA Tryz.func24 rfl rfl rfl (λc hc tK=>?_)
 refine AX ?_;refine GL.step rfl (EH rfl F6) (Aa λGm=>?_);refine GL.step rfl (EH rfl ji) (Aa λFQ=>?_);refine Ap ?_;refine AX ?_;refine GL.know (q:=D7.row Kd.u8 none []) (λ_ _ _=>.inl rfl) ?_
 refine GL.know (q:=D7.row kI none []) (λ_ _ _=>.inl rfl) ?_;refine GL.know (q:=D7.row GR none []) (λ_ _ _=>.inl rfl) ?_;refine GL.know (q:=D7.row Jz none []) (λ_ _ _=>.inl rfl) ?_;refine GL.know (q:=D7.row JV none []) (λ_ _ _=>.inl rfl) ?_
 refine AA 1 ?_;refine Ah Tryz.call47 [] [5] rfl rfl rfl (by exact bD _ F _ (by omega) hcp Gl) ?_
 rintro _ _ _ ⟨k13,s13,A13,bd13,sD,n13,tH,c13,hr13,rfl,rfl,rfl⟩
 obtain⟨rfl,rfl,rfl,rfl⟩:=rd_fr hF hB hr13
 rw[(TG hF hB).2.1]
 refine AA 4 ?_;refine GL.step rfl (EH rfl H6) (Aa λKZ=>?_);refine Ar 0 ?_;refine AL 2 ?_;refine AB ?_;refine AP 2 ?_;refine AY rfl ?_
 refine GC.skip (?_:GC _ _ _ _)
 refine AB ?_;refine AV 5 ?_;refine Ak 25 ?_ ?_
 ·intro h1;try simp only[D6] at h1
  exfalso;exact h1 (by omega)
 intro h1;try simp only[D6] at h1
 refine AA 1 ?_;refine Aj 0 ?_;refine AA 3 ?_;refine Ak 30 ?_ ?_
 ·intro h2;try simp only[D6] at h2
  exfalso;exact h2 trivial
 intro h2;try simp only[D6] at h2
 refine AA 1 ?_;refine Aj 0 ?_;refine AL 2 ?_;refine Af ?_ ?_
 ·intro h3;try simp only[D6] at h3
  exfalso;exact h3 trivial
 intro h3;try simp only[D6] at h3
 refine GC.skip (?_:GC _ _ _ _)
 refine AX ?_;refine AO rfl (J5 rfl rfl) ?_;refine GL.defer (f:=48) (us:=[_,_]) tK rfl ?_;refine BL 1 ?_;refine Ad 0 ?_;refine AO rfl (ED ze_132 of_132 rfl rfl) ?_;refine AO rfl (ED ze_134 of_134 rfl rfl) ?_
 refine GL.step rfl (Ee rfl rfl rfl) (Aa λb_t41=>?_);refine AL 1 ?_;refine AV 1 ?_;refine Bc rfl Tryz.call49 rfl (is:=[0]) (js:=[0]) rfl rfl (by exact wmsg_ct _ _ _ B _ tH c13 (by omega)) (λv a w he h=>by obtain⟨rfl,hno⟩:=he;exact Dj Tryz.call48 (recW_ct _ _) (isC:=[2,1]) (jsC:=[]) rfl rfl (λu G2 Q2 a w hR h=>by obtain⟨rfl,rfl,rfl⟩:=hR;exact Bf (rs:=[.cell 2 64,.cell 3 68]) (vs:=[_,_]) (is:=[]) (js:=[4,4,4,3,2,1,3,0]) rfl ⟨⟨0,_,_,_,_,rfl,rfl,.inr ⟨[_,_,_,_,_,_,_,_,_,_,_,_,_,_,_,_,_,_,_,_,_,_,_,_,_,_,_,_],rfl,NU,J7,⟨rfl,rfl,rfl,rfl,rfl,rfl,rfl,rfl,rfl,rfl,rfl,rfl,rfl,rfl,rfl,rfl,rfl,rfl,rfl,rfl,rfl,rfl,rfl,rfl,rfl,rfl,rfl,rfl,trivial⟩⟩⟩,⟨1,_,_,_,_,rfl,rfl,.inl ⟨JC,rfl⟩⟩,trivial⟩ rfl rfl (by exact⟨UW,⟨none,0,none,0,none,0,none,0,none,0,none,0,none,0,none,0⟩,160,⟨λh=>absurd h (by decide),λ_=>⟨by rw[MV,hno];rfl,rfl,rfl⟩⟩,rfl,rfl,rfl⟩) (((((h.know (q:=D7.row Kd.u8 none []) (λ_ _ _=>.inl rfl)).know (q:=D7.row kI none []) (λ_ _ _=>.inl rfl)).know (q:=D7.row GR none []) (λ_ _ _=>.inl rfl)).know (q:=D7.row Jz none []) (λ_ _ _=>.inl rfl)).know (q:=D7.row JV none []) (λ_ _ _=>.inl rfl))) h) (GL.ret ?_)
 rintro _ _ _ ⟨Xv,s43,L43,oJ,nU,OC,iF,k43,rfl,rfl,rfl⟩
 have hM:=Xc OC
 refine GL.step rfl (EH rfl F6) (Aa λZA=>?_);refine Ar 0 ?_;refine Ap ?_;refine AB ?_;refine AV 4 ?_;refine Ad 1 ?_;refine AA 3 ?_;refine Ak 51 ?_ ?_
 ·intro h4;try simp only[D6] at h4
  refine AL 4 ?_;refine AU rfl ?_;refine AX ?_;refine AO rfl (ED F6 JF rfl rfl) ?_;refine Ar 4 ?_;refine BI 3 ?_;refine Ap ?_;refine GC.ret ?_
  refine λa w h=>CZ Tryz.call48 (Lc _ _) (rs:=[.cell 2 64,.cell 3 68]) (vs:=[_,_]) (is:=[]) (js:=[14,14,14,13,12,11,13,10]) rfl ⟨⟨4,_,_,_,_,rfl,rfl,.inr ⟨[_,_,_,_,_,_,_,_,_,_,_,_,_,_,_,_,_,_,_,_,_,_,_,_,_,_,_,_],rfl,NU,J7,⟨rfl,rfl,rfl,rfl,rfl,rfl,rfl,rfl,rfl,rfl,rfl,rfl,rfl,rfl,rfl,rfl,rfl,rfl,rfl,rfl,rfl,rfl,rfl,rfl,rfl,rfl,rfl,rfl,trivial⟩⟩⟩,⟨3,_,_,_,_,rfl,rfl,.inl ⟨JC,rfl⟩⟩,trivial⟩ rfl rfl ?_ h
  clear h
  exact zq83_
 intro h4;try simp only[D6] at h4
 refine BX 0 28 ?_;refine Au rfl (s:=51) rfl rfl (EI rfl Tryz.call41 rfl (is:=[]) (js:=(up 0 8)) rfl rfl (by exact YF Xv s43 hM.len)) (GL.ret ?_)
 rintro _ _ _ ⟨rfl,rfl,rfl⟩
 refine AL 2 ?_;refine Af ?_ ?_
 ·intro h5;try simp only[D6] at h5
  refine AX ?_;refine AO rfl (ED F6 JF rfl rfl) ?_;refine Ar 4 ?_;refine BI 3 ?_;refine Ap ?_;refine GC.ret ?_
  refine λa w h=>CZ Tryz.call48 (Lc _ _) (rs:=[.cell 2 64,.cell 3 68]) (vs:=[_,_]) (is:=[]) (js:=[14,14,14,13,12,11,13,10]) rfl ⟨⟨4,_,_,_,_,rfl,rfl,.inr ⟨[_,_,_,_,_,_,_,_,_,_,_,_,_,_,_,_,_,_,_,_,_,_,_,_,_,_,_,_],rfl,NU,J7,⟨rfl,rfl,rfl,rfl,rfl,rfl,rfl,rfl,rfl,rfl,rfl,rfl,rfl,rfl,rfl,rfl,rfl,rfl,rfl,rfl,rfl,rfl,rfl,rfl,rfl,rfl,rfl,rfl,trivial⟩⟩⟩,⟨3,_,_,_,_,rfl,rfl,.inl ⟨JC,rfl⟩⟩,trivial⟩ rfl rfl ?_ h
  clear h
  exact zq83_
 intro h5;try simp only[D6] at h5
 refine GC.skip (?_:GC _ _ _ _)
 iterate 2 refine AB ?_
 have hok:IX Xv:=by rw[<-Ru];assumption
 by_cases hlen:(FC Xv).length<=16777216
 ·skip
  refine GC.region ?_;refine Az 0 28 ?_;refine Ah Tryz.call42 [] (up 0 8) rfl rfl rfl (by exact Xd Xv s43 hM.len hok hM.Ez (G8 _ _ OC) hlen) ?_
  rintro _ _ _ ⟨A59,cp59,l59,k59,rfl,rfl,rfl⟩
  refine AA 5 ?_
  refine Ac (?_:GC _ _ _ _)
  refine AV 5 ?_;refine Aj 3 ?_;refine GL.EN (i:=0) rfl ?_;refine Au rfl (s:=64) rfl rfl (EI rfl Tryz.call50 rfl (is:=[]) (js:=[0,10]) rfl rfl (by exact P_ _ (FC Xv) _ _ B _)) (GL.ret ?_)
  rintro _ _ _ ⟨rfl,rfl,rfl⟩
  refine AL 2 ?_;refine Af ?_ ?_
  ·intro h6;try simp only[D6] at h6
   refine AX ?_;refine AO rfl (ED F6 JF rfl rfl) ?_;refine Ar 4 ?_;refine BI 3 ?_;refine Ap ?_;refine GC.ret ?_
   refine λa w h=>CZ Tryz.call48 (Lc _ _) (rs:=[.cell 2 64,.cell 3 68]) (vs:=[_,_]) (is:=[]) (js:=[15,15,15,14,13,12,14,11]) rfl ⟨⟨4,_,_,_,_,rfl,rfl,.inr ⟨[_,_,_,_,_,_,_,_,_,_,_,_,_,_,_,_,_,_,_,_,_,_,_,_,_,_,_,_],rfl,NU,J7,⟨rfl,rfl,rfl,rfl,rfl,rfl,rfl,rfl,rfl,rfl,rfl,rfl,rfl,rfl,rfl,rfl,rfl,rfl,rfl,rfl,rfl,rfl,rfl,rfl,rfl,rfl,rfl,rfl,trivial⟩⟩⟩,⟨3,_,_,_,_,rfl,rfl,.inl ⟨JC,rfl⟩⟩,trivial⟩ rfl rfl ?_ h
   clear h
   exact zq84_
  intro h6;try simp only[D6] at h6
  refine GC.skip (?_:GC _ _ _ _)
  refine AX ?_;refine Az 0 28 ?_;refine Ar 4 ?_;refine BI 3 ?_;refine Ap ?_;refine GC.ret ?_
  refine λa w h=>CZ Tryz.call48 (Lc _ _) (rs:=[.cell 2 64,.cell 3 68]) (vs:=[_,_]) (is:=[]) (js:=(up 1 8)) rfl ⟨⟨4,_,_,_,_,rfl,rfl,.inr ⟨[_,_,_,_,_,_,_,_,_,_,_,_,_,_,_,_,_,_,_,_,_,_,_,_,_,_,_,_],rfl,NU,J7,⟨rfl,rfl,rfl,rfl,rfl,rfl,rfl,rfl,rfl,rfl,rfl,rfl,rfl,rfl,rfl,rfl,rfl,rfl,rfl,rfl,rfl,rfl,rfl,rfl,rfl,rfl,rfl,rfl,trivial⟩⟩⟩,⟨3,_,_,_,_,rfl,rfl,.inl ⟨JC,rfl⟩⟩,trivial⟩ rfl rfl ?_ h
  clear h
  exact⟨Xv,s43,0,⟨λ_=>by rw[MV,OC,Option.bind_some];exact if_pos ⟨List.eq_nil_of_length_eq_zero (by show L43.length=0;omega),hok,by assumption⟩,λh=>absurd rfl h⟩,rfl,rfl,rfl⟩
 skip
 refine GC.region ?_;refine Az 0 28 ?_;refine Ah Tryz.call42 [] (up 0 8) rfl rfl rfl (by exact UG Xv s43 hM.len hok hM.Ez (G8 _ _ OC) hlen) ?_
 rintro _ _ _ ⟨⟨A59,n59,cp59,rfl⟩,rfl,rfl⟩
 refine AA 5 ?_
 refine Ac (?_:GC _ _ _ _)
 refine AP 9 ?_;refine AU rfl ?_;refine AX ?_;refine AO rfl (ED F6 JF rfl rfl) ?_;refine Ar 4 ?_;refine BI 3 ?_;refine Ap ?_;refine GC.ret ?_
 refine λa w h=>CZ Tryz.call48 (Lc _ _) (rs:=[.cell 2 64,.cell 3 68]) (vs:=[_,_]) (is:=[]) (js:=[14,14,14,13,12,11,13,10]) rfl ⟨⟨4,_,_,_,_,rfl,rfl,.inr ⟨[_,_,_,_,_,_,_,_,_,_,_,_,_,_,_,_,_,_,_,_,_,_,_,_,_,_,_,_],rfl,NU,J7,⟨rfl,rfl,rfl,rfl,rfl,rfl,rfl,rfl,rfl,rfl,rfl,rfl,rfl,rfl,rfl,rfl,rfl,rfl,rfl,rfl,rfl,rfl,rfl,rfl,rfl,rfl,rfl,rfl,trivial⟩⟩⟩,⟨3,_,_,_,_,rfl,rfl,.inl ⟨JC,rfl⟩⟩,trivial⟩ rfl rfl ?_ h
 clear h
 exact zq84_
theorem KG{n v:Nat}{L:List UInt8}(h:v<256 ^ n):Hl n (FK n v++L)=some ((v:Int),L):=by
 have hl:=D_ n v
 have e1:seg (FK n v++L) 0 n=FK n v:=by rw[seg,List.drop_zero,List.take_append_of_le_length (by omega)];exact List.take_of_length_le (by omega)
 have e2:(FK n v++L).drop n=L:=List.drop_left' hl
 rw[Hl,if_pos (by rw[List.length_append];omega),e1,e2,PU _ _ h]
theorem Nj{v:Int}{L:List UInt8}(h:JD v):Jf (FK 8 (u64 v)++L)=some (v,L):=by
 obtain⟨h0,h1⟩:=h
 have e:u64 v=v.toNat:=by unfold u64;omega
 have h8:v.toNat<256 ^ 8:=by rw[Gi];omega
 rw[Jf,e,KG h8,Option.bind_some]
 have:((v.toNat:Nat):Int)=v:=by omega
 dsimp only
 rw[this,if_pos h1]
theorem wrap_u64{v:Int}(h:-9223372036854775808<=v)(h':v<=9223372036854775807):IntKind.i64.wrap ((u64 v:Nat):Int)=v:=by
 unfold u64
 simp[IntKind.wrap,IntKind.bits,IntKind.signed]
 omega
theorem bit1(m:GZ):MF (IL m) 1=0↔m.op=Iw:=by rw[MF,IL,jL,MJ];simp
theorem bit2(m:GZ):MF (IL m) 2=0↔m.res=rz:=by rw[MF,IL,ZC,MI];simp
theorem bit4(m:GZ):MF (IL m) 4=0↔m.grp=Le:=by rw[MF,IL,UA,MH];simp
theorem bit8(m:GZ):MF (IL m) 8=0↔m.stt=PI:=by rw[MF,IL,jK,MG];simp
theorem wpO_app{m:GZ}{L:List UInt8}(hr:XH m):sU (IL m) (pO m++L)=some (m.op,L):=by
 unfold sU pO
 by_cases h:m.op=Iw
 ·rw[if_pos ((bit1 m).2 h),if_pos h,h];rfl
 ·rw[if_neg (λg=>h ((bit1 m).1 g)),if_neg h]
  obtain⟨u,e,g⟩:=bg (b:=Ri m.op++L) rfl (hr.op h)
  rw[e,Option.map_some,g.2]
theorem wpR_app{m:GZ}{L:List UInt8}(hr:XH m):sS (IL m) (pR m++L)=some (m.res,L):=by
 unfold sS pR
 by_cases h:m.res=rz
 ·rw[if_pos ((bit2 m).2 h),if_pos h,h];rfl
 ·rw[if_neg (λg=>h ((bit2 m).1 g)),if_neg h]
  obtain⟨u,e,g⟩:=X7 (b:=NZ m.res++L) rfl (hr.res h)
  rw[e,Option.map_some,g.2]
theorem wgrp_app{g:Ld}{L:List UInt8}(hg:FP g.epoch g.members=true):OH (JB g++L)=some (g,L):=by
 obtain⟨r1,r2,r3,r4,r5⟩:=Fp hg
 have e8:u64 g.epoch=g.epoch.toNat:=by unfold u64;omega
 rw[JB,Ov,Ov,<-e8,List.append_assoc,List.append_assoc,OH,Nj ⟨r4,r5⟩,Option.bind_some,KG (by rw[Gp];omega),Option.bind_some]
 obtain⟨u,e1,e2⟩:=MQ (f:=Hl 1) (enc:=λx:Int=>FK 1 x.toNat) (λt M=>t=M) L (xs:=g.members) (t:=Iy 1 g.members++L) (λx hx t M h=>by
  have:=r1 x hx
  refine⟨M,?_,rfl⟩
  rw[h,KG (by rw[Gp];omega)]
  have:((x.toNat:Nat):Int)=x:=by omega
  rw[this]) rfl
 subst e2
 rw[show((((g.members.length:Int)).toNat:Nat):Int).toNat=g.members.length by omega,e1]
 rfl
theorem wpG_app{m:GZ}{L:List UInt8}(hr:XH m):sV (IL m) (pG m++L)=some (m.grp,L):=by
 unfold sV pG
 by_cases h:m.grp=Le
 ·rw[if_pos ((bit4 m).2 h),if_pos h,h];rfl
 ·rw[if_neg (λg=>h ((bit4 m).1 g)),if_neg h,wgrp_app (hr.grp h)]
theorem wpS_app{m:GZ}{L:List UInt8}(hr:XH m)(hl:(pS m++L).length<=33554432):wpS (IL m) (pS m++L)=some (m.stt,L):=by
 unfold wpS
 by_cases h:m.stt=PI
 ·rw[if_pos ((bit8 m).2 h),pS,if_pos h,h];rfl
 ·rw[if_neg (λg=>h ((bit8 m).1 g))]
  rw[pS,if_neg h] at hl ⊢
  obtain⟨u,e,g⟩:=mstF_at (At.zero (JR m.stt++L)) (hr.stt h) hl
  rw[e,Option.map_some,g.2]
theorem went_app{e:Entry}{L:List UInt8}(he:Eo e):went (He e++L)=some (e,L):=by
 obtain⟨u,h,g⟩:=mentF_at (At.zero (He e++L)) he
 rw[went,h,Option.map_some,g.2]
theorem Xb{m:GZ}(hok:IX m)(hn:0<=m.Ez/\m.Ez<18446744073709551616)(G8:m.log.length<100000)(hB:(FC m).length<=16777216):Hz (FC m)=some (m,[]):=by
 have hr:=Yk hok
 have hpn:=Qx m
 obtain⟨⟨n1,n2,n3,n4,n5,n6,n7⟩,k1,k2,w1,w2,_,_⟩:=hok
 have p8:(256:Nat) ^ 8=18446744073709551616:=Gi
 have p4:(256:Nat) ^ 4=4294967296:=Gn
 have p1:(256:Nat) ^ 1=256:=Gp
 have hl:(pS m++(FK 4 m.log.length++m.log.flatMap He)).length<=33554432:=by
  simp only[FC,preB,List.length_append] at hB
  simp only[List.length_append];omega
 have hs:-4611686018427387904<=m.src/\m.src<64:=w1
 have hd:-4611686018427387904<=m.dst/\m.dst<64:=w2
 obtain⟨u,e1,e2⟩:=MQ (f:=went) (enc:=He) (λt M=>t=M) [] (xs:=m.log) (t:=m.log.flatMap He++[]) (λx hx t M h=>⟨M,by rw[h,went_app (hr.log x hx)],rfl⟩) rfl
 subst e2
 rw[List.append_nil] at e1
 rw[FC,preB,hdB,T_ (by omega) (by omega),T_ hpn.1 hpn.2]
 simp only[Lm,List.flatMap_cons,List.flatMap_nil,List.append_assoc,List.append_nil,List.nil_append]
 rw[Hz,KG (by omega),Option.bind_some,KG (by rw[p8];exact S_ _),Option.bind_some,KG (by rw[p8];exact S_ _),Option.bind_some,Nj n1,Option.bind_some,Nj n2,Option.bind_some,Nj n3,Option.bind_some,Nj n4,Option.bind_some,Nj n5,Option.bind_some,KG (by rw[p8];exact S_ _),Option.bind_some,Nj n6,Option.bind_some,Nj n7,Option.bind_some]
 rw[Kt,KG (by omega),Option.bind_some]
 dsimp only
 rw[show((m.kind.toNat:Nat):Int)=m.kind by omega,show(((IL m).toNat:Nat):Int)=IL m by omega,wpO_app hr,Option.bind_some,wpR_app hr,Option.bind_some,wpG_app hr,Option.bind_some,wpS_app hr hl,Option.map_some,Option.bind_some]
 dsimp only
 rw[KG (by omega),Option.bind_some]
 dsimp only
 rw[show((m.log.length:Nat):Int).toNat=m.log.length from rfl,e1,Option.map_some,wrap_u64 (by omega) (by omega),wrap_u64 (by omega) (by omega),<-dX hn.1 hn.2]
theorem Sz{m:GZ}(hok:IX m)(hn:0<=m.Ez/\m.Ez<18446744073709551616)(G8:m.log.length<100000)(hB:(FC m).length<=16777216):MV (FC m)=some m:=by
 rw[MV,Xb hok hn G8 hB,Option.bind_some]
 exact if_pos ⟨rfl,hok,rfl⟩
structure dM(b:List UInt8)(m:GZ):Prop where
 ok:IX m
 non:0<=m.Ez/\m.Ez<18446744073709551616
 log:m.log.length<100000
 len:(FC m).length<=16777216
 eq:b=HY (FC m)
theorem dM.short{b:List UInt8}{m:GZ}(h:dM b m):b.length<=140737488355328:=by
 rw[h.eq,LJ];have:=h.len;omega
theorem dM.log'{b:List UInt8}{m:GZ}(h:dM b m)(x:GZ)(M:List UInt8)(hx:Hz (FC m)=some (x,M)):x.log.length<100000:=by
 rw[Xb h.ok h.non h.log h.len] at hx
 rw[<-(Prod.mk.inj (Option.some.inj hx)).1];exact h.log
theorem dM.two{b:List UInt8}{m x:GZ}{k:Int}(g:dM b m)(h:(k=0->MV (FC m)=some x)/\(k≠0->MV (FC m)=none/\x=UW/\k=160)):k=0/\m=x:=by
 have e:=Sz g.ok g.non g.log g.len
 by_cases hk:k=0
 ·have:=h.1 hk
  rw[e] at this
  exact⟨hk,Option.some.inj this⟩
 ·have:=(h.2 hk).1
  rw[e] at this;cases this
def NX.take(x:NX)(i:Int)(keep:Bool):NX:=if keep then x else x.drop i
end Go.Proofs.YtliacpkblicnhaaGreat
namespace Go.Proofs.YtliacpkblicnhaaGreat
open Go Go.Sx Go.Proofs
section
variable (p:Nat)(K:List Nat)(x:NX)
theorem qL(i:Int)(keep:Bool)(hi:¬(0<=i/\i<(x.ps.length:Int))):Ct Tryz.prog 11 [.pointer (some ⟨p,0,none⟩),.int .i64 i,.bool keep] [JK p K x] [] (λu G Q=>∃K,u=.tuple #[Ip UW ⟨none,0,none,0,none,0,none,0,none,0,none,0,none,0,none,0⟩,.int .i64 5]/\G=[JK p K x]/\Q=H9 UW ⟨none,0,none,0,none,0,none,0,none,0,none,0,none,0,none,0⟩):=by
 refine Ct.intro Tryz.func11 rfl rfl rfl (λc hc=>?_)
 refine AX ?_;refine GL.step rfl (EH rfl F6) (Aa λKr=>?_);refine AL 1 ?_;refine AV 2 ?_;refine Ah Tryz.call18 [1] [] rfl rfl rfl (by exact V5 _ _ _ _ hi) ?_
 rintro _ _ _ ⟨K13,rfl,rfl,rfl⟩
 refine AL 5 ?_;refine AB ?_;refine AP 2 ?_;refine AU rfl ?_;refine AX ?_;refine GL.know (q:=D7.row Kd.u8 none []) (λ_ _ _=>.inl rfl) ?_;refine GL.know (q:=D7.row kI none []) (λ_ _ _=>.inl rfl) ?_
 refine GL.know (q:=D7.row GR none []) (λ_ _ _=>.inl rfl) ?_;refine GL.know (q:=D7.row Jz none []) (λ_ _ _=>.inl rfl) ?_;refine GL.know (q:=D7.row JV none []) (λ_ _ _=>.inl rfl) ?_;refine AO rfl (ED F6 JF rfl rfl) ?_
 refine AA 1 ?_;refine Ar 1 ?_;refine AL 1 ?_;refine GC.ret (Fin.c1 6 64 7 1 28 [0] [4,4,4,3,2,1,3,0] ?_)
 exact⟨_,rfl,rfl,rfl⟩
theorem aG(i:Int)(keep:Bool)(m:GZ)(hi:0<=i/\i<(x.ps.length:Int))(hF:dM (gt x.ps i).b m):Ct Tryz.prog 11 [.pointer (some ⟨p,0,none⟩),.int .i64 i,.bool keep] [JK p K x] [] (λu G Q=>∃K s,u=.tuple #[Ip m s,.int .i64 0]/\G=[JK p K (x.take i keep)]/\Q=H9 m s):=by
 refine Ct.intro Tryz.func11 rfl rfl rfl (λc hc=>?_)
 refine AX ?_;refine GL.step rfl (EH rfl F6) (Aa λKr=>?_);refine AL 1 ?_;refine AV 2 ?_;refine Ah Tryz.call18 [1] [] rfl rfl rfl (by exact TR _ _ _ _ hi hF.short) ?_
 rintro _ _ _ ⟨K13,A13,sD,tH,k13,rfl,rfl,rfl⟩
 refine AL 5 ?_;refine AB ?_;refine AP 2 ?_;refine AY rfl ?_
 refine GC.skip (?_:GC _ _ _ _)
 refine AB ?_;refine AP 2 ?_;refine Af ?_ ?_
 ·intro h1;try simp only[D6] at h1
  refine GC.region ?_;refine AA 2 ?_;refine Ah Tryz.call13 [0] [] rfl rfl rfl (by exact V3 _ _ _ _) ?_
  rintro _ _ _ ⟨K24,rfl,rfl,rfl⟩
  refine Ac (?_:GC _ _ _ _)
  refine AX ?_;refine GL.EN (i:=1) rfl ?_;refine AA 1 ?_;refine Ah Tryz.call24 [] [0] rfl rfl rfl (by exact jr _ (FC m) (gt x.ps i).b _ hF.eq hF.len hF.log' tH k13) ?_
  rintro _ _ _ ⟨m26,s26,k26,hd26,rfl,rfl,rfl⟩
  obtain⟨rfl,rfl⟩:=hF.two hd26
  refine AA 2 ?_;refine Ar 1 ?_;refine AL 1 ?_;refine GC.ret (Fin.c1 6 64 7 1 28 [0] (up 0 8) ?_)
  exact⟨_,_,rfl,by subst keep;rfl,rfl⟩
 intro h1;try simp only[D6] at h1
 refine GC.skip (?_:GC _ _ _ _)
 refine AX ?_;refine GL.EN (i:=1) rfl ?_;refine AA 1 ?_;refine Ah Tryz.call24 [] [0] rfl rfl rfl (by exact jr _ (FC m) (gt x.ps i).b _ hF.eq hF.len hF.log' tH k13) ?_
 rintro _ _ _ ⟨m26,s26,k26,hd26,rfl,rfl,rfl⟩
 obtain⟨rfl,rfl⟩:=hF.two hd26
 refine AA 2 ?_;refine Ar 1 ?_;refine AL 1 ?_;refine GC.ret (Fin.c1 6 64 7 1 28 [0] (up 0 8) ?_)
 exact⟨_,_,rfl,by subst keep;rfl,rfl⟩
end
end Go.Proofs.YtliacpkblicnhaaGreat
namespace Go.Proofs.YtliacpkblicnhaaGreat
open Go Go.Sx Go.Proofs
def nx0:NX:=⟨[],[],0,0⟩
abbrev netZ:List Value:=[.int .u32 0,.int .i32 0,.int .u32 0,.slice none 0 0,.map none,.int .i64 0,.int .i64 0]
theorem lu(b:Nat):RG [JK b [b] nx0] [.cells b netZ 42] :=
 ⟨J3.eq rfl,λw h o ho=>by
  rw[List.mem_singleton.1 ho]
  refine⟨⟨⟨0,none,0,[],.map none,[]⟩,rfl,.inl ⟨rfl,rfl,rfl,rfl⟩⟩,rfl,λo ho=>?_⟩
  rcases List.mem_cons.1 ho with rfl|ho
  ·exact h _ (List.mem_cons_self ..)
  ·rw[List.mem_singleton.1 (show o∈[rowP none 0 []] from ho)]
   exact⟨rfl,.inl ⟨rfl,rfl⟩⟩⟩
theorem GL.net0{P:Program}{c:Cx}{n:Nat}{env:List (Nat×Value)}{G Gr:List Own}{Q:List D7}{X:Exit->Gz}{ops:Array Oper}{rest:List Oper}{b:Nat}(is:List Nat)(hsel:sel G is=some ([.cells b netZ 42],Gr))(k:GL P ops X rest (St c n env (JK b [b] nx0::Gr) Q)):GL P ops X rest (St c n env G Q) :=
 GL.Zl is [JK b [b] nx0] hsel (lu b).1 (lu b).2 k
def ZG:GZ:=⟨5,0,1,0,5,0,0,0,0,0,0,Iw,rz,Le,PI,[]⟩
abbrev nwV:Value:=.agg #[.int .u8 5,.int .i64 0,.int .i64 1,.int .i64 0,.int .i64 5,.int .i64 0,.int .i64 0,.int .i64 0,.int .u64 0,.int .i64 0,.int .i64 0,.int .u8 0,.int .i64 0,.int .i64 0,.slice none 0 0,.slice none 0 0,.int .u8 0,.slice none 0 0,.int .i64 0,.slice none 0 0,.int .i64 0,.int .i64 0,.int .i64 0,.slice none 0 0,.slice none 0 0,.int .i64 0,.slice none 0 0,.slice none 0 0]
theorem nwM_len:FT ZG:=⟨by decide,by decide,by decide,by decide,⟨by decide,by decide,by decide,by simp[ZG,PI],by simp[ZG,PI]⟩,by decide,by simp[ZG]⟩
theorem nwM_ok:IX ZG:=by rw[<-Ru];decide +kernel
theorem aF:(FC ZG).length<=16777216:=by
 have:(FC ZG).length=86:=by decide +kernel
 omega
def nwF:List UInt8:=HY (FC ZG)
theorem Yj:FW ZG=(0,nwF):=by rw[FW,if_pos nwM_ok,if_pos aF];rfl
theorem nw_nil{q:D7}(h:q∈H9 ZG lie0):∀w S,q.h w S:=by
 intro w S
 simp only[List.mem_cons,List.not_mem_nil,or_false] at h
 rcases h with rfl|rfl|rfl|rfl|rfl|rfl|rfl|rfl<;>exact .inl rfl
def nx1:NX:=⟨[⟨nwF,false⟩],[],1,0⟩
def nx2:NX:=⟨[⟨nwF,false⟩],[(0,1)],1,0⟩
def nx3:NX:=⟨[⟨nwF,false⟩],[(0,1)],2,1⟩
def nx4:NX:=⟨[],[(0,1)],2,1⟩
theorem lQ(p:Nat)(K:List Nat)(x:NX)(ha:-4611686018427387904<=x.sent/\x.sent<=4611686018427387904)(hb:-4611686018427387904<=x.lost/\x.lost<=4611686018427387904)(y:NX)(hy:x.send ZG=y):Ct Tryz.prog 10 [.pointer (some ⟨p,0,none⟩),nwV] [JK p K x] [] (MK p (.int .i64 0) y):=by
 have h:=aJ p K x ZG lie0 nwM_len ⟨by decide,by decide⟩ (by decide) ha hb
 rw[hy,Yj] at h
 exact DZ h (λq hq=>.inr (nw_nil hq))
theorem nw1:nx0.send ZG=nx1:=by rw[NX.send,Yj,if_pos rfl,if_neg (by simp[nx0])];rfl
theorem nw3:nx2.send ZG=nx3:=by rw[NX.send,Yj,if_pos rfl,if_pos (by simp[nx2,ZG])];rfl
theorem nw2(p:Nat)(K:List Nat):Ct Tryz.prog 14 [.pointer (some ⟨p,0,none⟩),.int .i64 0,.int .i64 1,.bool true] [JK p K nx1] [] (MK p (.int .i64 0) nx2):=mD p K nx1 0 1 true (by omega) (by omega)
theorem nw4(p:Nat)(K:List Nat):Ct Tryz.prog 11 [.pointer (some ⟨p,0,none⟩),.int .i64 0,.bool false] [JK p K nx3] [] (λu G Q=>∃K s,u=.tuple #[Ip ZG s,.int .i64 0]/\G=[JK p K nx4]/\Q=H9 ZG s) :=
 aG p K nx3 0 false ZG ⟨by decide,by decide⟩ ⟨nwM_ok,⟨by decide,by decide⟩,by decide,aF,rfl⟩
theorem qV:Ct Tryz.prog 8 [] [] [] (λu G Q=>u=.bool true/\G=[]/\Q=[]):=by
 refine Ct.intro Tryz.func8 rfl rfl rfl (λc hc=>?_)
 refine AP 1 ?_;refine AX ?_;refine GL.step rfl (EH rfl ze_42) (Aa λIJ=>?_);refine Ap ?_;refine AX ?_;refine GL.net0 [0] rfl ?_;refine AO rfl (ED F6 JF rfl rfl) ?_;refine GL.step rfl (EH rfl F6) (Aa λGm=>?_)
 refine Ar 0 ?_;refine Ap ?_;refine AX ?_;refine Az 0 28 ?_;refine Ah Tryz.call10 [1] [] rfl rfl rfl (by exact lQ _ _ nx0 ⟨by decide,by decide⟩ ⟨by decide,by decide⟩ _ nw1) ?_
 rintro _ _ _ ⟨K12,rfl,rfl,rfl⟩
 refine AL 1 ?_;refine AX ?_;refine Ah Tryz.call14 [0] [] rfl rfl rfl (by exact nw2 _ _) ?_
 rintro _ _ _ ⟨K13,rfl,rfl,rfl⟩
 refine AL 1 ?_;refine AX ?_;refine Az 1 28 ?_;refine Ah Tryz.call10 [0] [] rfl rfl rfl (by exact lQ _ _ nx2 ⟨by decide,by decide⟩ ⟨by decide,by decide⟩ _ nw3) ?_
 rintro _ _ _ ⟨K15,rfl,rfl,rfl⟩
 refine AL 1 ?_;refine AX ?_;refine Ah Tryz.call11 [0] [] rfl rfl rfl (by exact nw4 _ _) ?_
 rintro _ _ _ ⟨K17,s17,rfl,rfl,rfl⟩
 refine AA 3 ?_;refine GL.step rfl (EH rfl F6) (Aa λKr=>?_);refine Ar 0 ?_;refine AL 1 ?_;refine AX ?_;refine Ah Tryz.call16 [1] [] rfl rfl rfl (by exact V4 _ _ _) ?_
 rintro _ _ _ ⟨K21,rfl,rfl,rfl⟩
 refine AL 5 ?_;refine AV 16 ?_;refine Aj 1 ?_;refine AA 3 ?_;refine Au rfl (s:=43) rfl rfl (EI rfl Tryz.call15 rfl (is:=[0]) (js:=[]) rfl rfl (by exact lY _ _ _)) (GL.ret ?_)
 rintro _ _ _ ⟨K44,rfl,rfl,rfl⟩
 refine AA 11 ?_;refine Au rfl (s:=55) rfl rfl (EI rfl Tryz.call20 rfl (is:=[0]) (js:=[]) rfl rfl (by exact gu _ _ _ _ _)) (GL.ret ?_)
 rintro _ _ _ ⟨K56,rfl,rfl,rfl⟩
 refine AA 2 ?_;refine Au rfl (s:=58) rfl rfl (EI rfl Tryz.call20 rfl (is:=[0]) (js:=[]) rfl rfl (by exact gu _ _ _ _ _)) (GL.ret ?_)
 rintro _ _ _ ⟨K59,rfl,rfl,rfl⟩
 refine AL 3 ?_;refine GC.ret (AQ 0 [] [] ?_)
 exact⟨rfl,rfl,rfl⟩
def cutE(i j:Int):Int:=if (0<=i/\i<64)/\0<=j/\j<64 then 0 else 1
def NX.cutF(x:NX)(i j:Int)(on:Bool):NX:=if (0<=i/\i<64)/\0<=j/\j<64 then x.cut i j on else x
theorem ncutF_ct(p:Nat)(K:List Nat)(x:NX)(i j:Int)(on:Bool):Ct Tryz.prog 14 [.pointer (some ⟨p,0,none⟩),.int .i64 i,.int .i64 j,.bool on] [JK p K x] [] (MK p (.int .i64 (cutE i j)) (x.cutF i j on)):=by
 unfold cutE NX.cutF
 by_cases h:(0<=i/\i<64)/\0<=j/\j<64
 ·rw[if_pos h,if_pos h];exact mD p K x i j on h.1 h.2
 ·rw[if_neg h,if_neg h];exact ncutx_ct p K x i j on h
theorem YK{x:NX}{m:GZ}(h:¬(FW m).1=0):x.send m=x:=by rw[NX.send,if_neg h]
structure NOp where
 kind:Int
 m:GZ
 i:Int
 at_:Int
 x:Int
 on:Bool
 deriving Inhabited,DecidableEq
def kNOp:Kd NOp:=Cj (BU (Kd.int .i64) (BU kMsg (BU (Kd.int .i64) (BU (Kd.int .i64) (BU (Kd.int .u8) (Kd.bool)))))) (λr=>(r.kind,r.m,r.i,r.at_,r.x,r.on))
def okNOp(r:NOp):Prop:=((Lit.int .i64 r.kind).wf=true)/\(lJ r.m)/\((Lit.int .i64 r.i).wf=true)/\((Lit.int .i64 r.at_).wf=true)/\((Lit.int .u8 r.x).wf=true)/\(True)
theorem opensNOp:Opens Tryz.prog 66 kNOp okNOp:=Opens.struct Tryz.underlying66 (E5.cons (Opens.int Tryz.underlying3) (by kernel_rfl) rfl (E5.cons opensMsg (by kernel_rfl) rfl (E5.cons (Opens.int Tryz.underlying3) (by kernel_rfl) rfl (E5.cons (Opens.int Tryz.underlying3) (by kernel_rfl) rfl (E5.cons (Opens.int Tryz.underlying5) (by kernel_rfl) rfl (E5.one (Opens.bool Tryz.underlying4) (by kernel_rfl))))))) (by kernel_rfl) (λr:NOp=>(r.kind,r.m,r.i,r.at_,r.x,r.on)) (λp=>(⟨p.1,p.2.1,p.2.2.1,p.2.2.2.1,p.2.2.2.2.1,p.2.2.2.2.2⟩:NOp)) (λ_=>rfl)
theorem rJ(x:NX)(i:Int):(∀q∈(x.drop i).ps,q∈x.ps)/\(x.drop i).sent=x.sent/\(x.drop i).lost=x.lost:=by
 unfold NX.drop
 split
 ·exact⟨λq hq=>List.mem_of_mem_eraseIdx hq,rfl,rfl⟩
 ·exact⟨λq hq=>hq,rfl,rfl⟩
theorem fK{v:Nat}(h:v<18446744073709551616):IntKind.u64.wrap ((v:Int).tdiv 256)=((v / 256:Nat):Int):=by
 have e:(v:Int).tdiv 256=((v / 256:Nat):Int):=by
  rw[Int.tdiv_eq_ediv_of_nonneg (by omega)];rfl
 rw[e];exact wrap64 (by omega)
theorem rem256(v:Nat):(v:Int).tmod 256=((v % 256:Nat):Int):=by
 rw[Int.tmod_eq_emod_of_nonneg (by omega)];rfl
theorem wrapB2(m:Nat):IntKind.u8.wrap ((m % 256:Nat):Int)=((UInt8.ofNat (m % 256)).toNat:Int):=by
 have:=Qk (m % 256)
 rwa [Nat.mod_mod] at this
theorem Wx{v k:Nat}(h:v<18446744073709551616):v / 256 ^ k<18446744073709551616:=Nat.lt_of_le_of_lt (Nat.div_le_self ..) h
theorem Wv(v k:Nat):v / 256 ^ k / 256=v / 256 ^ (k+1):=by rw[Nat.div_div_eq_div_mul,Nat.pow_succ]
theorem Zj(v n:Nat)(h':n<=8)(hv:v<256 ^ n):Ct Tryz.prog 176 [.int .u64 (v:Int),.int .i64 (n:Int)] [] [] (λu G Q=>u=.bool true/\G=[]/\Q=[]):=by
 have h8:256 ^ n<=256 ^ 8:=Nat.pow_le_pow_right (by decide) h'
 have h64:v<18446744073709551616:=by omega
 refine Ct.intro Tryz.func176 rfl rfl rfl (λc hc=>?_)
 refine AP 1 ?_;refine AB ?_;refine AP 1 ?_;refine GC.block ?_;refine Bd (ks:=[1]) (is:=[]) (js:=[]) (fun(k:Nat)=>k<=n) (fun(k:Nat)=>[(0,.int .u64 ((v / 256 ^ k:Nat):Int)),(5,.int .i64 (k:Int))]) (fun(k:Nat)=>[]) (fun(k:Nat)=>[]) (fun(k:Nat)=>n - k) (0) rfl rfl rfl (λa w h=>⟨by omega,by simp only[Nat.pow_zero,Nat.div_one];exact h.Hf (is:=[]) (js:=[]) (ks:=[1]) ⟨rfl,rfl,trivial⟩ rfl rfl rfl⟩) ?_
 intro k hk
 try dsimp only[List.cons_append,List.nil_append] at hk ⊢
 refine AB ?_;refine AP 3 ?_;refine Af ?_ ?_
 ·intro h1;try simp only[D6] at h1
  refine GC.skip (?_:GC _ _ _ _)
  refine AB ?_;refine GC.block ?_;refine GC.region ?_;refine AA 1 ?_;refine AO rfl (O8 (r:=((v / 256 ^ k / 256:Nat):Int)) rfl rfl (by decide) (fK (Wx h64))) ?_;refine AA 1 ?_
  refine Ac (?_:GC _ _ _ _)
  refine GC.region ?_;refine AA 1 ?_;refine AO rfl (EU rfl rfl (Fh (by omega) (by omega))) ?_;refine AA 1 ?_;refine Ac ?_
  exact λa w h=>⟨(k+1),(by omega),by omega,by rw[<-Wv];exact h.ct [] []⟩
 intro h1;try simp only[D6] at h1
 refine GC.exit (?_:GC _ _ _ _)
 refine AP 3 ?_;refine GC.ret (AQ 4 [] [] ?_)
 obtain rfl:k=n:=by omega
 exact⟨congrArg Value.bool (decide_eq_true (by rw[Nat.div_eq_of_lt hv];rfl)),rfl,rfl⟩
theorem ND(A:Option Addr)(b:List UInt8)(cp v n:Nat)(hn:1<=n)(hn':n<=8)(hb:b.length<=10000000000000)(hv:v<256 ^ n):Ct Tryz.prog 125 [.slice A b.length cp,.int .u64 (v:Int),.int .i64 (n:Int)] [] [D7.row Kd.u8 A b]
    (λu G Q=>∃A' cp',(b++FK n v).length<=cp'/\cp'<=9223372036854775807/\u=.tuple #[.slice A' (b++FK n v).length cp',.int .i64 0]/\G=[rowOf A' cp' (b++FK n v)]/\Q=[]):=by
 have h8:256 ^ n<=256 ^ 8:=Nat.pow_le_pow_right (by decide) hn'
 have h64:v<18446744073709551616:=by omega
 refine Ct.intro Tryz.func125 rfl rfl rfl (λc hc=>?_)
 refine AP 2 ?_;refine AB ?_;refine AV 3 ?_;refine Ak 12 ?_ ?_
 ·intro h1;try simp only[D6] at h1
  exfalso;omega
 intro h1;try simp only[D6] at h1
 refine AL 3 ?_;refine Af ?_ ?_
 ·intro h2;try simp only[D6] at h2
  exfalso;omega
 intro h2;try simp only[D6] at h2
 refine GC.skip (?_:GC _ _ _ _)
 refine AB ?_;refine AV 2 ?_;refine Ah Tryz.call176 [] [] rfl rfl rfl (by exact Zj v n hn' hv) ?_
 rintro _ _ _ ⟨rfl,rfl,rfl⟩
 refine AL 1 ?_;refine AY rfl ?_
 refine GC.skip (?_:GC _ _ _ _)
 refine AX ?_;refine GL.step rfl (EC rfl Tryz.underlying47 Fa Jd rfl rfl rfl rfl rfl rfl) (Aa λb_t20=>?_);refine AA 1 ?_;refine Ci (i:=0) (m:=0) (sz:=1) rfl rfl (by decide) rfl ?_
 refine GL.step rfl (Ep (i:=0) (k:=0) rfl Fv rfl rfl rfl rfl (by simp;omega) (λ_=>rfl)) (Aa λv22=>?_);refine GL.rowIs (i:=0) (m':=(b).length) (cs':=(b).map JE) rfl (by first|(simp only[List.length_append,List.length_cons,List.length_nil,List.append_assoc];done)|(simp only[List.length_append,List.length_cons,List.length_nil,List.append_assoc];omega)|(simp[D_];done)|(simp[D_];omega)|rfl) (by first|(simp only[List.map_append,List.map_cons,List.map_nil,List.append_assoc];done)|(simp[D_];done)|rfl) rfl ?_
 refine AL 1 ?_;refine AB ?_;refine AP 1 ?_;refine GC.block ?_;refine CV (ks:=[2]) (is:=[]) (js:=[0]) (fun(k:Nat) (U:Value)=>k<=n) (fun(k:Nat) (U:Value)=>[(1,.int .u64 ((v / 256 ^ k:Nat):Int)),(8,U),(9,.int .i64 (k:Int))]) (fun(k:Nat) (U:Value)=>[.row U 5 1 (b.length+k) ((b++FK k v).map JE)]) (fun(k:Nat) (U:Value)=>[]) (fun(k:Nat) (U:Value)=>n - k) (0) (_) rfl rfl rfl (λa w h=>⟨by omega,by simp only[FK,List.append_nil,Nat.pow_zero,Nat.div_one];exact h.Hf (is:=[0]) (js:=[0]) (ks:=[2]) ⟨rfl,rfl,rfl,trivial⟩ rfl rfl rfl⟩) ?_
 intro k U hk
 try dsimp only[List.cons_append,List.nil_append] at hk ⊢
 refine AB ?_;refine AP 3 ?_;refine Af ?_ ?_
 ·intro h3;try simp only[D6] at h3
  refine GC.skip (?_:GC _ _ _ _)
  refine AB ?_;refine GC.block ?_;refine AV 2 ?_;refine AO rfl (Pn (r:=((v / 256 ^ k % 256:Nat):Int)) rfl rfl (by decide) (rem256 _)) ?_;refine AO rfl (EO (t:=45) (r:=((UInt8.ofNat (v / 256 ^ k % 256)).toNat:Int)) (by rw[Tryz.underlying45];simp) Tryz.underlying5 rfl (wrapB2 _)) ?_
  refine GL.step rfl (EC rfl Tryz.underlying47 Fa Jd rfl rfl rfl rfl rfl rfl) (Aa λb_t32=>?_);refine GL.step rfl (Eh (i:=1) (k:=0) rfl Fv rfl rfl rfl rfl rfl (EX rfl) (by simp;omega) (λ_=>rfl)) (Aa λv33=>?_)
  refine AL 1 ?_;refine GC.region ?_;refine AA 1 ?_;refine AO rfl (O8 (r:=((v / 256 ^ k / 256:Nat):Int)) rfl rfl (by decide) (fK (Wx h64))) ?_;refine AA 1 ?_
  refine Ac (?_:GC _ _ _ _)
  refine GC.region ?_;refine AA 1 ?_;refine AO rfl (EU rfl rfl (Fh (by omega) (by omega))) ?_;refine AA 1 ?_;refine Ac ?_
  exact λa w h=>⟨(k+1),(v33),(by omega),by omega,by rw[Ry,<-List.append_assoc,List.map_append,<-Wv];exact h.ct [1] [0]⟩
 intro h3;try simp only[D6] at h3
 refine GC.exit (?_:GC _ _ _ _)
 refine AB ?_
 obtain rfl:k=n:=by omega
 refine GC.rowIs (i:=0) (m':=((b++FK k v)).length) (cs':=((b++FK k v)).map JE) rfl (by first|(simp only[List.length_append,List.length_cons,List.length_nil,List.append_assoc];done)|(simp only[List.length_append,List.length_cons,List.length_nil,List.append_assoc];omega)|(simp[D_];done)|(simp[D_];omega)|rfl) (by first|(simp only[List.map_append,List.map_cons,List.map_nil,List.append_assoc];done)|(simp[D_];done)|rfl) rfl ?_
 refine GC.shape (i:=0) rfl (λA_t20 c_t20 e_t20 l_t20 k_t20=>?_)
 subst e_t20
 refine GC.region ?_;refine AA 3 ?_
 refine Ac (?_:GC _ _ _ _)
 refine GC.ret (BR 6 7 [0] [] ?_)
 exact⟨_,_,l_t20,k_t20,rfl,rfl,rfl⟩
theorem PX(A:Option Addr)(b:List UInt8)(cp:Nat)(B:Option Addr)(s:List UInt8)(cq:Nat)(hb:b.length<=1000000000000)(hs:s.length<=16777216):Ct Tryz.prog 126 [.slice A b.length cp,.slice B s.length cq] [] [D7.row Kd.u8 A b,D7.row Kd.u8 B s]
    (λu G Q=>∃A' cp',(b++FK 4 s.length++s).length<=cp'/\cp'<=9223372036854775807/\u=.tuple #[.slice A' (b++FK 4 s.length++s).length cp',.int .i64 0]/\G=[rowOf A' cp' (b++FK 4 s.length++s)]/\Q=[]):=by
 refine Ct.intro Tryz.func126 rfl rfl rfl (λc hc=>?_)
 refine AP 2 ?_;refine AB ?_;refine AP 3 ?_;refine Af ?_ ?_
 ·intro h1;try simp only[D6] at h1
  exfalso;omega
 intro h1;try simp only[D6] at h1
 refine GC.skip (?_:GC _ _ _ _)
 refine AV 3 ?_;refine AO rfl (EO (t:=3) (r:=((s.length:Nat):Int)) (by rw[Tryz.underlying3];simp) Tryz.underlying45 rfl (bn (by omega) (by omega))) ?_
 refine Ah Tryz.call125 [] [0] rfl rfl rfl (by exact ND _ b _ s.length 4 (by omega) (by omega) (by omega) (by rw[Gn];omega)) ?_
 rintro _ _ _ ⟨A16,r_,l16,k16,rfl,rfl,rfl⟩
 refine AL 5 ?_;refine AV 2 ?_;refine GL.step rfl (Ep (i:=0) (k:=1) rfl Fv rfl rfl rfl rfl (by simp[D_];omega) (λ_=>rfl)) (Aa λv21=>?_)
 refine GL.rowIs (i:=0) (m':=((b++FK 4 s.length++s)).length) (cs':=((b++FK 4 s.length++s)).map JE) rfl (by first|(simp only[List.length_append,List.length_cons,List.length_nil,List.append_assoc];done)|(simp only[List.length_append,List.length_cons,List.length_nil,List.append_assoc];omega)|(simp[D_];done)|(simp[D_];omega)|rfl) (by first|(simp only[List.map_append,List.map_cons,List.map_nil,List.append_assoc];done)|(simp[D_];done)|rfl) rfl ?_
 refine GL.shape (i:=0) rfl (λA_rp16 c_rp16 e_rp16 l_rp16 k_rp16=>?_)
 subst e_rp16
 refine AL 2 ?_;refine GC.ret (BR 4 5 [0] [] ?_)
 exact⟨_,_,l_rp16,k_rp16,rfl,rfl,rfl⟩
theorem fB(A:Option Addr)(b:List UInt8)(cp n:Nat)(L:Option Addr)(l:List Nat)(cl:Nat)(hn:1<=n)(hn':n<=8)(hb:b.length+8 * l.length<=10000000000000)(hl:∀x∈l,x<256 ^ n):Ct Tryz.prog 128 [.slice A b.length cp,.int .i64 (n:Int),.slice L l.length cl] [] [D7.row Kd.u8 A b,D7.row kU L l]
    (λu G Q=>∃A' cp',(b++Lm n l).length<=cp'/\cp'<=9223372036854775807/\u=.tuple #[.slice A' (b++Lm n l).length cp',.int .i64 0]/\G=[rowOf A' cp' (b++Lm n l)]/\Q=[]):=by
 have h8:256 ^ n<=256 ^ 8:=Nat.pow_le_pow_right (by decide) hn'
 refine Ct.intro Tryz.func128 rfl rfl rfl (λc hc=>?_)
 refine AP 2 ?_;refine AB ?_;refine AV 3 ?_;refine Ak 14 ?_ ?_
 ·intro h1;try simp only[D6] at h1
  exfalso;omega
 intro h1;try simp only[D6] at h1
 refine AL 3 ?_;refine Af ?_ ?_
 ·intro h2;try simp only[D6] at h2
  exfalso;omega
 intro h2;try simp only[D6] at h2
 refine GC.skip (?_:GC _ _ _ _)
 refine AX ?_;refine GL.step rfl (EC rfl Tryz.underlying47 Fa Jd rfl rfl rfl rfl rfl rfl) (Aa λb_t18=>?_);refine AA 1 ?_;refine Ci (i:=0) (m:=0) (sz:=1) rfl rfl (by decide) rfl ?_
 refine GL.step rfl (Ep (i:=0) (k:=0) rfl Fv rfl rfl rfl rfl (by first|(simp;omega)|skip;have:=lZ hn' (show k<=l.length by omega);(try simp only[List.length_append,EG,List.length_take,D_,List.length_cons,List.length_nil]);omega) (λ_=>rfl)) (Aa λv20=>?_)
 refine GL.rowIs (i:=0) (m':=(b).length) (cs':=(b).map JE) rfl (by first|(simp only[List.length_append,List.length_cons,List.length_nil,List.append_assoc];done)|(simp only[List.length_append,List.length_cons,List.length_nil,List.append_assoc];omega)|(simp[D_,EG];done)|(simp[D_,EG];omega)|rfl) (by first|(simp only[List.map_append,List.map_cons,List.map_nil,List.append_assoc];done)|(simp[D_,EG];done)|rfl) rfl ?_
 refine AL 1 ?_;refine AB ?_;refine AP 1 ?_;refine GC.block ?_;refine CV (ks:=[1,2]) (is:=[]) (js:=[0,1]) (fun(k:Nat) (U:Value)=>k<=l.length) (fun(k:Nat) (U:Value)=>[(8,U),(9,.int .i64 (k:Int))]) (fun(k:Nat) (U:Value)=>[.row U 5 1 (b.length+n * k) ((b++Lm n (l.take k)).map JE)]) (fun(k:Nat) (U:Value)=>[]) (fun(k:Nat) (U:Value)=>l.length - k) (0) (_) rfl rfl rfl (λa w h=>⟨by omega,by simp only[Lm,List.take_zero,List.flatMap_nil,List.append_nil,Nat.mul_zero];exact h.Hf (is:=[0]) (js:=[0,1]) (ks:=[1,2]) ⟨rfl,rfl,trivial⟩ rfl rfl rfl⟩) ?_
 intro k U hk
 try dsimp only[List.cons_append,List.nil_append] at hk ⊢
 refine AB ?_;refine AP 4 ?_;refine Af ?_ ?_
 ·intro h3;try simp only[D6] at h3
  refine GC.skip (?_:GC _ _ _ _)
  refine AB ?_;refine GC.block ?_
  iterate 2 refine AB ?_
  have hx:=hl _ (Ec (l:=l) (k:=k) (by omega))
  refine GC.region ?_;refine AA 2 ?_;refine GL.step rfl (Ej (i:=1) rfl rfl rfl rfl Tryz.underlying180 UJ (by omega) (EW (by omega) (by omega))) (Aa λp_x29=>Aa λr_x29=>GL.and λok_x29=>?_)
  rcases r_x29 with _
  refine GL.step rfl (Ed rfl (ES (i:=0) rfl rfl ag_45 rfl)) ?_;refine AA 1 ?_;refine Ah Tryz.call176 [] [] rfl rfl rfl (by exact Zj (gt l (k:Int)) n hn' (hl _ (Ec (by omega)))) ?_
  rintro _ _ _ ⟨rfl,rfl,rfl⟩
  refine AA 1 ?_
  refine Ac (?_:GC _ _ _ _)
  refine AY rfl ?_
  refine GC.skip (?_:GC _ _ _ _)
  refine AV 2 ?_;refine GL.step rfl (Ej (i:=2) rfl rfl rfl rfl Tryz.underlying180 UJ (by omega) (EW (by omega) (by omega))) (Aa λp_x36=>Aa λZo=>GL.and λok_x36=>?_)
  rcases Zo with _
  refine GL.step rfl (Ed rfl (ES (i:=0) rfl rfl ag_45 rfl)) ?_;refine AL 1 ?_;refine AP 1 ?_;refine GC.block ?_;refine CV (ks:=[1,2,9]) (is:=[]) (js:=[0,1,2,3]) (fun(j:Nat) (U:Value)=>j<=n) (fun(j:Nat) (U:Value)=>[(8,U),(10,.int .u64 ((gt l (k:Int) / 256 ^ j:Nat):Int)),(11,.int .i64 (j:Int))]) (fun(j:Nat) (U:Value)=>[.row U 5 1 (b.length+n * k+j) ((b++Lm n (l.take k)++FK j (gt l (k:Int))).map JE)]) (fun(j:Nat) (U:Value)=>[]) (fun(j:Nat) (U:Value)=>n - j) (0) (_) rfl rfl rfl (λa w h=>⟨by omega,by simp only[FK,List.append_nil,Nat.pow_zero,Nat.div_one];exact h.Hf (is:=[0]) (js:=[0,1,2,3]) (ks:=[1,2,9]) ⟨rfl,rfl,rfl,trivial⟩ rfl rfl rfl⟩) ?_
  intro j U hj
  try dsimp only[List.cons_append,List.nil_append] at hj ⊢
  refine AB ?_;refine AP 3 ?_;refine Af ?_ ?_
  ·intro h4;try simp only[D6] at h4
   refine GC.skip (?_:GC _ _ _ _)
   refine AB ?_;refine GC.block ?_;refine AV 2 ?_;refine AO rfl (Pn (r:=((gt l (k:Int) / 256 ^ j % 256:Nat):Int)) rfl rfl (by decide) (rem256 _)) ?_;refine AO rfl (EO (t:=45) (r:=((UInt8.ofNat (gt l (k:Int) / 256 ^ j % 256)).toNat:Int)) (by rw[Tryz.underlying45];simp) Tryz.underlying5 rfl (wrapB2 _)) ?_
   refine GL.step rfl (EC rfl Tryz.underlying47 Fa Jd rfl rfl rfl rfl rfl rfl) (Aa λnZ=>?_);refine GL.step rfl (Eh (i:=1) (k:=0) rfl Fv rfl rfl rfl rfl rfl (EX rfl) (by first|(simp;omega)|skip;have:=lZ hn' (show k<=l.length by omega);(try simp only[List.length_append,EG,List.length_take,D_,List.length_cons,List.length_nil]);omega) (λ_=>rfl)) (Aa λv48=>?_)
   refine AL 1 ?_;refine GC.region ?_;refine AA 1 ?_;refine AO rfl (O8 (r:=((gt l (k:Int) / 256 ^ j / 256:Nat):Int)) rfl rfl (by decide) (fK (Wx (by omega)))) ?_;refine AA 1 ?_
   refine Ac (?_:GC _ _ _ _)
   refine GC.region ?_;refine AA 1 ?_;refine AO rfl (EU rfl rfl (Fh (by omega) (by omega))) ?_;refine AA 1 ?_;refine Ac ?_
   exact λa w h=>⟨(j+1),(v48),(by omega),by omega,by rw[Ry,<-List.append_assoc (b++Lm n (l.take k)),List.map_append,<-Wv];exact h.ct [1] [0,1,2,3]⟩
  intro h4;try simp only[D6] at h4
  refine GC.exit (?_:GC _ _ _ _)
  refine GC.region ?_;refine AA 1 ?_;refine AO rfl (EU rfl rfl (Fh (by omega) (by omega))) ?_;refine AA 1 ?_;refine Ac ?_
  obtain rfl:j=n:=by omega
  exact λa w h=>⟨(k+1),(_),(by omega),by omega,by rw[WY (by omega),<-List.append_assoc,Nat.mul_succ,<-Nat.add_assoc];exact h.cut (is:=[0]) (js:=[2,3]) ⟨rfl,rfl,rfl,rfl,trivial⟩ rfl rfl⟩
 intro h3;try simp only[D6] at h3
 refine GC.exit (?_:GC _ _ _ _)
 refine AB ?_
 obtain rfl:k=l.length:=by omega
 rw[List.take_length]
 refine GC.rowIs (i:=0) (m':=((b++Lm n l)).length) (cs':=((b++Lm n l)).map JE) rfl (by first|(simp only[List.length_append,List.length_cons,List.length_nil,List.append_assoc];done)|(simp only[List.length_append,List.length_cons,List.length_nil,List.append_assoc];omega)|(simp[D_,EG];done)|(simp[D_,EG];omega)|rfl) (by first|(simp only[List.map_append,List.map_cons,List.map_nil,List.append_assoc];done)|(simp[D_,EG];done)|rfl) rfl ?_
 refine GC.shape (i:=0) rfl (λA_t18 c_t18 e_t18 l_t18 k_t18=>?_)
 subst e_t18
 refine GC.region ?_;refine AA 3 ?_
 refine Ac (?_:GC _ _ _ _)
 refine GC.ret (BR 6 7 [0] [] ?_)
 exact⟨_,_,l_t18,k_t18,rfl,rfl,rfl⟩
theorem flI2(n a b_:Nat):Lm n [a,b_]=FK n a++FK n b_:=by simp[Lm]
theorem rform_ok(o:LM)(h:Jp o)(A:Option Addr)(cp:Nat)(B:Option Addr)(cq:Nat):Ct Tryz.prog 118 [lI o A cp B cq] [] [] (λv G Q=>v=.int .i64 0/\G=[]/\Q=[]):=by
 have r:=NP h
 have:=SC o.kind o.at_ o.n A o.data.length cp B o.old.length cq (by omega) (by omega)
 rw[(D8 ..).2 h] at this
 exact this
theorem Xo(o:LM)(A:Option Addr)(cp:Nat)(B:Option Addr)(cq:Nat)(hf:Jp o):Ct Tryz.prog 130 [lI o A cp B cq] [] [D7.row Kd.u8 A o.data,D7.row Kd.u8 B o.old]
    (λu G Q=>∃A' cp',(Ri o).length<=cp'/\cp'<=9223372036854775807/\u=.tuple #[.slice A' (Ri o).length cp',.int .i64 0]/\G=[rowOf A' cp' (Ri o)]/\Q=[]):=by
 obtain⟨r1,r2,r3,r4,r5,r6,r7,r8⟩:=NP hf
 have e:[G9 o.kind]++FK 4 o.at_.toNat++FK 4 o.n.toNat++FK 4 o.data.length++o.data++FK 4 o.old.length++o.old=Ri o:=by rw[Ri,flI2];simp only[List.append_assoc]
 rw[<-e]
 refine Ct.intro Tryz.func130 rfl rfl rfl (λc hc=>?_)
 refine AX ?_;refine GL.step rfl (Ee rfl rfl rfl) (Aa λIJ=>?_);refine AL 2 ?_;refine AX ?_;refine Az 0 5 ?_;refine Ah Tryz.call118 [] [] rfl rfl rfl (by exact rform_ok o hf _ _ _ _) ?_
 rintro _ _ _ ⟨rfl,rfl,rfl⟩
 refine AL 1 ?_;refine AB ?_;refine AP 2 ?_;refine AY rfl ?_
 refine GC.skip (?_:GC _ _ _ _)
 refine AV 1 ?_;refine Ad 0 ?_;refine GL.LW 12 rfl (congrArg (Value.int .u8) (NT (by omega) (by omega))) ?_;refine GL.step rfl (EC rfl Tryz.underlying47 Fa Jd rfl rfl rfl rfl rfl rfl) (Aa λny=>?_)
 refine AL 1 ?_;refine AV 2 ?_;refine Ad 1 ?_;refine AO rfl (EO (t:=3) (r:=((o.at_.toNat:Nat):Int)) (by rw[Tryz.underlying3];simp) Tryz.underlying45 rfl (cvZ (by omega) (by omega))) ?_
 refine GL.FD (enc:=JE) (xs:=[G9 o.kind]) (h1:=λ_=>rfl) (i:=0) rfl ?_;refine Ah Tryz.call125 [] [0] rfl rfl rfl (by exact ND _ [G9 o.kind] _ o.at_.toNat 4 (by omega) (by omega) (by simp) (by rw[Gn];omega)) ?_
 rintro _ _ _ ⟨A19,ru,l19,k19,rfl,rfl,rfl⟩
 refine AL 4 ?_;refine AV 2 ?_;refine Ad 1 ?_;refine AO rfl (EO (t:=3) (r:=((o.n.toNat:Nat):Int)) (by rw[Tryz.underlying3];simp) Tryz.underlying45 rfl (cvZ (by omega) (by omega))) ?_
 refine GL.EN (i:=0) rfl ?_;refine Ah Tryz.call125 [] [0] rfl rfl rfl (by exact ND _ ([G9 o.kind]++FK 4 o.at_.toNat) _ o.n.toNat 4 (by omega) (by omega) (by simp[D_]) (by rw[Gn];omega)) ?_
 rintro _ _ _ ⟨A27,jF,mQ,k27,rfl,rfl,rfl⟩
 refine AL 4 ?_;refine AV 2 ?_;refine Ad 1 ?_;refine GL.EN (i:=0) rfl ?_;refine Ah Tryz.call126 [] [0,3] rfl rfl rfl (by exact PX _ ([G9 o.kind]++FK 4 o.at_.toNat++FK 4 o.n.toNat) _ _ o.data _ (by simp[D_]) (by omega)) ?_
 rintro _ _ _ ⟨A34,cp34,l34,k34,rfl,rfl,rfl⟩
 refine AL 4 ?_;refine AV 2 ?_;refine Ad 1 ?_;refine GL.EN (i:=0) rfl ?_;refine Ah Tryz.call126 [] [0,5] rfl rfl rfl (by exact PX _ ([G9 o.kind]++FK 4 o.at_.toNat++FK 4 o.n.toNat++FK 4 o.data.length++o.data) _ _ o.old _ (by simp[D_];omega) (by omega)) ?_
 rintro _ _ _ ⟨A41,rZ,l41,k41,rfl,rfl,rfl⟩
 refine AL 4 ?_;refine AP 3 ?_;refine GC.ret (BR 2 3 [0] [] ?_)
 exact⟨_,_,l41,k41,rfl,rfl,rfl⟩
theorem rres_ok(r:J4)(h:Ic r.code r.data.length=true)(A:Option Addr)(cp:Nat):Ct Tryz.prog 120 [.agg #[.int .u8 r.code,.slice A r.data.length cp]] [] [] (λv G Q=>v=.int .i64 0/\G=[]/\Q=[]):=by
 have:=RU r.code A r.data.length cp
 rw[if_pos h] at this
 exact this
theorem Va(r:J4)(A:Option Addr)(cp:Nat)(hf:Ic r.code r.data.length=true):Ct Tryz.prog 131 [.agg #[.int .u8 r.code,.slice A r.data.length cp]] [] [D7.row Kd.u8 A r.data]
    (λu G Q=>∃A' cp',(NZ r).length<=cp'/\cp'<=9223372036854775807/\u=.tuple #[.slice A' (NZ r).length cp',.int .i64 0]/\G=[rowOf A' cp' (NZ r)]/\Q=[]):=by
 obtain⟨r1,r2,r3⟩:=QO hf
 refine Ct.intro Tryz.func131 rfl rfl rfl (λc hc=>?_)
 refine AX ?_;refine GL.step rfl (Ee rfl rfl rfl) (Aa λIJ=>?_);refine AL 2 ?_;refine AX ?_;refine Az 0 2 ?_;refine Ah Tryz.call120 [] [] rfl rfl rfl (by exact rres_ok r hf _ _) ?_
 rintro _ _ _ ⟨rfl,rfl,rfl⟩
 refine AL 1 ?_;refine AB ?_;refine AP 2 ?_;refine AY rfl ?_
 refine GC.skip (?_:GC _ _ _ _)
 refine AV 1 ?_;refine Ad 0 ?_;refine GL.LW 14 rfl (congrArg (Value.int .u8) (NT (by omega) (by omega))) ?_;refine GL.step rfl (EC rfl Tryz.underlying47 Fa Jd rfl rfl rfl rfl rfl rfl) (Aa λb_t15=>?_)
 refine AA 1 ?_;refine Ad 1 ?_;refine GL.FD (enc:=JE) (xs:=[G9 r.code]) (h1:=λ_=>rfl) (i:=0) rfl ?_;refine Ah Tryz.call126 [] [0,1] rfl rfl rfl (by exact PX _ [G9 r.code] _ _ r.data _ (by simp) (by omega)) ?_
 rintro _ _ _ ⟨A18,cp18,l18,k18,rfl,rfl,rfl⟩
 refine AL 5 ?_;refine AP 3 ?_;refine GC.ret (BR 2 3 [0] [] ?_)
 exact⟨_,_,l18,k18,rfl,rfl,rfl⟩
theorem I_(A:Option Addr)(b:List UInt8)(cp:Nat)(v:Int)(n:Nat)(hn:1<=n)(hn':n<=8)(hb:b.length<=10000000000000)(h0:0<=v)(hv:v.toNat<256 ^ n):Ct Tryz.prog 178 [.slice A b.length cp,.int .i64 v,.int .i64 (n:Int)] [] [D7.row Kd.u8 A b]
    (λu G Q=>∃A' cp',(b++FK n v.toNat).length<=cp'/\cp'<=9223372036854775807/\u=.slice A' (b++FK n v.toNat).length cp'/\G=[rowOf A' cp' (b++FK n v.toNat)]/\Q=[]):=by
 have h8:256 ^ n<=256 ^ 8:=Nat.pow_le_pow_right (by decide) hn'
 refine Ct.intro Tryz.func178 rfl rfl rfl (λc hc=>?_)
 refine AP 1 ?_;refine AV 2 ?_;refine AO rfl (EO (t:=3) (r:=((v.toNat:Nat):Int)) (by rw[Tryz.underlying3];simp) Tryz.underlying45 rfl (cvZ (by omega) (by omega))) ?_
 refine AA 1 ?_;refine Ah Tryz.call125 [] [0] rfl rfl rfl (by exact ND _ b _ v.toNat n hn hn' hb hv) ?_
 rintro _ _ _ ⟨A14,XA,l14,k14,rfl,rfl,rfl⟩
 refine AL 5 ?_;refine AP 2 ?_;refine GC.ret (AQ 6 [0] [] ?_)
 exact⟨_,_,l14,k14,rfl,rfl,rfl⟩
theorem TM(v:Int)(n:Nat)(hn:1<=n)(hn':n<=8)(h0:0<=v)(hv:v.toNat<256 ^ n):Ct Tryz.prog 178 [.slice none 0 0,.int .i64 v,.int .i64 (n:Int)] [] []
  (λu G Q=>∃A' cp',(FK n v.toNat).length<=cp'/\cp'<=9223372036854775807/\u=.slice A' (FK n v.toNat).length cp'/\G=[rowOf A' cp' (FK n v.toNat)]/\Q=[]) :=
 Ct.free (I_ none [] 0 v n hn hn' (by simp) h0 hv) gy
theorem Qb(n:Nat)(x:Int):Iy n [x]=FK n x.toNat:=by simp[Iy]
theorem flZ_two(n:Nat)(x y:Int):Iy n [x,y]=FK n x.toNat++FK n y.toNat:=by simp[Iy]
theorem qy(n:Nat)(x y z:Int):Iy n [x,y,z]=FK n x.toNat++FK n y.toNat++FK n z.toNat:=by simp[Iy]
theorem bJ(n:Nat)(x y z u:Int):Iy n [x,y,z,u]=FK n x.toNat++FK n y.toNat++FK n z.toNat++FK n u.toNat:=by simp[Iy]
theorem Zu(A:Option Addr)(b:List UInt8)(cp:Nat)(g:Ld)(B:Option Addr)(cq:Nat)(hg:FP g.epoch g.members=true)(hb:b.length<=1000000000000):Ct Tryz.prog 179 [.slice A b.length cp,Qj g.epoch B g.members.length cq] [] [D7.row Kd.u8 A b,D7.row kI B g.members]
    (λu G Q=>∃A' cp',(b++JB g).length<=cp'/\cp'<=9223372036854775807/\u=.slice A' (b++JB g).length cp'/\G=[rowOf A' cp' (b++JB g)]/\Q=[]):=by
 obtain⟨r1,r2,r3,r4,r5⟩:=Fp hg
 refine Ct.intro Tryz.func179 rfl rfl rfl (λc hc=>?_)
 refine AX ?_;refine GL.step rfl (Ee rfl rfl rfl) (Aa λFQ=>?_);refine AL 1 ?_;refine AB ?_;refine BF (m:=9) (is:=[0]) (js:=[0,1]) Ef rfl rfl rfl ?_;refine AZ 0 [0] [0,1] ?_
 refine AZ 1 [0] [0,1] ?_;refine BA 2 rfl [0] [0,1] (i_mem (EF (i:=0) rfl rfl Ei rfl)) ?_;refine AZ 4 [0] [0,1] ?_;refine BA 5 rfl [0] [0,1] (i_mem (EF (i:=0) rfl rfl JZ rfl)) ?_;refine AZ 6 [0] [0,1] ?_
 refine Aw [3] ?_
 refine E8.cons (i:=3) rfl rfl (EI rfl Tryz.call178 rfl (is:=[]) (js:=[0]) rfl rfl (by exact I_ _ b _ g.epoch 8 (by omega) (by omega) (by omega) (by omega) (by rw[Gi];omega))) (by rintro a w ⟨_,_,_,⟨A9,rX,l9,k9,rfl,rfl,rfl⟩,h⟩;exact h.me [1] [0,1]) (GA.ret ?_) Ag
 rintro _ _ _ ⟨A9,rX,l9,k9,rfl,rfl,rfl⟩
 refine GA.EN (i:=0) rfl ?_;refine Aw [7] ?_
 refine E8.cons (i:=7) rfl rfl (EI rfl Tryz.call178 rfl (is:=[]) (js:=[0]) rfl rfl (by exact I_ _ (b++FK 8 g.epoch.toNat) _ (g.members.length:Int) 1 (by omega) (by omega) (by simp[D_];omega) (by omega) (by rw[Gp];omega))) (by rintro a w ⟨_,_,_,⟨A13,sD,tH,k13,rfl,rfl,rfl⟩,h⟩;exact h.me [1] [1,2]) (GA.ret ?_) Ag
 rintro _ _ _ ⟨A13,sD,tH,k13,rfl,rfl,rfl⟩
 refine AZ 8 [1] [1,2] ?_
 refine BG (by kernel_rfl) (?_:GC _ _ _ _)
 refine AB ?_;refine AP 1 ?_;refine GC.block ?_;refine Bv (ks:=[3]) (is:=[1]) (js:=[0,1,2]) (fun(k:Nat) (A1:Option Addr) (c1:Nat)=>k<=g.members.length/\(b++FK 8 g.epoch.toNat++FK 1 (g.members.length:Int).toNat++Iy 1 (g.members.take k)).length<=c1/\c1<=9223372036854775807) (fun(k:Nat) (A1:Option Addr) (c1:Nat)=>[(0,.slice A1 (b++FK 8 g.epoch.toNat++FK 1 (g.members.length:Int).toNat++Iy 1 (g.members.take k)).length c1),(5,.int .i64 (k:Int))]) (fun(k:Nat) (A1:Option Addr) (c1:Nat)=>[rowOf A1 c1 (b++FK 8 g.epoch.toNat++FK 1 (g.members.length:Int).toNat++Iy 1 (g.members.take k))]) (fun(k:Nat) (A1:Option Addr) (c1:Nat)=>[]) (fun(k:Nat) (A1:Option Addr) (c1:Nat)=>g.members.length - k) (0) (_) (_) rfl rfl rfl (λa w h=>⟨⟨by omega,by simp only[Iy,List.take_zero,List.flatMap_nil,List.append_nil];exact tH,k13⟩,by simp only[Iy,List.take_zero,List.flatMap_nil,List.append_nil];exact h.Hf (is:=[0,0]) (js:=[0,1,2]) (ks:=[3]) ⟨rfl,rfl,trivial⟩ rfl rfl rfl⟩) ?_
 intro k A1 c1 hk
 try dsimp only[List.cons_append,List.nil_append] at hk ⊢
 obtain⟨hk,hc1,hc2⟩:=hk
 refine AB ?_;refine AV 2 ?_;refine Ad 1 ?_;refine AL 2 ?_;refine Af ?_ ?_
 ·intro h1;try simp only[D6] at h1
  refine GC.skip (?_:GC _ _ _ _)
  refine AB ?_;refine GC.block ?_
  have hx:=r1 _ (Ec (l:=g.members) (k:=k) (by omega))
  refine GC.region ?_;refine AA 2 ?_;refine Ad 1 ?_;refine AA 1 ?_;refine GL.step rfl (Ej (i:=2) rfl rfl rfl rfl Tryz.underlying53 GV (by omega) (EW (by omega) (by omega))) (Aa λp_x25=>Aa λr_x25=>GL.and λok_x25=>?_)
  rcases r_x25 with _
  refine GL.step rfl (Ed rfl (ES (i:=0) rfl rfl Ei rfl)) ?_;refine GL.EN (i:=0) rfl ?_;refine Ah Tryz.call178 [] [0] rfl rfl rfl (by exact I_ _ (b++FK 8 g.epoch.toNat++FK 1 (g.members.length:Int).toNat++Iy 1 (g.members.take k)) _ (gt g.members (k:Int)) 1 (by omega) (by omega) (by simp only[List.length_append,D_,EL,List.length_take];omega) (by omega) (by rw[Gp];omega)) ?_
  rintro _ _ _ ⟨A27,jF,mQ,k27,rfl,rfl,rfl⟩
  refine AA 1 ?_
  refine Ac (?_:GC _ _ _ _)
  refine GC.region ?_;refine AA 1 ?_;refine AO rfl (EU rfl rfl (Fh (by omega) (by omega))) ?_;refine AA 1 ?_;refine Ac ?_
  exact λa w h=>⟨(k+1),(A27),(jF),(by omega),⟨by omega,by rw[OX (by omega),<-List.append_assoc];exact mQ,k27⟩,by rw[OX (by omega),<-List.append_assoc];exact h.ct [0,0] [2,3,4]⟩
 intro h1;try simp only[D6] at h1
 refine GC.exit (?_:GC _ _ _ _)
 refine AP 2 ?_;refine GC.ret (AQ 4 [0] [] ?_)
 obtain rfl:k=g.members.length:=by omega
 have e:b++FK 8 g.epoch.toNat++FK 1 (g.members.length:Int).toNat++Iy 1 g.members=b++JB g:=by rw[JB,Qb,Qb];simp only[List.append_assoc]
 rw[List.take_length,e] at hc1
 rw[List.take_length,e]
 exact⟨_,_,hc1,hc2,rfl,rfl,rfl⟩
theorem qF(g:Ld)(B:Option Addr)(cq:Nat)(hg:FP g.epoch g.members=true):Ct Tryz.prog 179 [.slice none 0 0,Qj g.epoch B g.members.length cq] [] [D7.row kI B g.members]
  (λu G Q=>∃A' cp',(JB g).length<=cp'/\cp'<=9223372036854775807/\u=.slice A' (JB g).length cp'/\G=[rowOf A' cp' (JB g)]/\Q=[]) :=
 Ct.free (Zu none [] 0 g B cq hg (by simp)) gy
theorem rent_ok(e:Entry)(h:Eo e)(A:Option Addr)(cp:Nat)(B:Option Addr)(cq:Nat)(C:Option Addr)(cr:Nat)(hl:Lp e):Ct Tryz.prog 172 [Wj e A cp B cq C cr] [] (Wn e A B C) (λu G Q=>u=.int .i64 0/\G=[]/\Q=[]):=by
 have:=Ut e A cp B cq C cr hl
 rw[show Oy e=0 from if_pos h] at this
 exact this
theorem fE(e:Entry)(A:Option Addr)(cp:Nat)(B:Option Addr)(cq:Nat)(C:Option Addr)(cr:Nat)(he_:Eo e)(hl:Lp e):Ct Tryz.prog 134 [Wj e A cp B cq C cr] [] (Wn e A B C)
    (λu G Q=>∃A' cp',(He e).length<=cp'/\cp'<=9223372036854775807/\u=.tuple #[.slice A' (He e).length cp',.int .i64 0]/\G=[rowOf A' cp' (He e)]/\Q=[]):=by
 obtain⟨r1,r2,r3,r4,r5,r6,r7⟩:=U3 he_
 refine Ct.intro Tryz.func134 rfl rfl rfl (λc hc=>?_)
 refine AX ?_;refine GL.step rfl (Ee rfl rfl rfl) (Aa λIJ=>?_);refine AL 2 ?_;refine AB ?_;refine AX ?_;refine Az 0 12 ?_;refine Ah Tryz.call172 [] [0,1,2] rfl rfl rfl (by exact rent_ok e he_ _ _ _ _ _ _ hl) ?_
 rintro _ _ _ ⟨rfl,rfl,rfl⟩
 refine AL 1 ?_;refine AY rfl ?_
 refine GC.skip (?_:GC _ _ _ _)
 refine AV 1 ?_;refine Ad 0 ?_;refine GL.LW 11 rfl (congrArg (Value.int .u8) (NT (by omega) (by omega))) ?_;refine GL.step rfl (EC rfl Tryz.underlying47 Fa Jd rfl rfl rfl rfl rfl rfl) (Aa λXE=>?_)
 refine AL 1 ?_;refine AB ?_;refine GC.FD (enc:=JE) (xs:=[G9 e.kind]) (h1:=λ_=>rfl) (i:=0) rfl ?_;refine BF (m:=14) (is:=[0]) (js:=[0,1,2,3]) Ef rfl rfl rfl ?_;refine AZ 0 [0] [0,1,2,3] ?_
 refine AZ 1 [0] [0,1,2,3] ?_;refine BA 2 rfl [0] [0,1,2,3] (i_mem (EF (i:=0) rfl rfl Ei rfl)) ?_;refine AZ 4 [0] [0,1,2,3] ?_;refine BA 5 rfl [0] [0,1,2,3] (i_mem (EF (i:=0) rfl rfl Ei rfl)) ?_
 refine AZ 7 [0] [0,1,2,3] ?_;refine BA 8 rfl [0] [0,1,2,3] (i_mem (EF (i:=0) rfl rfl Ei rfl)) ?_;refine AZ 10 [0] [0,1,2,3] ?_;refine BA 11 rfl [0] [0,1,2,3] (i_mem (EF (i:=0) rfl rfl Ei rfl)) ?_
 refine Aw [3] ?_
 refine E8.cons (i:=3) rfl rfl (EI rfl Tryz.call178 rfl (is:=[]) (js:=[0]) rfl rfl (by exact I_ _ [G9 e.kind] _ e.num 8 (by omega) (by omega) (by simp) (by omega) (by rw[Gi];omega))) (by rintro a w ⟨_,_,_,⟨A16,r_,l16,k16,rfl,rfl,rfl⟩,h⟩;exact h.me [1] [0,1,2,3]) (GA.ret ?_) Ag
 rintro _ _ _ ⟨A16,r_,l16,k16,rfl,rfl,rfl⟩
 refine GA.EN (i:=0) rfl ?_;refine Aw [6] ?_
 refine E8.cons (i:=6) rfl rfl (EI rfl Tryz.call178 rfl (is:=[]) (js:=[0]) rfl rfl (by exact I_ _ ([G9 e.kind]++FK 8 e.num.toNat) _ e.view 8 (by omega) (by omega) (by simp[D_]) (by omega) (by rw[Gi];omega))) (by rintro a w ⟨_,_,_,⟨A19,ru,l19,k19,rfl,rfl,rfl⟩,h⟩;exact h.me [1] [1,2,3,4]) (GA.ret ?_) Ag
 rintro _ _ _ ⟨A19,ru,l19,k19,rfl,rfl,rfl⟩
 refine GA.EN (i:=0) rfl ?_;refine Aw [9] ?_
 refine E8.cons (i:=9) rfl rfl (EI rfl Tryz.call178 rfl (is:=[]) (js:=[0]) rfl rfl (by exact I_ _ ([G9 e.kind]++FK 8 e.num.toNat++FK 8 e.view.toNat) _ e.client 8 (by omega) (by omega) (by simp[D_]) (by omega) (by rw[Gi];omega))) (by rintro a w ⟨_,_,_,⟨U7,cp22,XQ,k22,rfl,rfl,rfl⟩,h⟩;exact h.me [1] [2,3,4,5]) (GA.ret ?_) Ag
 rintro _ _ _ ⟨U7,cp22,XQ,k22,rfl,rfl,rfl⟩
 refine GA.EN (i:=0) rfl ?_;refine Aw [12] ?_
 refine E8.cons (i:=12) rfl rfl (EI rfl Tryz.call178 rfl (is:=[]) (js:=[0]) rfl rfl (by exact I_ _ ([G9 e.kind]++FK 8 e.num.toNat++FK 8 e.view.toNat++FK 8 e.client.toNat) _ e.serial 8 (by omega) (by omega) (by simp[D_]) (by omega) (by rw[Gi];omega))) (by rintro a w ⟨_,_,_,⟨A25,cZ,l25,k25,rfl,rfl,rfl⟩,h⟩;exact h.me [1] [3,4,5,6]) (GA.ret ?_) Ag
 rintro _ _ _ ⟨A25,cZ,l25,k25,rfl,rfl,rfl⟩
 refine AZ 13 [1] [3,4,5,6] ?_
 refine BG (by kernel_rfl) (?_:GC _ _ _ _)
 refine AB ?_;refine AV 1 ?_;refine Ad 1 ?_;refine AL 1 ?_;refine Af ?_ ?_
 ·intro h1;try simp only[D6] at h1
  refine AV 2 ?_;refine Az 1 2 ?_;refine GL.EN (i:=0) rfl ?_;refine Ah Tryz.call179 [] [0,7] rfl rfl rfl (by exact Zu _ ([G9 e.kind]++FK 8 e.num.toNat++FK 8 e.view.toNat++FK 8 e.client.toNat++FK 8 e.serial.toNat) _ e.grp _ _ (r6 (by assumption)) (by simp[D_])) ?_
  rintro _ _ _ ⟨A32,cp32,l32,k32,rfl,rfl,rfl⟩
  refine AL 2 ?_;refine GC.ret (BR 2 3 [0] [] ?_)
  have eb:He e=[G9 e.kind]++FK 8 e.num.toNat++FK 8 e.view.toNat++FK 8 e.client.toNat++FK 8 e.serial.toNat++JB e.grp:=by rw[He,if_pos (by assumption),bJ];simp only[List.append_assoc]
  rw[eb]
  exact⟨_,_,l32,k32,rfl,rfl,rfl⟩
 intro h1;try simp only[D6] at h1
 refine GC.skip (?_:GC _ _ _ _)
 refine AV 1 ?_;refine Az 1 5 ?_;refine Ah Tryz.call130 [] [4,5] rfl rfl rfl (by exact Xo e.op _ _ _ _ (r7 (by assumption))) ?_
 rintro _ _ _ ⟨A36,cO,l36,k36,rfl,rfl,rfl⟩
 refine AL 5 ?_;refine AV 2 ?_;refine GL.EN (i:=0) rfl ?_;refine GL.step rfl (Ep (i:=0) (k:=0) rfl Fv rfl rfl rfl rfl (by have:=IB (r7 (by assumption));simp[D_];omega) (λ_=>rfl)) (Aa λv41=>?_)
 refine GL.rowIs (i:=0) (m':=(([G9 e.kind]++FK 8 e.num.toNat++FK 8 e.view.toNat++FK 8 e.client.toNat++FK 8 e.serial.toNat++Ri e.op)).length) (cs':=(([G9 e.kind]++FK 8 e.num.toNat++FK 8 e.view.toNat++FK 8 e.client.toNat++FK 8 e.serial.toNat++Ri e.op)).map JE) rfl (by first|(simp only[List.length_append,List.length_cons,List.length_nil,List.append_assoc];done)|(simp only[List.length_append,List.length_cons,List.length_nil,List.append_assoc];omega)|(simp;done)|(simp;omega)|rfl) (by first|(simp only[List.map_append,List.map_cons,List.map_nil,List.append_assoc];done)|(simp;done)|rfl) rfl ?_
 refine GL.shape (i:=0) rfl (λA_r725 c_r725 e_r725 l_r725 k_r725=>?_)
 subst e_r725
 refine AL 2 ?_;refine GC.ret (BR 2 3 [0] [] ?_)
 have eb:He e=[G9 e.kind]++FK 8 e.num.toNat++FK 8 e.view.toNat++FK 8 e.client.toNat++FK 8 e.serial.toNat++Ri e.op:=by rw[He,if_neg (by assumption),bJ];simp only[List.append_assoc]
 rw[eb]
 exact⟨_,_,l_r725,k_r725,rfl,rfl,rfl⟩
theorem Zh(A:Option Addr)(b:List UInt8)(cp:Nat)(hb:b.length<=10000000000000):Ct Tryz.prog 127 [.slice A b.length cp] [] [D7.row Kd.u8 A b]
    (λu G Q=>∃A' cp',(Gy b).length<=cp'/\cp'<=9223372036854775807/\u=.slice A' (Gy b).length cp'/\G=[rowOf A' cp' (Gy b)]/\Q=[]):=by
 refine Ct.intro Tryz.func127 rfl rfl rfl (λc hc=>?_)
 refine AP 1 ?_;refine AV 1 ?_;refine Ah Tryz.call177 [] [0] rfl rfl rfl (by exact of_ct _ b _ (by omega)) ?_
 rintro _ _ _ ⟨rfl,rfl,rfl⟩
 refine AL 1 ?_;refine AX ?_;refine GL.step rfl (EC rfl Tryz.underlying47 Fa Jd rfl rfl rfl rfl rfl rfl) (Aa λKr=>?_);refine AA 1 ?_;refine Ci (i:=0) (m:=0) (sz:=1) rfl rfl (by decide) rfl ?_
 refine GL.step rfl (Ep (i:=0) (k:=0) rfl Fv rfl rfl rfl rfl (by simp;omega) (λ_=>rfl)) (Aa λv8=>?_);refine AA 1 ?_;refine AO rfl (EO (t:=27) (by rw[Tryz.underlying27];simp) Tryz.underlying5 rfl (Qk _)) ?_
 refine AA 1 ?_;refine AO rfl (Pj rfl rfl (by decide) (shr1 _)) ?_;refine AO rfl (EO (t:=27) (by rw[Tryz.underlying27];simp) Tryz.underlying5 rfl (Qk _)) ?_
 refine AA 1 ?_;refine AO rfl (Pj rfl rfl (by decide) (shr2 _)) ?_;refine AO rfl (EO (t:=27) (by rw[Tryz.underlying27];simp) Tryz.underlying5 rfl (Qk _)) ?_
 refine AA 1 ?_;refine AO rfl (Pj rfl rfl (by decide) (shr3 _)) ?_;refine AO rfl (EO (t:=27) (by rw[Tryz.underlying27];simp) Tryz.underlying5 rfl (Qk _)) ?_
 refine GL.step rfl (EC rfl Tryz.underlying47 Fa Jd rfl rfl rfl rfl rfl rfl) (Aa λb_t20=>?_);refine GL.step rfl (Eh (i:=1) (k:=0) rfl Fv rfl rfl rfl rfl rfl (EX rfl) (by simp;omega) (λ_=>rfl)) (Aa λv21=>?_)
 refine GL.rowIs (i:=1) (m':=((Gy b)).length) (cs':=((Gy b)).map JE) rfl (by first|(simp only[List.length_append,List.length_cons,List.length_nil,List.append_assoc];done)|(simp only[List.length_append,List.length_cons,List.length_nil,List.append_assoc];omega)|(simp[aT,Gy];done)|(simp[aT,Gy];omega)|rfl) (by first|(simp only[List.map_append,List.map_cons,List.map_nil,List.append_assoc];done)|(simp[aT,Gy];done)|rfl) rfl ?_
 refine GL.shape (i:=1) rfl (λA_t6 c_t6 e_t6 l_t6 k_t6=>?_)
 subst e_t6
 refine AL 1 ?_;refine GC.ret (AQ 2 [1] [] ?_)
 exact⟨_,_,l_t6,k_t6,rfl,rfl,rfl⟩
theorem pJ(A:Option Addr)(b:List UInt8)(cp:Nat)(hb:b.length<=16777216):Ct Tryz.prog 80 [.agg #[.int .u8 4,.int .u64 0,.slice A b.length cp]] [] [D7.row Kd.u8 A b]
    (λu G Q=>∃A' cp',(HY b).length<=cp'/\cp'<=9223372036854775807/\u=.tuple #[.slice A' (HY b).length cp',.int .i64 0]/\G=[rowOf A' cp' (HY b)]/\Q=[]):=by
 refine Ct.intro Tryz.func80 rfl rfl rfl (λc hc=>?_)
 refine AX ?_;refine GL.step rfl (Ee rfl rfl rfl) (Aa λIJ=>?_);refine AL 2 ?_;refine AB ?_;refine AV 1 ?_;refine Ad 0 ?_;refine AL 2 ?_;refine Af ?_ ?_
 ·intro h1;try simp only[D6] at h1
  exfalso;omega
 intro h1;try simp only[D6] at h1
 refine GC.skip (?_:GC _ _ _ _)
 refine AV 1 ?_;refine Ad 0 ?_;refine GL.step rfl (EC rfl Tryz.underlying47 Fa Jd rfl rfl rfl rfl rfl rfl) (Aa λn_=>?_);refine GL.FD (enc:=JE) (xs:=[(80:UInt8),76,4,0]) (h1:=λ_=>rfl) (i:=0) rfl ?_
 refine AL 1 ?_;refine AV 2 ?_;refine Ad 0 ?_;refine Ah Tryz.call125 [] [0] rfl rfl rfl (by exact ND _ [(80:UInt8),76,4,0] _ 0 8 (by omega) (by omega) (by simp) (by decide)) ?_
 rintro _ _ _ ⟨A16,r_,l16,k16,rfl,rfl,rfl⟩
 refine AL 4 ?_;refine AV 2 ?_;refine Ad 1 ?_;refine GL.EN (i:=0) rfl ?_;refine Ah Tryz.call126 [] [0,2] rfl rfl rfl (by exact PX _ ([(80:UInt8),76,4,0]++FK 8 0) _ _ b _ (by simp[D_]) hb) ?_
 rintro _ _ _ ⟨A23,cp23,l23,k23,rfl,rfl,rfl⟩
 refine AL 4 ?_;refine AV 1 ?_;refine GL.EN (i:=0) rfl ?_;refine Ah Tryz.call127 [] [0] rfl rfl rfl (by exact Zh _ (headB b) _ (by rw[Qa];omega)) ?_
 rintro _ _ _ ⟨A27,jF,mQ,k27,rfl,rfl,rfl⟩
 refine AL 2 ?_;refine GC.ret (BR 2 3 [0] [] ?_)
 exact⟨_,_,mQ,k27,rfl,rfl,rfl⟩
theorem Ze(A:Option Addr)(n cp:Nat)(hb:16777216<n):Ct Tryz.prog 80 [.agg #[.int .u8 4,.int .u64 0,.slice A n cp]] [] [] (λu G Q=>u=.tuple #[.slice none 0 0,.int .i64 2]/\G=[]/\Q=[]):=by
 refine Ct.intro Tryz.func80 rfl rfl rfl (λc hc=>?_)
 refine AX ?_;refine GL.step rfl (Ee rfl rfl rfl) (Aa λIJ=>?_);refine AL 2 ?_;refine AB ?_;refine AV 1 ?_;refine Ad 0 ?_;refine AL 2 ?_;refine Af ?_ ?_
 ·intro h1;try simp only[D6] at h1
  refine AP 2 ?_;refine GC.ret (BR 2 3 [] [] ?_)
  exact⟨rfl,rfl,rfl⟩
 intro h1;try simp only[D6] at h1
 exfalso;omega
theorem Zb{b:List UInt8}{l h:Nat}(hl:l<h)(hh:h<=b.length):seg b l h=gt b (l:Int)::seg b (l+1) h:=by
 apply List.ext_getElem?
 intro i
 cases i with
 |zero=>simp[seg,gt,List.getElem?_take,hl,List.getD_eq_getElem?_getD,show l<b.length by omega]
 |succ i=>simp only[seg,List.getElem?_cons_succ,List.getElem?_drop];rw[show l+(i+1)=l+1+i by omega]
theorem oU{b:List UInt8}{l h:Nat}(hl:l<h)(hh:h<=b.length):GH (seg b l h)=GH (seg b (l+1) h) * 256+(gt b (l:Int)).toNat:=by
 rw[Zb hl hh,GH];omega
theorem Np(A:Option Addr)(b:List UInt8)(cp at_ n:Nat)(hn:1<=n)(hn':n<=8)(hb:b.length<=cp)(hb':b.length<=200000000000000)(hat:at_<=b.length):Ct Tryz.prog 135 [.slice A b.length cp,.int .i64 (at_:Int),.int .i64 (n:Int)] [] [D7.row Kd.u8 A b]
    (λu G Q=>u=.tuple #[.int .u64 ((JL b at_ n:Nat):Int),.int .i64 ((Uj b at_ n:Nat):Int),.int .i64 (WT b at_ n)]/\G=[]/\Q=[]):=by
 by_cases hq:at_+n<=b.length
 ·have p8:(256:Nat) ^ 8=18446744073709551616:=Gi
  have hm:∀k:Nat,k<n->GH (seg b (at_+(n - k)) (at_+n))<72057594037927936:=λk hk=>by
    have h1_:GH (seg b (at_+(n - k)) (at_+n))<256 ^ k:=Jg hq (by omega)
    have h2_:256 ^ k<=256 ^ 7:=Nat.pow_le_pow_right (by decide) (by omega)
    have h3_:(256:Nat) ^ 7=72057594037927936:=by decide
    omega
  rw[JL,Uj,WT,if_pos hq,if_pos hq,if_pos hq]
  refine Ct.intro Tryz.func135 rfl rfl rfl (λc hc=>?_)
  refine AP 3 ?_;refine AB ?_;refine AV 3 ?_;refine Ak 13 ?_ ?_
  ·intro h1;try simp only[D6] at h1
   exfalso;omega
  intro h1;try simp only[D6] at h1
  refine AL 3 ?_;refine Af ?_ ?_
  ·intro h2;try simp only[D6] at h2
   exfalso;omega
  intro h2;try simp only[D6] at h2
  refine GC.skip (?_:GC _ _ _ _)
  refine AB ?_;refine AV 3 ?_;refine Ak 19 ?_ ?_
  ·intro h3;try simp only[D6] at h3
   exfalso;omega
  intro h3;try simp only[D6] at h3
  refine AL 5 ?_;refine Af ?_ ?_
  ·intro h4;try simp only[D6] at h4
   exfalso;omega
  intro h4;try simp only[D6] at h4
  refine GC.skip (?_:GC _ _ _ _)
  refine AB ?_;refine AV 3 ?_;refine AO rfl (Jv rfl rfl (Fh (by omega) (by omega))) ?_;refine AL 2 ?_;refine Af ?_ ?_
  ·intro h5;try simp only[D6] at h5
   exfalso;omega
  intro h5;try simp only[D6] at h5
  refine GC.skip (?_:GC _ _ _ _)
  refine AP 1 ?_;refine AB ?_;refine AV 1 ?_;refine AO rfl (Jv rfl rfl (Fh (by omega) (by omega))) ?_;refine AL 1 ?_;refine GC.block ?_;refine Bd (ks:=[0,1,2]) (is:=[]) (js:=[0]) (fun(k:Nat)=>k<=n) (fun(k:Nat)=>[(9,.int .u64 ((GH (seg b (at_+(n - k)) (at_+n)):Nat):Int)),(10,.int .i64 ((n:Int) - 1 - (k:Int)))]) (fun(k:Nat)=>[]) (fun(k:Nat)=>[]) (fun(k:Nat)=>n - k) (0) rfl rfl rfl (λa w h=>⟨by omega,by rw[show at_+(n - 0)=at_+n by omega,show seg b (at_+n) (at_+n)=[] by simp[seg],show(n:Int) - 1 - ((0:Nat):Int)=(n:Int) - 1 by omega];exact h.Hf (is:=[]) (js:=[0]) (ks:=[0,1,2]) ⟨rfl,rfl,trivial⟩ rfl rfl rfl⟩) ?_
  intro k hk
  try dsimp only[List.cons_append,List.nil_append] at hk ⊢
  refine AB ?_;refine AP 2 ?_;refine Af ?_ ?_
  ·intro h6;try simp only[D6] at h6
   refine GC.skip (?_:GC _ _ _ _)
   refine AB ?_;refine GC.block ?_;refine GC.region ?_;refine AA 1 ?_;refine AO rfl (Vr rfl rfl (bn (by omega) (by have:=hm k (by omega);omega))) ?_
   refine AA 3 ?_;refine AO rfl (EU rfl rfl (Fh (by omega) (by omega))) ?_;refine GL.LW 42 rfl (show Value.int .i64 _=.int .i64 ((at_+(n - k - 1):Nat):Int) from congrArg (Value.int .i64) (by omega)) ?_
   refine GL.step rfl (Ej (i:=0) rfl rfl rfl rfl Tryz.underlying47 Fa (by omega) (EW (by omega) (by omega))) (Aa λp_x43=>Aa λr_x43=>GL.and λok_x43=>?_)
   rcases r_x43 with _
   refine GL.step rfl (Ed rfl (ES (i:=0) rfl rfl Oa rfl)) ?_;refine AO rfl (EO (t:=5) (r:=(((gt b ((at_+(n - k - 1):Nat):Int)).toNat:Nat):Int)) (by rw[Tryz.underlying5];simp) Tryz.underlying45 rfl (bn (by omega) (by have:=(gt b ((at_+(n - k - 1):Nat):Int)).toNat_lt;omega))) ?_
   refine AO rfl (EU rfl rfl (bn (by omega) (by have:=hm k (by omega);have:=(gt b ((at_+(n - k - 1):Nat):Int)).toNat_lt;omega))) ?_;refine AA 1 ?_
   refine Ac (?_:GC _ _ _ _)
   refine GC.region ?_;refine AA 1 ?_;refine AO rfl (Jv rfl rfl (Fh (by omega) (by omega))) ?_;refine AA 1 ?_;refine Ac ?_
   exact λa w h=>⟨(k+1),(by omega),by omega,by rw[oU (l:=at_+(n - (k+1))) (by omega) hq,show at_+(n - (k+1))+1=at_+(n - k) by omega,show at_+(n - (k+1))=at_+(n - k - 1) by omega,show(n:Int) - 1 - ((k+1:Nat):Int)=(n:Int) - 1 - (k:Int) - 1 by omega];exact h.ct [] [1]⟩
  intro h6;try simp only[D6] at h6
  refine GC.exit (?_:GC _ _ _ _)
  refine AV 3 ?_;refine AO rfl (EU rfl rfl (Fh (by omega) (by omega))) ?_;refine AL 3 ?_;refine GC.ret (DF 6 7 8 [] [] ?_)
  obtain rfl:k=n:=by omega
  rw[show at_+(k - k)=at_ by omega]
  exact⟨rfl,rfl,rfl⟩
 rw[JL,Uj,WT,if_neg hq,if_neg hq,if_neg hq]
 refine Ct.intro Tryz.func135 rfl rfl rfl (λc hc=>?_)
 refine AP 3 ?_;refine AB ?_;refine AV 3 ?_;refine Ak 13 ?_ ?_
 ·intro h1;try simp only[D6] at h1
  exfalso;omega
 intro h1;try simp only[D6] at h1
 refine AL 3 ?_;refine Af ?_ ?_
 ·intro h2;try simp only[D6] at h2
  exfalso;omega
 intro h2;try simp only[D6] at h2
 refine GC.skip (?_:GC _ _ _ _)
 refine AB ?_;refine AV 3 ?_;refine Ak 19 ?_ ?_
 ·intro h3;try simp only[D6] at h3
  exfalso;omega
 intro h3;try simp only[D6] at h3
 refine AL 5 ?_;refine Af ?_ ?_
 ·intro h4;try simp only[D6] at h4
  exfalso;omega
 intro h4;try simp only[D6] at h4
 refine GC.skip (?_:GC _ _ _ _)
 refine AB ?_;refine AV 3 ?_;refine AO rfl (Jv rfl rfl (Fh (by omega) (by omega))) ?_;refine AL 2 ?_;refine Af ?_ ?_
 ·intro h5;try simp only[D6] at h5
  refine AP 3 ?_;refine GC.ret (DF 6 7 8 [] [] ?_)
  exact⟨rfl,rfl,rfl⟩
 intro h5;try simp only[D6] at h5
 exfalso;omega
theorem Us(A:Option Addr)(b:List UInt8)(cp at_:Nat)(hb:b.length<=cp)(Gl:cp<=9223372036854775807)(hb':b.length<=10000000000000)(hat:at_<=b.length):Ct Tryz.prog 180 [.slice A b.length cp,.int .i64 (at_:Int)] [] [D7.row Kd.u8 A b]
    (λu G Q=>∃x n e A' c',UZ b at_=(x,n,e)/\x.length<=c'/\c'<=9223372036854775807/\u=.tuple #[.slice A' x.length c',.int .i64 ((n:Nat):Int),.int .i64 e]/\G=[]/\Q=[D7.row Kd.u8 A' x]):=by
 by_cases hq4:at_+4<=b.length
 ·have hv:=Jg (b:=b) (l:=at_) (h:=at_+4) (n:=4) hq4 (by omega)
  rw[Gn] at hv
  have ee:((at_+4:Nat):Int)+((GH (seg b at_ (at_+4)):Nat):Int)=((at_+4+GH (seg b at_ (at_+4)):Nat):Int):=by omega
  have hsl:at_+4+GH (seg b at_ (at_+4))<=b.length->(seg b (at_+4) (at_+4+GH (seg b at_ (at_+4)))).length=GH (seg b at_ (at_+4)):=λh=>by rw[seg_length h];omega
  have hg:=Np A b cp at_ 4 (by omega) (by omega) hb (by omega) hat
  rw[JL,Uj,WT,if_pos hq4,if_pos hq4,if_pos hq4] at hg
  refine Ct.intro Tryz.func180 rfl rfl rfl (λc hc=>?_)
  refine AP 3 ?_;refine AV 2 ?_;refine Ah Tryz.call135 [] [0] rfl rfl rfl (by exact hg) ?_
  rintro _ _ _ ⟨rfl,rfl,rfl⟩
  refine AL 7 ?_;refine AB ?_;refine AP 2 ?_;refine AY rfl ?_
  refine GC.skip (?_:GC _ _ _ _)
  refine AB ?_;refine AP 2 ?_;refine Af ?_ ?_
  ·intro h1;try simp only[D6] at h1
   refine AP 3 ?_;refine GC.know (q:=D7.row Kd.u8 none []) (λ_ _ _=>.inl rfl) ?_;refine GC.ret (DF 4 5 6 [] [0] ?_)
   exact zq65_
  intro h1;try simp only[D6] at h1
  refine GC.skip (?_:GC _ _ _ _)
  refine AB ?_;refine AV 3 ?_;refine AO rfl (Jv rfl rfl (Fh (by omega) (by omega))) ?_;refine AA 1 ?_;refine AO rfl (EO (t:=45) (r:=((GH (seg b at_ (at_+4)):Nat):Int)) (by rw[Tryz.underlying45];simp) Tryz.underlying3 rfl (W9 (by omega) (by omega))) ?_
  refine AL 1 ?_;refine Af ?_ ?_
  ·intro h2;try simp only[D6] at h2
   refine AP 3 ?_;refine GC.know (q:=D7.row Kd.u8 none []) (λ_ _ _=>.inl rfl) ?_;refine GC.ret (DF 4 5 6 [] [0] ?_)
   exact zq66_
  intro h2;try simp only[D6] at h2
  refine GC.skip (?_:GC _ _ _ _)
  refine AX ?_;refine GL.step rfl (EC rfl Tryz.underlying47 Fa Jd rfl rfl rfl rfl rfl rfl) (Aa λb_t29=>?_);refine AA 4 ?_;refine AO rfl (EO (t:=45) (r:=((GH (seg b at_ (at_+4)):Nat):Int)) (by rw[Tryz.underlying45];simp) Tryz.underlying3 rfl (W9 (by omega) (by omega))) ?_
  refine AO rfl (EU rfl rfl (Fh (by omega) (by omega))) ?_;refine GL.step rfl (PW (j:=0) rfl rfl rfl rfl rfl Tryz.underlying47 Fa (by omega) (by omega) (by omega) (by omega)) ?_
  rw[ee,show(((at_+4:Nat):Int)).toNat=at_+4 from rfl,show(((at_+4+GH (seg b at_ (at_+4)):Nat):Int)).toNat=at_+4+GH (seg b at_ (at_+4)) from rfl]
  refine Ci (i:=0) (m:=0) (sz:=1) rfl rfl (by decide) rfl ?_;refine GL.step rfl (Ep (i:=0) (k:=0) rfl Fv rfl rfl rfl rfl (by simp;omega) (λ_=>rfl)) (Aa λv37=>?_)
  refine GL.rowIs (i:=0) (m':=((seg b (at_+4) (at_+4+GH (seg b at_ (at_+4))))).length) (cs':=((seg b (at_+4) (at_+4+GH (seg b at_ (at_+4))))).map JE) rfl (by first|(simp only[List.length_append,List.length_cons,List.length_nil,List.append_assoc];done)|(simp only[List.length_append,List.length_cons,List.length_nil,List.append_assoc];omega)|(simp;done)|(simp;omega)|rfl) (by first|(simp only[List.map_append,List.map_cons,List.map_nil,List.append_assoc];done)|(simp;done)|rfl) rfl ?_
  refine GL.shape (i:=0) rfl (λA_t29 c_t29 e_t29 l_t29 k_t29=>?_)
  subst e_t29
  refine GL.EN (i:=0) rfl ?_;refine AA 2 ?_;refine AO rfl (EO (t:=45) (r:=((GH (seg b at_ (at_+4)):Nat):Int)) (by rw[Tryz.underlying45];simp) Tryz.underlying3 rfl (W9 (by omega) (by omega))) ?_
  refine AO rfl (EU rfl rfl (Fh (by omega) (by omega))) ?_;refine AL 3 ?_;refine GC.ret (DF 4 5 6 [] [0] ?_)
  exact⟨_,_,0,_,_,by rw[UZ,if_pos hq4,if_pos (by omega),if_pos (by omega)],l_t29,k_t29,rfl,rfl,rfl⟩
 have hg:=Np A b cp at_ 4 (by omega) (by omega) hb (by omega) hat
 rw[JL,Uj,WT,if_neg hq4,if_neg hq4,if_neg hq4] at hg
 refine Ct.intro Tryz.func180 rfl rfl rfl (λc hc=>?_)
 refine AP 3 ?_;refine AV 2 ?_;refine Ah Tryz.call135 [] [0] rfl rfl rfl (by exact hg) ?_
 rintro _ _ _ ⟨rfl,rfl,rfl⟩
 refine AL 7 ?_;refine AB ?_;refine AP 2 ?_;refine AU rfl ?_;refine AP 4 ?_;refine GC.know (q:=D7.row Kd.u8 none []) (λ_ _ _=>.inl rfl) ?_;refine GC.ret (DF 4 5 6 [] [0] ?_)
 exact zq67_
theorem Rk{b:List UInt8}{t n v u:Nat}{k:Int}(h:KD b t k n=(v,u,0)):k=0/\t+n<=b.length/\v=GH (seg b t (t+n))/\u=t+n:=by
 unfold KD at h
 split at h
 ·split at h
  ·obtain⟨h1,h2,_⟩:=PG h
   exact⟨by assumption,by assumption,h1.symm,h2.symm⟩
  ·have:=(PG h).2.2;omega
 ·have:=(PG h).2.2;omega
theorem YH{b:List UInt8}{t u:Nat}{k:Int}{x:List UInt8}(h:UY b t k=(x,u,0)):k=0/\UZ b t=(x,u,0):=by
 unfold UY at h
 split at h
 ·split at h
  ·exact⟨by assumption,h⟩
  ·have:=(PG h).2.2
   split at this<;>omega
 ·have:=(PG h).2.2;omega
theorem val1{b:List UInt8}{t:Nat}(h:t+1<=b.length):GH (seg b t (t+1))=(gt b (t:Int)).toNat:=by
 rw[Zb (by omega) h,show seg b (t+1) (t+1)=[] by simp[seg],GH,GH];omega
theorem Qd{b:List UInt8}{o:LM}{u:Nat}(h:JM b=some (o,u)):9<=b.length/\∃t,UZ b 9=(o.data,t,0)/\UZ b t=(o.old,u,0)/\o.kind=((gt b 0).toNat:Int)/\o.at_=((JL b 1 4:Nat):Int)/\o.n=((JL b 5 4:Nat):Int)/\SG o.kind o.at_ o.n o.data.length o.old.length=0:=by
 unfold JM at h
 split at h
 ·rename_i hh
  obtain⟨h0,hf⟩:=hh
  obtain⟨ho,hu⟩:=Prod.mk.inj (Option.some.inj h)
  cases e1:KD b 0 0 1 with|mk v1 r1=>cases r1 with|mk t1 k1 =>
  cases e2:KD b t1 k1 4 with|mk v2 r2=>cases r2 with|mk t2 k2 =>
  cases e3:KD b t2 k2 4 with|mk v3 r3=>cases r3 with|mk t3 k3 =>
  cases e4:UY b t3 k3 with|mk x4 r4=>cases r4 with|mk t4 k4 =>
  cases e5:UY b t4 k4 with|mk x5 r5=>cases r5 with|mk t5 k5 =>
  rw[LK e1 e2 e3 e4 e5] at h0 hf ho hu
  dsimp only at h0 hf ho hu
  subst h0
  obtain⟨rfl,f5⟩:=YH e5
  obtain⟨rfl,f4⟩:=YH e4
  obtain⟨rfl,l3,rfl,rfl⟩:=Rk e3
  obtain⟨rfl,l2,rfl,rfl⟩:=Rk e2
  obtain⟨_,l1,rfl,rfl⟩:=Rk e1
  subst ho hu
  refine⟨by omega,t4,f4,f5,?_,?_,?_,hf⟩
  ·dsimp only;rw[val1 (t:=0) l1];rfl
  ·dsimp only;rw[JL,if_pos (by omega)]
  ·dsimp only;rw[JL,if_pos (by omega)]
 ·cases h
theorem decOp_mk{b x y:List UInt8}{t u:Nat}(hl:9<=b.length)(h1:UZ b 9=(x,t,0))(h2:UZ b t=(y,u,0))(hf:SG ((gt b 0).toNat:Int) ((JL b 1 4:Nat):Int) ((JL b 5 4:Nat):Int) x.length y.length=0):JM b=some (⟨((gt b 0).toNat:Int),((JL b 1 4:Nat):Int),((JL b 5 4:Nat):Int),x,y⟩,u):=by
 have e1:KD b 0 0 1=((gt b 0).toNat,1,0):=by rw[KD,if_pos rfl,if_pos (by omega),val1 (t:=0) (by omega)];rfl
 have e2:KD b 1 0 4=(JL b 1 4,5,0):=by rw[KD,if_pos rfl,if_pos (by omega),JL,if_pos (by omega)]
 have e3:KD b 5 0 4=(JL b 5 4,9,0):=by rw[KD,if_pos rfl,if_pos (by omega),JL,if_pos (by omega)]
 have e4:UY b 9 0=(x,t,0):=by rw[UY,if_pos rfl,h1,if_pos rfl]
 have e5:UY b t 0=(y,u,0):=by rw[UY,if_pos rfl,h2,if_pos rfl]
 rw[JM,LK e1 e2 e3 e4 e5]
 exact if_pos ⟨rfl,hf⟩
theorem SQ{b:List UInt8}(h:∀o u,JM b=some (o,u)->False):JM b=none:=by
 cases hd:JM b with
 |none=>rfl
 |some r=>exact(h r.1 r.2 hd).elim
theorem Q9{b:List UInt8}{o:J4}{u:Nat}(h:Hw b=some (o,u)):1<=b.length/\UZ b 1=(o.data,u,0)/\o.code=((gt b 0).toNat:Int)/\Ic o.code o.data.length=true:=by
 unfold Hw at h
 split at h
 ·rename_i hh
  obtain⟨h0,hf⟩:=hh
  obtain⟨ho,hu⟩:=Prod.mk.inj (Option.some.inj h)
  cases e1:KD b 0 0 1 with|mk v1 r1=>cases r1 with|mk t1 k1 =>
  cases e2:UY b t1 k1 with|mk x2 r2=>cases r2 with|mk t2 k2 =>
  rw[O1 e1 e2] at h0 hf ho hu
  dsimp only at h0 hf ho hu
  subst h0
  obtain⟨rfl,f2⟩:=YH e2
  obtain⟨_,l1,rfl,rfl⟩:=Rk e1
  subst ho hu
  refine⟨by omega,f2,?_,hf⟩
  dsimp only;rw[val1 (t:=0) l1];rfl
 ·cases h
theorem rU{b x:List UInt8}{u:Nat}(hl:1<=b.length)(h1:UZ b 1=(x,u,0))(hf:Ic ((gt b 0).toNat:Int) x.length=true):Hw b=some (⟨((gt b 0).toNat:Int),x⟩,u):=by
 have e1:KD b 0 0 1=((gt b 0).toNat,1,0):=by rw[KD,if_pos rfl,if_pos (by omega),val1 (t:=0) (by omega)];rfl
 have e2:UY b 1 0=(x,u,0):=by rw[UY,if_pos rfl,h1,if_pos rfl]
 rw[Hw,O1 e1 e2]
 exact if_pos ⟨rfl,hf⟩
theorem Tz{b:List UInt8}(h:∀o u,Hw b=some (o,u)->False):Hw b=none:=by
 cases hd:Hw b with
 |none=>rfl
 |some r=>exact(h r.1 r.2 hd).elim
theorem YQ(e:Int):Ct Tryz.prog 181 [.int .i64 e] [] [] (λu G Q=>∃k:Int,u=.int .i64 k/\(e≠0->k≠0)/\G=[]/\Q=[]):=by
 refine Ct.intro Tryz.func181 rfl rfl rfl (λc hc=>?_)
 refine AP 1 ?_;refine AB ?_;refine AP 2 ?_;refine Af ?_ ?_
 ·intro h1;try simp only[D6] at h1
  refine AP 2 ?_;refine GC.ret (AQ 2 [] [] ?_)
  exact⟨_,rfl,by intros;omega,rfl,rfl⟩
 intro h1;try simp only[D6] at h1
 refine GC.skip (?_:GC _ _ _ _)
 refine AP 1 ?_;refine GC.ret (AQ 2 [] [] ?_)
 exact⟨_,rfl,by intros;omega,rfl,rfl⟩
theorem Uu(A:Option Addr)(b:List UInt8)(cp:Nat)(hb:b.length<=cp)(Gl:cp<=9223372036854775807)(hb':b.length<=10000000000000):Ct Tryz.prog 138 [.slice A b.length cp] [] [D7.row Kd.u8 A b]
    (λu G Q=>∃(o:LM) (n:Nat) (e:Int) (A1:Option Addr) (c1:Nat) (A2:Option Addr) (c2:Nat),(e=0->JM b=some (o,n))/\(n<=b.length/\(e≠0->JM b=none))/\(o.data.length<=16777216/\o.old.length<=16777216)/\o.data.length<=c1/\c1<=9223372036854775807/\o.old.length<=c2/\c2<=9223372036854775807/\u=.tuple #[lI o A1 c1 A2 c2,.int .i64 (n:Int),.int .i64 e]/\G=[]/\Q=[D7.row Kd.u8 A1 o.data,D7.row Kd.u8 A2 o.old]):=by
 have hp4:(256:Nat) ^ 4=4294967296:=Gn
 by_cases hq9:9<=b.length
 ·have hv1:=Jg (b:=b) (l:=1) (h:=1+4) (n:=4) (by omega) (by omega)
  have hv5:=Jg (b:=b) (l:=5) (h:=5+4) (n:=4) (by omega) (by omega)
  have g1:JL b 1 4=GH (seg b 1 (1+4)):=if_pos (by omega)
  have g5:JL b 5 4=GH (seg b 5 (5+4)):=if_pos (by omega)
  refine Ct.intro Tryz.func138 rfl rfl rfl (λc hc=>?_)
  refine AX ?_;refine GL.step rfl (EH rfl Hy) (Aa λGm=>?_);refine AL 2 ?_;refine AB ?_;refine AX ?_;refine GL.know (q:=D7.row Kd.u8 none []) (λ_ _ _=>.inl rfl) ?_;refine AL 3 ?_
  refine Af ?_ ?_
  ·intro h1;try simp only[D6] at h1
   exfalso;omega
  intro h1;try simp only[D6] at h1
  refine GC.skip (?_:GC _ _ _ _)
  refine AV 1 ?_;refine Ah Tryz.call135 [] [1] rfl rfl rfl (by exact Np _ b _ 1 4 (by omega) (by omega) hb (by omega) (by omega)) ?_
  rintro _ _ _ ⟨rfl,rfl,rfl⟩
  refine AL 7 ?_;refine AV 1 ?_;refine Ah Tryz.call135 [] [1] rfl rfl rfl (by exact Np _ b _ 5 4 (by omega) (by omega) hb (by omega) (by omega)) ?_
  rintro _ _ _ ⟨rfl,rfl,rfl⟩
  refine AL 7 ?_;refine AV 1 ?_;refine Ah Tryz.call180 [] [1] rfl rfl rfl (by exact Us _ b _ 9 hb Gl hb' (by omega)) ?_
  rintro _ _ _ ⟨x35,n35,e35,A35,c35,Jt,l35,k35,rfl,rfl,rfl⟩
  refine AL 7 ?_;refine AB ?_;refine AP 2 ?_;refine Af ?_ ?_
  ·intro h2;try simp only[D6] at h2
   refine AX ?_;refine AO rfl (ED Hy KO rfl rfl) ?_;refine AA 1 ?_;refine Ah Tryz.call181 [] [] rfl rfl rfl (by exact YQ _) ?_
   rintro _ _ _ ⟨e43,rfl,hn43,rfl,rfl⟩
   refine Ar 0 ?_;refine AL 2 ?_;refine GC.ret (Fin.c2 2 49 3 4 0 5 [] [1,1] ?_)
   exact⟨Iw,0,_,none,0,none,0,λh=>absurd h (hn43 (by omega)),⟨by omega,λ_=>SQ λo u h=>by obtain⟨_,t,f1,_⟩:=Qd h;rw[Jt] at f1;have:=(PG f1).2.2;omega⟩,by simp[Iw],by simp[Iw],by omega,by simp[Iw],by omega,rfl,rfl,rfl⟩
  intro h2;try simp only[D6] at h2
  refine GC.skip (?_:GC _ _ _ _)
  refine AV 2 ?_;refine Ah Tryz.call180 [] [2] rfl rfl rfl (by exact Us _ b _ n35 hb Gl hb' (KH Jt (by omega)).1) ?_
  rintro _ _ _ ⟨x47,n47,e47,A47,c47,XT,l47,k47,rfl,rfl,rfl⟩
  refine AL 7 ?_;refine AB ?_;refine AP 2 ?_;refine Af ?_ ?_
  ·intro h3;try simp only[D6] at h3
   refine AX ?_;refine AO rfl (ED Hy KO rfl rfl) ?_;refine AA 1 ?_;refine Ah Tryz.call181 [] [] rfl rfl rfl (by exact YQ _) ?_
   rintro _ _ _ ⟨e55,rfl,hn55,rfl,rfl⟩
   refine Ar 0 ?_;refine AL 2 ?_;refine GC.ret (Fin.c2 2 49 3 4 0 5 [] [2,2] ?_)
   exact⟨Iw,0,_,none,0,none,0,λh=>absurd h (hn55 (by omega)),⟨by omega,λ_=>SQ λo u h=>by obtain⟨_,t,f1,f2,_⟩:=Qd h;rw[Jt] at f1;obtain rfl:=(PG f1).2.1;rw[XT] at f2;have:=(PG f2).2.2;omega⟩,by simp[Iw],by simp[Iw],by omega,by simp[Iw],by omega,rfl,rfl,rfl⟩
  intro h3;try simp only[D6] at h3
  refine GC.skip (?_:GC _ _ _ _)
  refine AV 1 ?_;refine GL.step rfl (Ej (i:=3) rfl rfl rfl rfl Tryz.underlying47 Fa (by omega) (EW (by omega) (by omega))) (Aa λp_x57=>Aa λr_x57=>GL.and λok_x57=>?_)
  rcases r_x57 with _
  refine GL.step rfl (Ed rfl (ES (i:=0) rfl rfl Oa rfl)) ?_;refine AA 1 ?_;refine AO rfl (EO (t:=45) (r:=((JL b 1 4:Nat):Int)) (by rw[Tryz.underlying45];simp) Tryz.underlying3 rfl (W9 (by omega) (by omega))) ?_
  refine AA 1 ?_;refine AO rfl (EO (t:=45) (r:=((JL b 5 4:Nat):Int)) (by rw[Tryz.underlying45];simp) Tryz.underlying3 rfl (W9 (by omega) (by omega))) ?_
  refine AA 2 ?_;refine AO rfl (ED Hy KO rfl rfl) ?_;refine GL.step rfl (EH rfl Hy) (Aa λdG=>?_);refine Ar 0 ?_;refine Ap ?_;refine AB ?_;refine AX ?_;refine Az 0 5 ?_
  refine Ah Tryz.call118 [] [] rfl rfl rfl (by exact SC _ _ _ _ x35.length _ _ x47.length _ (by have:=(KH Jt (by omega)).2;omega) (by have:=(KH XT (by omega)).2;omega)) ?_
  rintro _ _ _ ⟨rfl,rfl,rfl⟩
  refine AL 1 ?_;refine Af ?_ ?_
  ·intro h4;try simp only[D6] at h4
   refine AX ?_;refine AO rfl (ED Hy KO rfl rfl) ?_;refine Ar 1 ?_;refine AL 2 ?_;refine GC.ret (Fin.c2 2 49 3 4 1 5 [] [3,3] ?_)
   exact⟨Iw,0,42,none,0,none,0,λh=>absurd h (by decide),⟨by omega,λ_=>SQ λo u h=>by obtain⟨_,t,f1,f2,f3,f4,f5,f6⟩:=Qd h;rw[Jt] at f1;obtain⟨f7,rfl,_⟩:=PG f1;rw[XT] at f2;have f8:=(PG f2).1;rw[f3,f4,f5,<-f7,<-f8] at f6;contradiction⟩,by simp[Iw],by simp[Iw],by omega,by simp[Iw],by omega,rfl,rfl,rfl⟩
  intro h4;try simp only[D6] at h4
  refine GC.skip (?_:GC _ _ _ _)
  refine AX ?_;refine Az 0 5 ?_;refine AA 1 ?_;refine Ar 1 ?_;refine AL 2 ?_;refine GC.ret (Fin.c2 2 49 3 4 1 5 [] [2,1] ?_)
  have z35:e35=0:=by omega
  have z47:e47=0:=by omega
  subst z35 z47
  exact⟨⟨((gt b 0).toNat:Int),((JL b 1 4:Nat):Int),((JL b 5 4:Nat):Int),x35,x47⟩,n47,0,A35,c35,A47,c47,λ_=>decOp_mk hq9 Jt XT (by assumption),⟨(KH XT rfl).1,λh=>absurd rfl h⟩,⟨(KH Jt rfl).2,(KH XT rfl).2⟩,l35,k35,l47,k47,rfl,rfl,rfl⟩
 skip
 refine Ct.intro Tryz.func138 rfl rfl rfl (λc hc=>?_)
 refine AX ?_;refine GL.step rfl (EH rfl Hy) (Aa λGm=>?_);refine AL 2 ?_;refine AB ?_;refine AX ?_;refine GL.know (q:=D7.row Kd.u8 none []) (λ_ _ _=>.inl rfl) ?_;refine AL 3 ?_
 refine Af ?_ ?_
 ·intro h1;try simp only[D6] at h1
  refine AX ?_;refine AO rfl (ED Hy KO rfl rfl) ?_;refine Ar 0 ?_;refine AL 2 ?_;refine GC.ret (Fin.c2 2 49 3 4 0 5 [] [0,0] ?_)
  exact⟨Iw,0,10,none,0,none,0,λh=>absurd h (by decide),⟨by omega,λ_=>SQ λo u h=>hq9 (Qd h).1⟩,by simp[Iw],by simp[Iw],by omega,by simp[Iw],by omega,rfl,rfl,rfl⟩
 intro h1;try simp only[D6] at h1
 exfalso;omega
theorem RV(A:Option Addr)(b:List UInt8)(cp:Nat)(hb:b.length<=cp)(Gl:cp<=9223372036854775807)(hb':b.length<=10000000000000):Ct Tryz.prog 139 [.slice A b.length cp] [] [D7.row Kd.u8 A b]
    (λu G Q=>∃(o:J4) (n:Nat) (e:Int) (A1:Option Addr) (c1:Nat),(e=0->Hw b=some (o,n))/\(n<=b.length/\(e≠0->Hw b=none))/\o.data.length<=16777216/\o.data.length<=c1/\c1<=9223372036854775807/\u=.tuple #[.agg #[.int .u8 o.code,.slice A1 o.data.length c1],.int .i64 (n:Int),.int .i64 e]/\G=[]/\Q=[D7.row Kd.u8 A1 o.data]):=by
 refine Ct.intro Tryz.func139 rfl rfl rfl (λc hc=>?_)
 refine AX ?_;refine GL.step rfl (EH rfl Ig) (Aa λGm=>?_);refine AL 2 ?_;refine AB ?_;refine AX ?_;refine GL.know (q:=D7.row Kd.u8 none []) (λ_ _ _=>.inl rfl) ?_;refine AL 3 ?_
 refine Af ?_ ?_
 ·intro h1;try simp only[D6,MO] at h1
  refine AX ?_;refine AO rfl (ED Ig OU rfl rfl) ?_;refine Ar 0 ?_;refine AL 2 ?_;refine GC.ret (Fin.c2 2 52 3 4 0 2 [] [0] ?_)
  exact⟨rz,0,10,none,0,λh=>absurd h (by decide),⟨by omega,λ_=>Tz λo u h=>by have:=(Q9 h).1;omega⟩,by simp[rz],by simp[rz],by omega,rfl,rfl,rfl⟩
 intro h1;try simp only[D6,MO] at h1
 refine GC.skip (?_:GC _ _ _ _)
 refine AV 1 ?_;refine Ah Tryz.call180 [] [1] rfl rfl rfl (by exact Us _ b _ 1 hb Gl hb' (by omega)) ?_
 rintro _ _ _ ⟨x15,n15,e15,jT,c15,Fj,l15,k15,rfl,rfl,rfl⟩
 refine AL 7 ?_;refine AB ?_;refine AP 2 ?_;refine Af ?_ ?_
 ·intro h2;try simp only[D6,MO] at h2
  refine AX ?_;refine AO rfl (ED Ig OU rfl rfl) ?_;refine AA 1 ?_;refine Ah Tryz.call181 [] [] rfl rfl rfl (by exact YQ _) ?_
  rintro _ _ _ ⟨e23,rfl,hn23,rfl,rfl⟩
  refine Ar 0 ?_;refine AL 2 ?_;refine GC.ret (Fin.c2 2 52 3 4 0 2 [] [1] ?_)
  exact⟨rz,0,_,none,0,λh=>absurd h (hn23 (by omega)),⟨by omega,λ_=>Tz λo u h=>by have f1:=(Q9 h).2.1;rw[Fj] at f1;have:=(PG f1).2.2;omega⟩,by simp[rz],by simp[rz],by omega,rfl,rfl,rfl⟩
 intro h2;try simp only[D6,MO] at h2
 refine GC.skip (?_:GC _ _ _ _)
 refine AV 1 ?_;refine GL.step rfl (Ej (i:=2) rfl rfl rfl rfl Tryz.underlying47 Fa (by omega) (EW (by omega) (by omega))) (Aa λp_x25=>Aa λr_x25=>GL.and λok_x25=>?_)
 rcases r_x25 with _
 refine GL.step rfl (Ed rfl (ES (i:=0) rfl rfl Oa rfl)) ?_;refine AA 1 ?_;refine AO rfl (ED Ig OU rfl rfl) ?_;refine GL.step rfl (EH rfl Ig) (Aa λZA=>?_);refine Ar 0 ?_
 refine Ap ?_;refine AB ?_;refine AX ?_;refine Az 0 2 ?_;refine Ah Tryz.call120 [] [] rfl rfl rfl (by exact RU _ _ x15.length _) ?_
 rintro _ _ _ ⟨rfl,rfl,rfl⟩
 refine AL 1 ?_;refine Af ?_ ?_
 ·intro h3;try simp only[D6,MO] at h3
  refine AX ?_;refine AO rfl (ED Ig OU rfl rfl) ?_;refine Ar 1 ?_;refine AL 2 ?_;refine GC.ret (Fin.c2 2 52 3 4 1 2 [] [2] ?_)
  exact⟨rz,0,42,none,0,λh=>absurd h (by decide),⟨by omega,λ_=>Tz λo u h=>by obtain⟨_,f1,f2,f3⟩:=Q9 h;rw[Fj] at f1;rw[f2,<-(PG f1).1] at f3;simp_all⟩,by simp[rz],by simp[rz],by omega,rfl,rfl,rfl⟩
 intro h3;try simp only[D6,MO] at h3
 refine GC.skip (?_:GC _ _ _ _)
 refine AX ?_;refine Az 0 2 ?_;refine AA 1 ?_;refine Ar 1 ?_;refine AL 2 ?_;refine GC.ret (Fin.c2 2 52 3 4 1 2 [] [1] ?_)
 have z15:e15=0:=by omega
 subst z15
 exact⟨⟨((gt b 0).toNat:Int),x15⟩,n15,0,jT,c15,λ_=>rU (by omega) Fj (by simp_all),⟨(KH Fj rfl).1,λh=>absurd rfl h⟩,(KH Fj rfl).2,l15,k15,rfl,rfl,rfl⟩
abbrev Rd{α:Type}(E k:Int)(f:Option α)(r:α):Prop:=(k=0->E=0/\f=some r)/\(k≠0->E≠0\/f=none)
theorem Rd.bind{α β:Type}{E k k2:Int}{f:Option α}{r:α}{g:α->Option β}{s:β}(h:Rd E k f r)(h2:Rd k k2 (g r) s):Rd E k2 (f.bind g) s:=by
 refine⟨λh0=>?_,λh0=>?_⟩
 ·obtain⟨a,b⟩:=h2.1 h0
  obtain⟨c,d⟩:=h.1 a
  exact⟨c,by rw[d];exact b⟩
 ·by_cases hk:k=0
  ·have d:=(h.1 hk).2
   rcases h2.2 h0 with g1|g1
   ·exact absurd hk g1
   ·exact .inr (by rw[d];exact g1)
  ·rcases h.2 hk with g1|g1
   ·exact .inl g1
   ·exact .inr (by rw[g1];rfl)
theorem Rd.map{α β:Type}{E k:Int}{f:Option α}{r:α}(g:α->β)(h:Rd E k f r):Rd E k (f.map g) (g r) :=
 ⟨λh0=>⟨(h.1 h0).1,by rw[(h.1 h0).2];rfl⟩,λh0=>(h.2 h0).imp id λg1=>by rw[g1];rfl⟩
theorem Hr(p e_:Nat)(A:Option Addr)(b:List UInt8)(cp at_:Nat)(E:Int)(n:Nat)(hn:1<=n)(hn':n<=8)(hb:b.length<=cp)(hb':b.length<=10000000000000)(hat:at_<=b.length):Ct Tryz.prog 182 [.pointer (some ⟨p,0,none⟩),.int .i64 (n:Int)] (Ju p e_ A b cp at_ E) [D7.row Kd.u8 A b]
    (λu G Q=>∃(v:Int) (t:Nat) (k:Int),Rd E k (FU b at_ n) (v,t)/\(t<=b.length /\ -1<=v/\v<=4611686018427387904)/\u=.int .i64 v/\G=Ju p e_ A b cp t k/\Q=[]):=by
 refine Ct.intro Tryz.func182 rfl rfl rfl (λc hc=>?_)
 refine AP 1 ?_;refine AB ?_;refine AV 3 ?_;refine Ad 0 ?_;refine AL 1 ?_;refine Af ?_ ?_
 ·intro h1;try simp only[D6] at h1
  refine AP 1 ?_;refine GC.ret (AQ 4 [0] [] ?_)
  exact⟨0,at_,E,⟨λh=>absurd h (by assumption),λh=>.inl h⟩,⟨hat,by omega,by omega⟩,rfl,rfl,rfl⟩
 intro h1;try simp only[D6] at h1
 refine GC.skip (?_:GC _ _ _ _)
 refine AB ?_;refine BP Ef (by kernel_rfl) ?_;refine Am 3 ?_;refine GQ.step rfl (Ea (EF (i:=0) rfl rfl G_ rfl)) ?_;refine Am 3 ?_;refine GQ.step rfl (Ea (EF (i:=0) rfl rfl Ei rfl)) ?_
 refine Am 1 ?_;refine GQ.step rfl (JU Tryz.call135 rfl (js:=[0]) rfl (by exact Np _ b _ at_ n hn hn' hb (by omega) hat)) ?_;refine Am 7 ?_
 refine BO (?_:GC _ _ _ _)
 refine AB ?_;refine AP 2 ?_;refine Af ?_ ?_
 ·intro h2;try simp only[D6] at h2
  refine AV 4 ?_;refine BI 0 ?_;refine BL 1 ?_;refine Ap ?_;refine GC.ret (AQ 4 [0] [] ?_)
  exact⟨0,at_,_,⟨λh=>absurd h (by assumption),λh=>.inr (by rw[FU,if_neg (λhq=>h (if_pos hq))])⟩,⟨hat,by omega,by omega⟩,rfl,rfl,rfl⟩
 intro h2;try simp only[D6] at h2
 refine GC.skip (?_:GC _ _ _ _)
 refine AV 4 ?_;refine BI 0 ?_;refine Ap ?_;refine AB ?_;refine AP 2 ?_;refine Af ?_ ?_
 ·intro h3;try simp only[D6] at h3
  refine AP 1 ?_;refine GC.ret (AQ 4 [0] [] ?_)
  have e0:E=0:=by omega
  have hq:=LH (b:=b) (at_:=at_) (n:=n) (by omega)
  subst e0
  exact⟨-1,_,0,⟨λ_=>⟨rfl,by rw[FU,if_pos hq,if_pos (by assumption)]⟩,λh=>absurd rfl h⟩,⟨by rw[Uj,if_pos hq];exact hq,by omega,by omega⟩,rfl,rfl,rfl⟩
 intro h3;try simp only[D6] at h3
 refine GC.skip (?_:GC _ _ _ _)
 refine AV 1 ?_;refine AO rfl (EO (t:=45) (r:=((JL b at_ n:Nat):Int)) (by rw[Tryz.underlying45];simp) Tryz.underlying3 rfl (W9 (by omega) (by omega))) ?_
 refine AL 1 ?_;refine GC.ret (AQ 4 [0] [] ?_)
 have e0:E=0:=by omega
 have hq:=LH (b:=b) (at_:=at_) (n:=n) (by omega)
 subst e0
 exact⟨_,_,0,⟨λ_=>⟨rfl,by rw[FU,if_pos hq,if_neg (by omega)]⟩,λh=>absurd rfl h⟩,⟨by rw[Uj,if_pos hq];exact hq,by omega,by omega⟩,rfl,rfl,rfl⟩
theorem zq88_{X:Prop}(h:X:=by(exact⟨[],at_,_,none,0,⟨λh=>by first|omega|(exfalso;revert h;decide),λh=>.inr (by rw[Rt,Iq];exact if_neg (by assumption))⟩,⟨hat,by simp⟩,by simp,by omega,rfl,rfl,rfl⟩)):X:=h
theorem r7txt_ct(p e_:Nat)(A:Option Addr)(b:List UInt8)(cp at_:Nat)(E:Int)(hb:b.length<=cp)(Gl:cp<=9223372036854775807)(hb':b.length<=10000000000000)(hat:at_<=b.length):Ct Tryz.prog 183 [.pointer (some ⟨p,0,none⟩)] (Ju p e_ A b cp at_ E) [D7.row Kd.u8 A b]
    (λu G Q=>∃(x:List UInt8) (t:Nat) (k:Int) (A':Option Addr) (c':Nat),Rd E k (Rt b at_) (x,t)/\(t<=b.length/\x.length<=16777216)/\x.length<=c'/\c'<=9223372036854775807/\u=.slice A' x.length c'/\G=Ju p e_ A b cp t k/\Q=[D7.row Kd.u8 A' x]):=by
 refine Ct.intro Tryz.func183 rfl rfl rfl (λc hc=>?_)
 refine AP 1 ?_;refine AB ?_;refine AX ?_;refine GL.know (q:=D7.row Kd.u8 none []) (λ_ _ _=>.inl rfl) ?_;refine AA 3 ?_;refine Ad 0 ?_;refine AL 1 ?_;refine Af ?_ ?_
 ·intro h1;try simp only[D6] at h1
  refine AP 1 ?_;refine GC.ret (AQ 2 [0] [0] ?_)
  exact⟨[],at_,E,none,0,⟨λh=>absurd h (by assumption),λh=>.inl h⟩,⟨hat,by simp⟩,by simp,by omega,rfl,rfl,rfl⟩
 intro h1;try simp only[D6] at h1
 refine GC.skip (?_:GC _ _ _ _)
 refine AB ?_;refine BF (m:=16) (is:=[0]) (js:=[0,1]) Ef rfl rfl rfl ?_;refine AZ 0 [0] [0,1] ?_;refine AZ 1 [0] [0,1] ?_;refine AZ 2 [0] [0,1] ?_;refine BA 3 rfl [0] [0,1] (i_mem (EF (i:=0) rfl rfl G_ rfl)) ?_
 refine AZ 4 [0] [0,1] ?_;refine AZ 5 [0] [0,1] ?_;refine AZ 6 [0] [0,1] ?_;refine BA 7 rfl [0] [0,1] (i_mem (EF (i:=0) rfl rfl Ei rfl)) ?_;refine Aw [8] ?_
 refine E8.cons (i:=8) rfl rfl (EI rfl Tryz.call180 rfl (is:=[]) (js:=[1]) rfl rfl (by exact Us _ b _ at_ hb Gl hb' hat)) (by rintro a w ⟨_,_,_,⟨x20,n20,e20,YA,c20,Iq,V9,k20,rfl,rfl,rfl⟩,h⟩;exact h.me [0] [1,2]) (GA.ret ?_) Ag
 rintro _ _ _ ⟨x20,n20,e20,YA,c20,Iq,V9,k20,rfl,rfl,rfl⟩
 refine AZ 9 [0] [1,2] ?_;refine AZ 10 [0] [1,2] ?_;refine AZ 11 [0] [1,2] ?_;refine AZ 12 [0] [1,2] ?_;refine AZ 13 [0] [1,2] ?_;refine AZ 14 [0] [1,2] ?_;refine AZ 15 [0] [1,2] ?_
 refine BG (by kernel_rfl) (?_:GC _ _ _ _)
 refine AB ?_;refine AP 2 ?_;refine Af ?_ ?_
 ·intro h2;try simp only[D6] at h2
  refine AV 3 ?_;refine BI 0 ?_;refine Ap ?_;refine AB ?_;refine AP 2 ?_;refine Af ?_ ?_
  ·intro h3;try simp only[D6] at h3
   refine GC.region ?_;refine AA 4 ?_;refine BI 0 ?_
   refine Ac (?_:GC _ _ _ _)
   refine AP 1 ?_;refine GC.ret (AQ 2 [0] [1] ?_)
   exact zq88_
  intro h3;try simp only[D6] at h3
  refine GC.skip (?_:GC _ _ _ _)
  refine AP 1 ?_;refine GC.ret (AQ 2 [0] [1] ?_)
  exact zq88_
 intro h2;try simp only[D6] at h2
 refine GC.skip (?_:GC _ _ _ _)
 refine AV 4 ?_;refine BI 0 ?_;refine BL 2 ?_;refine Ap ?_;refine GC.ret (AQ 2 [0] [0] ?_)
 have e0:E=0:=by omega
 have z20:e20=0:=by omega
 subst e0 z20
 exact⟨_,_,0,_,_,⟨λ_=>⟨rfl,by rw[Rt,Iq];rfl⟩,λh=>absurd rfl h⟩,KH Iq rfl,V9,k20,rfl,rfl,rfl⟩
theorem rg_rng{k10 v10 E1:Int}{k:Nat}{X:Prop}(hc:k10=0->0<=v10/\v10<256)(h1:E1=0->k10=0/\X)(e1:E1=0)(hk:(k:Int)<v10):k+1=0\/(((k+1:Nat):Int)<=v10/\v10<256):=by
 have:=hc (h1 e1).1;omega
theorem rg_fin{b:List UInt8}{k10 v10 E1:Int}{t10 t k:Nat}{xs:List Int}(hc:k10=0->0<=v10/\v10<256)(hb:k=0\/((k:Int)<=v10/\v10<256))(h1:(E1=0->k10=0/\Fq (λt=>FU b t 1) t10 k=some (xs,t))/\(E1≠0->k10≠0\/Fq (λt=>FU b t 1) t10 v10.toNat=none))(hx:E1=0->v10<=(k:Int)):Rd k10 E1 (Fq (λt=>FU b t 1) t10 v10.toNat) (xs,t) :=
 ⟨λh=>by obtain⟨f1,f2⟩:=h1.1 h;have:=hc f1;have:=hx h;rw[show v10.toNat=k by omega];exact⟨f1,f2⟩,h1.2⟩
theorem zq89_{X:Prop}(h:X:=by(exact λa w h=>⟨(k+1),(xs++[v26]),(_),(t26),(k26),(by omega),⟨⟨by simp;omega,by omega⟩,rg_rng hc12 hk.2.2.1 (by assumption) (by assumption),λh=>⟨(hk.2.2.1 (MB.1 h).1).1,J6 (hk.2.2.1 (MB.1 h).1).2 (MB.1 h).2⟩,λh=>(MB.2 h).elim (λg=>absurd (by assumption) g) (λg=>.inr (FV (hk.2.2.1 (by assumption)).2 g (by omega)))⟩,h.cut (is:=[1,1,1,1]) (js:=[0]) ⟨rfl,rfl,rfl,rfl,rfl,trivial⟩ rfl rfl⟩)):X:=h
theorem zq90_{X:Prop}(h:X:=by(exact⟨⟨v7,xs⟩,t,E1,_,_,by unfold Nr;exact Rd.bind hs7 (Rd.bind hs10 (Rd.map (λr:List Int×Nat=>((⟨v7,r.1⟩:Ld),r.2)) (rg_fin hc12 hk.2.1 hk.2.2 (by omega)))),⟨hk.1.2,by have:=hk.1.1;have:=hk.2.1;show xs.length<=255;omega⟩,l_M,k_M,rfl,rfl,rfl⟩)):X:=h
theorem kR(p e_:Nat)(A:Option Addr)(b:List UInt8)(cp at_:Nat)(E:Int)(hb:b.length<=cp)(hb':b.length<=10000000000000)(hat:at_<=b.length):Ct Tryz.prog 185 [.pointer (some ⟨p,0,none⟩)] (Ju p e_ A b cp at_ E) [D7.row Kd.u8 A b]
    (λu G Q=>∃(g:Ld) (t:Nat) (k:Int) (A':Option Addr) (c':Nat),Rd E k (Nr b at_) (g,t)/\(t<=b.length/\g.members.length<=255)/\g.members.length<=c'/\c'<=9223372036854775807/\u=.agg #[.int .i64 g.epoch,.slice A' g.members.length c']/\G=Ju p e_ A b cp t k/\Q=[D7.row kI A' g.members]):=by
 have hp1:(256:Nat) ^ 1=256:=Gp
 refine Ct.intro Tryz.func185 rfl rfl rfl (λc hc=>?_)
 refine AX ?_;refine GL.step rfl (EH rfl OG) (Aa λGm=>?_);refine BL 1 ?_;refine Ah Tryz.call182 [1] [0] rfl rfl rfl (by exact Hr _ _ _ b _ at_ E 8 (by omega) (by omega) (by omega) (by omega) (by omega)) ?_
 rintro _ _ _ ⟨v7,t7,k7,hs7,⟨ht7,hv7,hw7⟩,rfl,rfl,rfl⟩
 refine AO rfl (ED OG lN rfl rfl) ?_;refine GL.step rfl (EH rfl OG) (Aa λFQ=>?_);refine Ar 0 ?_;refine BL 1 ?_;refine Ah Tryz.call182 [1] [0] rfl rfl rfl (by exact Hr _ _ _ b _ t7 k7 1 (by omega) (by omega) (by omega) (by omega) (by omega)) ?_
 rintro _ _ _ ⟨v10,t10,k10,hs10,⟨ht10,iL,iK⟩,rfl,rfl,rfl⟩
 refine AL 1 ?_;refine AB ?_;refine AX ?_
 have hc12:k10=0->0<=v10/\v10<256:=λh=>by have f:=(hs10.1 h).2;have:=Jm f (by omega);have:=(ER f).2.2.2.2;omega
 refine GL.Hu 3 1 ?_;refine AL 1 ?_;refine GC.block ?_;refine DT (ks:=[0,2,3,4]) (is:=[3]) (js:=[0]) (fun(k:Nat) (xs:List Int) (U:Value) (t:Nat) (E1:Int)=>(xs.length=k/\t<=b.length)/\(k=0\/((k:Int)<=v10/\v10<256))/\(E1=0->k10=0/\Fq (λt=>FU b t 1) t10 k=some (xs,t))/\(E1≠0->k10≠0\/Fq (λt=>FU b t 1) t10 v10.toNat=none)) (fun(k:Nat) (xs:List Int) (U:Value) (t:Nat) (E1:Int)=>[(5,.int .i64 (k:Int))]) (fun(k:Nat) (xs:List Int) (U:Value) (t:Nat) (E1:Int)=>[.cells p [.slice A b.length cp,.int .i64 (t:Int),.int .i64 E1] e_,.cells FQ [.int .i64 v7,U] 55,.row U 3 1 xs.length (xs.map (Value.int .i64))]) (fun(k:Nat) (xs:List Int) (U:Value) (t:Nat) (E1:Int)=>[]) (fun(k:Nat) (xs:List Int) (U:Value) (t:Nat) (E1:Int)=>v10.toNat - k) (0) ([]) (_) (t10) (k10) rfl rfl rfl (λa w h=>⟨⟨⟨rfl,by omega⟩,.inl rfl,λh=>⟨h,rfl⟩,λh=>.inl h⟩,h.Hf (is:=[1,1,0,0]) (js:=[0]) (ks:=[0,2,3,4]) ⟨rfl,trivial⟩ rfl rfl rfl⟩) ?_
 intro k xs U t E1 hk
 try dsimp only[List.cons_append,List.nil_append] at hk ⊢
 refine AB ?_;refine AV 4 ?_;refine Ak 14 ?_ ?_
 ·intro h1;try simp only[D6] at h1
  refine AA 3 ?_;refine Aj 0 ?_;refine AL 2 ?_;refine Af ?_ ?_
  ·intro h2;try simp only[D6] at h2
   refine GC.skip (?_:GC _ _ _ _)
   refine AB ?_;refine GC.block ?_;refine BF (m:=8) (is:=[3]) (js:=[0]) Ef rfl rfl rfl ?_;refine AZ 0 [3] [0] ?_;refine AZ 2 [3] [0] ?_;refine Aw [1,3] ?_
   refine E8.cons (i:=1) rfl rfl (Ed rfl (EF (i:=1) rfl rfl JZ rfl)) (by rintro a w h;exact h.me [3] [0]) ?_ ?_
   ·refine Aw [3] ?_
    refine E8.cons (i:=3) rfl rfl (EI rfl Tryz.call182 rfl (is:=[0]) (js:=[0]) rfl rfl (by exact Hr _ _ _ b _ t E1 1 (by omega) (by omega) (by omega) (by omega) (by omega))) (by rintro a w ⟨_,_,_,⟨v26,t26,k26,MB,⟨ht26,hv26,hw26⟩,rfl,rfl,rfl⟩,h⟩;exact h.me [3] [0]) (GA.ret ?_) Ag
    rintro _ _ _ ⟨v26,t26,k26,MB,⟨ht26,hv26,hw26⟩,rfl,rfl,rfl⟩
    refine Aw [4] ?_
    refine E8.cons (i:=4) rfl rfl (EC rfl Tryz.underlying53 GV Ja rfl rfl rfl rfl rfl rfl) (by rintro a w ⟨_,h⟩;exact h.me [4] [0]) (BZ λb_t27=>?_) Ag
    refine Aw [5] ?_
    refine E8.cons (i:=5) rfl rfl (Eh (i:=3) (k:=0) rfl NS rfl rfl rfl rfl rfl (EX rfl) (by have:=hk.1.1;have:=hk.2.1;omega) (λ_=>rfl)) (by rintro a w ⟨_,h⟩;exact h.me [4] [0]) (BZ λv28=>?_) Ag
    refine GA.shape (i:=3) rfl (λA_v28 c_v28 bZ l_v28 k_v28=>?_)
    subst bZ
    refine AZ 6 [4] [0] ?_;refine Aw [7] ?_
    refine E8.cons (i:=7) rfl rfl (Et (i:=2) rfl rfl rfl rfl O7 rfl rfl rfl) (by rintro a w h;exact h.me [4] [0]) ?_ Ag
    refine BG (by kernel_rfl) (?_:GC _ _ _ _)
    refine GC.region ?_;refine GL.rowIs (i:=3) (m':=((xs++[v26])).length) (cs':=((xs++[v26])).map (Value.int .i64)) rfl (by first|rfl|(simp;done)|(simp;omega)) (by first|rfl|(simp;done)) rfl ?_
    refine AA 1 ?_;refine AO rfl (EU rfl rfl (Fh (by omega) (by omega))) ?_;refine AA 1 ?_;refine Ac ?_
    exact zq89_
   refine E8.cons (i:=3) rfl rfl (EI rfl Tryz.call182 rfl (is:=[0]) (js:=[0]) rfl rfl (by exact Hr _ _ _ b _ t E1 1 (by omega) (by omega) (by omega) (by omega) (by omega))) (by rintro a w ⟨_,_,_,⟨v26,t26,k26,MB,⟨ht26,hv26,hw26⟩,rfl,rfl,rfl⟩,h⟩;exact h.me [3] [0]) (GA.ret ?_) Ag
   rintro _ _ _ ⟨v26,t26,k26,MB,⟨ht26,hv26,hw26⟩,rfl,rfl,rfl⟩
   refine Aw [1,4] ?_
   refine E8.cons (i:=1) rfl rfl (Ed rfl (EF (i:=1) rfl rfl JZ rfl)) (by rintro a w h;exact h.me [3] [0]) ?_ ?_
   ·refine Aw [4] ?_
    refine E8.cons (i:=4) rfl rfl (EC rfl Tryz.underlying53 GV Ja rfl rfl rfl rfl rfl rfl) (by rintro a w ⟨_,h⟩;exact h.me [4] [0]) (BZ λb_t27=>?_) Ag
    refine Aw [5] ?_
    refine E8.cons (i:=5) rfl rfl (Eh (i:=3) (k:=0) rfl NS rfl rfl rfl rfl rfl (EX rfl) (by have:=hk.1.1;have:=hk.2.1;omega) (λ_=>rfl)) (by rintro a w ⟨_,h⟩;exact h.me [4] [0]) (BZ λv28=>?_) Ag
    refine GA.shape (i:=3) rfl (λA_v28 c_v28 bZ l_v28 k_v28=>?_)
    subst bZ
    refine AZ 6 [4] [0] ?_;refine Aw [7] ?_
    refine E8.cons (i:=7) rfl rfl (Et (i:=2) rfl rfl rfl rfl O7 rfl rfl rfl) (by rintro a w h;exact h.me [4] [0]) ?_ Ag
    refine BG (by kernel_rfl) (?_:GC _ _ _ _)
    refine GC.region ?_;refine GL.rowIs (i:=3) (m':=((xs++[v26])).length) (cs':=((xs++[v26])).map (Value.int .i64)) rfl (by first|rfl|(simp;done)|(simp;omega)) (by first|rfl|(simp;done)) rfl ?_
    refine AA 1 ?_;refine AO rfl (EU rfl rfl (Fh (by omega) (by omega))) ?_;refine AA 1 ?_;refine Ac ?_
    exact zq89_
   refine E8.cons (i:=4) rfl rfl (EC rfl Tryz.underlying53 GV Ja rfl rfl rfl rfl rfl rfl) (by rintro a w ⟨_,h⟩;exact h.me [4] [0]) (BZ λb_t27=>?_) Ag
   refine Aw [1] ?_
   refine E8.cons (i:=1) rfl rfl (Ed rfl (EF (i:=2) rfl rfl JZ rfl)) (by rintro a w h;exact h.me [4] [0]) ?_ Ag
   refine Aw [5] ?_
   refine E8.cons (i:=5) rfl rfl (Eh (i:=3) (k:=0) rfl NS rfl rfl rfl rfl rfl (EX rfl) (by have:=hk.1.1;have:=hk.2.1;omega) (λ_=>rfl)) (by rintro a w ⟨_,h⟩;exact h.me [4] [0]) (BZ λv28=>?_) Ag
   refine GA.shape (i:=3) rfl (λA_v28 c_v28 bZ l_v28 k_v28=>?_)
   subst bZ
   refine AZ 6 [4] [0] ?_;refine Aw [7] ?_
   refine E8.cons (i:=7) rfl rfl (Et (i:=2) rfl rfl rfl rfl O7 rfl rfl rfl) (by rintro a w h;exact h.me [4] [0]) ?_ Ag
   refine BG (by kernel_rfl) (?_:GC _ _ _ _)
   refine GC.region ?_;refine GL.rowIs (i:=3) (m':=((xs++[v26])).length) (cs':=((xs++[v26])).map (Value.int .i64)) rfl (by first|rfl|(simp;done)|(simp;omega)) (by first|rfl|(simp;done)) rfl ?_
   refine AA 1 ?_;refine AO rfl (EU rfl rfl (Fh (by omega) (by omega))) ?_;refine AA 1 ?_;refine Ac ?_
   exact zq89_
  intro h2;try simp only[D6] at h2
  refine GC.exit (?_:GC _ _ _ _)
  refine AX ?_;refine GL.shape (i:=2) rfl (λA_M c_M e_M l_M k_M=>?_)
  subst e_M
  refine GL.LQ (i:=2) rfl ?_;refine Az 1 2 ?_;refine Ar 2 ?_;refine Ap ?_;refine GC.ret (DC 2 55 2 2 [0] [0] ?_)
  exact zq90_
 intro h1;try simp only[D6] at h1
 refine AL 6 ?_;refine AY rfl ?_
 refine GC.exit (?_:GC _ _ _ _)
 refine AX ?_;refine GL.shape (i:=2) rfl (λA_M c_M e_M l_M k_M=>?_)
 subst e_M
 refine GL.LQ (i:=2) rfl ?_;refine Az 1 2 ?_;refine Ar 2 ?_;refine Ap ?_;refine GC.ret (DC 2 55 2 2 [0] [0] ?_)
 exact zq90_
def mopF(b:List UInt8)(t:Nat):Option (LM×Nat):=(JM (seg b t b.length)).map λo=>(o.1,t+o.2)
def qW(b:List UInt8)(t:Nat):Option (J4×Nat):=(Hw (seg b t b.length)).map λo=>(o.1,t+o.2)
theorem zq91_{X:Prop}(h:X:=by(exact BG (by kernel_rfl) (λa w h=>⟨_,_,_,_,_,_,_,_,⟨OW,Ol,Qi,XQ,k22,m22,p22⟩,h.cut (is:=[2,1,0]) (js:=[0,1,4]) ⟨rfl,rfl,rfl,rfl,rfl,trivial⟩ rfl rfl⟩))):X:=h
theorem r7op_ct(p e_:Nat)(A:Option Addr)(b:List UInt8)(cp at_:Nat)(E:Int)(hb:b.length<=cp)(Gl:cp<=9223372036854775807)(hb':b.length<=10000000000000)(hat:at_<=b.length):Ct Tryz.prog 186 [.pointer (some ⟨p,0,none⟩)] (Ju p e_ A b cp at_ E) [D7.row Kd.u8 A b]
    (λu G Q=>∃(o:LM) (t:Nat) (k:Int) (A1:Option Addr) (c1:Nat) (A2:Option Addr) (c2:Nat),Rd E k (mopF b at_) (o,t)/\(t<=b.length/\o.data.length<=16777216/\o.old.length<=16777216)/\o.data.length<=c1/\c1<=9223372036854775807/\o.old.length<=c2/\c2<=9223372036854775807/\u=lI o A1 c1 A2 c2/\G=Ju p e_ A b cp t k/\Q=[D7.row Kd.u8 A1 o.data,D7.row Kd.u8 A2 o.old]):=by
 refine Ct.intro Tryz.func186 rfl rfl rfl (λc hc=>?_)
 refine AX ?_;refine GL.step rfl (EH rfl Hy) (Aa λGm=>?_);refine Ap ?_;refine AB ?_;refine AX ?_;refine GL.know (q:=D7.row Kd.u8 none []) (λ_ _ _=>.inl rfl) ?_;refine AA 3 ?_
 refine Ad 1 ?_;refine AL 1 ?_;refine Af ?_ ?_
 ·intro h1;try simp only[D6] at h1
  refine AX ?_;refine AO rfl (ED Hy KO rfl rfl) ?_;refine Ar 0 ?_;refine Ap ?_;refine GC.ret (DC 2 49 0 5 [1] [0,0] ?_)
  exact⟨Iw,at_,E,none,0,none,0,⟨λh=>absurd h (by assumption),λh=>.inl h⟩,⟨hat,by simp[Iw]⟩,by simp[Iw],by omega,by simp[Iw],by omega,rfl,rfl,rfl⟩
 intro h1;try simp only[D6] at h1
 refine GC.skip (?_:GC _ _ _ _)
 refine AB ?_;refine CS (m:=18) (M:=λa w=>∃Px:LM,∃n22:Nat,∃e22:Int,∃U7:Option Addr,∃U6:Nat,∃B22:Option Addr,∃rV:Nat,∃FQ:Nat,((e22=0->JM (seg b at_ b.length)=some (Px,n22))/\(n22<=(seg b at_ b.length).length/\(e22≠0->JM (seg b at_ b.length)=none))/\(Px.data.length<=16777216/\Px.old.length<=16777216)/\Px.data.length<=U6/\U6<=9223372036854775807/\Px.old.length<=rV/\rV<=9223372036854775807)/\St c 40 [(0,.pointer (some ⟨p,0,none⟩)),(2,.pointer (some ⟨Gm,0,none⟩)),(3,.pointer (some ⟨FQ,0,none⟩)),(4,.int .i64 (n22:Int)),(5,.int .i64 e22)] [.cells p [.slice A b.length cp,.int .i64 (at_:Int),.int .i64 E] e_,.cells Gm [.int .u8 0,.int .i64 0,.int .i64 0,.slice none 0 0,.slice none 0 0] 49,.cells FQ [.int .u8 Px.kind,.int .i64 Px.at_,.int .i64 Px.n,.slice U7 Px.data.length U6,.slice B22 Px.old.length rV] 49] [D7.row Kd.u8 U7 Px.data,D7.row Kd.u8 B22 Px.old,D7.row Kd.u8 A b] a w) (is:=[0,0]) (js:=[0,1]) Ef rfl rfl rfl ?_ ?_
 ·refine AZ 0 [0,0] [0,1] ?_;refine AZ 1 [0,0] [0,1] ?_;refine AZ 2 [0,0] [0,1] ?_;refine BA 3 rfl [0,0] [0,1] (i_mem (EF (i:=1) rfl rfl G_ rfl)) ?_;refine AZ 4 [0,0] [0,1] ?_;refine AZ 5 [0,0] [0,1] ?_
  refine AZ 6 [0,0] [0,1] ?_;refine BA 7 rfl [0,0] [0,1] (i_mem (EF (i:=1) rfl rfl Ei rfl)) ?_;refine Aw [8,14] ?_
  refine E8.cons (i:=8) rfl rfl (Jk (j:=1) rfl rfl rfl rfl Tryz.underlying47 Fa (by omega) (by omega) (by omega)) (by rintro a w h;exact h.me [0,0] [1,2]) ?_ ?_
  ·refine Aw [9,14] ?_
   refine E8.cons (i:=9) rfl rfl (EI rfl Tryz.call138 rfl (is:=[]) (js:=[0]) rfl rfl (by exact Uu _ (seg b at_ b.length) _ (by rw[Gt (by omega)];omega) (by omega) (by rw[Gt (by omega)];omega))) (by rintro a w ⟨_,_,_,⟨Px,n22,e22,U7,U6,B22,rV,OW,Ol,Qi,XQ,k22,m22,p22,rfl,rfl,rfl⟩,h⟩;exact h.me [0,0] [3,4]) (GA.ret ?_) ?_
   ·rintro _ _ _ ⟨Px,n22,e22,U7,U6,B22,rV,OW,Ol,Qi,XQ,k22,m22,p22,rfl,rfl,rfl⟩
    refine AZ 10 [0,0] [3,4] ?_;refine AZ 11 [0,0] [3,4] ?_;refine AZ 12 [0,0] [3,4] ?_;refine AZ 13 [0,0] [3,4] ?_;refine Aw [14] ?_
    refine E8.cons (i:=14) rfl rfl (EH rfl Hy) (by rintro a w ⟨_,h⟩;exact h.me [1,1] [3,4]) (BZ λFQ=>?_) Ag
    refine Aw [15] ?_
    refine E8.cons (i:=15) rfl rfl (EZ (i:=0) rfl rfl rfl Qm rfl rfl rfl) (by rintro a w h;exact h.me [1,1] [3,4]) ?_ Ag
    refine AZ 16 [1,1] [3,4] ?_;refine AZ 17 [1,1] [3,4] ?_
    exact zq91_
   refine E8.cons (i:=14) rfl rfl (EH rfl Hy) (by rintro a w ⟨_,h⟩;exact h.me [1,1] [1,2]) (BZ λFQ=>?_) Ag
   refine Aw [9] ?_
   refine E8.cons (i:=9) rfl rfl (EI rfl Tryz.call138 rfl (is:=[]) (js:=[0]) rfl rfl (by exact Uu _ (seg b at_ b.length) _ (by rw[Gt (by omega)];omega) (by omega) (by rw[Gt (by omega)];omega))) (by rintro a w ⟨_,_,_,⟨Px,n22,e22,U7,U6,B22,rV,OW,Ol,Qi,XQ,k22,m22,p22,rfl,rfl,rfl⟩,h⟩;exact h.me [1,1] [3,4]) (GA.ret ?_) Ag
   rintro _ _ _ ⟨Px,n22,e22,U7,U6,B22,rV,OW,Ol,Qi,XQ,k22,m22,p22,rfl,rfl,rfl⟩
   refine AZ 10 [1,1] [3,4] ?_;refine AZ 11 [1,1] [3,4] ?_;refine AZ 12 [1,1] [3,4] ?_;refine AZ 13 [1,1] [3,4] ?_;refine Aw [15] ?_
   refine E8.cons (i:=15) rfl rfl (EZ (i:=0) rfl rfl rfl Qm rfl rfl rfl) (by rintro a w h;exact h.me [1,1] [3,4]) ?_ Ag
   refine AZ 16 [1,1] [3,4] ?_;refine AZ 17 [1,1] [3,4] ?_
   exact zq91_
  refine E8.cons (i:=14) rfl rfl (EH rfl Hy) (by rintro a w ⟨_,h⟩;exact h.me [1,1] [0,1]) (BZ λFQ=>?_) Ag
  refine Aw [8] ?_
  refine E8.cons (i:=8) rfl rfl (Jk (j:=1) rfl rfl rfl rfl Tryz.underlying47 Fa (by omega) (by omega) (by omega)) (by rintro a w h;exact h.me [1,1] [1,2]) ?_ Ag
  refine Aw [9] ?_
  refine E8.cons (i:=9) rfl rfl (EI rfl Tryz.call138 rfl (is:=[]) (js:=[0]) rfl rfl (by exact Uu _ (seg b at_ b.length) _ (by rw[Gt (by omega)];omega) (by omega) (by rw[Gt (by omega)];omega))) (by rintro a w ⟨_,_,_,⟨Px,n22,e22,U7,U6,B22,rV,OW,Ol,Qi,XQ,k22,m22,p22,rfl,rfl,rfl⟩,h⟩;exact h.me [1,1] [3,4]) (GA.ret ?_) Ag
  rintro _ _ _ ⟨Px,n22,e22,U7,U6,B22,rV,OW,Ol,Qi,XQ,k22,m22,p22,rfl,rfl,rfl⟩
  refine AZ 10 [1,1] [3,4] ?_;refine AZ 11 [1,1] [3,4] ?_;refine AZ 12 [1,1] [3,4] ?_;refine AZ 13 [1,1] [3,4] ?_;refine Aw [15] ?_
  refine E8.cons (i:=15) rfl rfl (EZ (i:=0) rfl rfl rfl Qm rfl rfl rfl) (by rintro a w h;exact h.me [1,1] [3,4]) ?_ Ag
  refine AZ 16 [1,1] [3,4] ?_;refine AZ 17 [1,1] [3,4] ?_
  exact zq91_
 refine(?_:GC _ _ _ _)
 refine BQ λPx=>BQ λn22=>BQ λe22=>BQ λU7=>BQ λU6=>BQ λB22=>BQ λrV=>BQ λFQ=>GC.and fun⟨OW,Ol,Qi,XQ,k22,m22,p22⟩=>?_;refine AX ?_
 have hq22:=Ol.1
 rw[Gt (by omega)] at hq22
 refine AA 5 ?_;refine Ad 0 ?_;refine AA 1 ?_;refine AO rfl (EU rfl rfl (Fh (by omega) (by omega))) ?_;refine AA 3 ?_;refine BI 0 ?_;refine AA 2 ?_;refine BI 0 ?_;refine Ap ?_
 refine AX ?_;refine Az 2 5 ?_;refine Ar 1 ?_;refine Ap ?_;refine GC.ret (DC 2 49 1 5 [0] [0,1] ?_)
 have e0:E=0:=by omega
 exact⟨Px,at_+n22,e22,U7,U6,B22,rV,⟨λh=>⟨e0,by rw[mopF,OW h];rfl⟩,λh=>.inr (by rw[mopF,Ol.2 h];rfl)⟩,⟨by omega,Qi.1,Qi.2⟩,XQ,k22,m22,p22,rfl,rfl,rfl⟩
theorem zq92_{X:Prop}(h:X:=by(exact BG (by kernel_rfl) (λa w h=>⟨_,_,_,_,_,_,⟨OW,Ol,XQ,k22,Qi⟩,h.cut (is:=[2,1,0]) (js:=[0,3]) ⟨rfl,rfl,rfl,rfl,rfl,trivial⟩ rfl rfl⟩))):X:=h
theorem r7re_ct(p e_:Nat)(A:Option Addr)(b:List UInt8)(cp at_:Nat)(E:Int)(hb:b.length<=cp)(Gl:cp<=9223372036854775807)(hb':b.length<=10000000000000)(hat:at_<=b.length):Ct Tryz.prog 184 [.pointer (some ⟨p,0,none⟩)] (Ju p e_ A b cp at_ E) [D7.row Kd.u8 A b]
    (λu G Q=>∃(o:J4) (t:Nat) (k:Int) (A1:Option Addr) (c1:Nat),Rd E k (qW b at_) (o,t)/\(t<=b.length/\o.data.length<=16777216)/\o.data.length<=c1/\c1<=9223372036854775807/\u=.agg #[.int .u8 o.code,.slice A1 o.data.length c1]/\G=Ju p e_ A b cp t k/\Q=[D7.row Kd.u8 A1 o.data]):=by
 refine Ct.intro Tryz.func184 rfl rfl rfl (λc hc=>?_)
 refine AX ?_;refine GL.step rfl (EH rfl Ig) (Aa λGm=>?_);refine Ap ?_;refine AB ?_;refine AX ?_;refine GL.know (q:=D7.row Kd.u8 none []) (λ_ _ _=>.inl rfl) ?_;refine AA 3 ?_
 refine Ad 1 ?_;refine AL 1 ?_;refine Af ?_ ?_
 ·intro h1;try simp only[D6] at h1
  refine AX ?_;refine AO rfl (ED Ig OU rfl rfl) ?_;refine Ar 0 ?_;refine Ap ?_;refine GC.ret (DC 2 52 0 2 [1] [0] ?_)
  exact⟨rz,at_,E,none,0,⟨λh=>absurd h (by assumption),λh=>.inl h⟩,⟨hat,by simp[rz]⟩,by simp[rz],by omega,rfl,rfl,rfl⟩
 intro h1;try simp only[D6] at h1
 refine GC.skip (?_:GC _ _ _ _)
 refine AB ?_;refine CS (m:=18) (M:=λa w=>∃Px:J4,∃n22:Nat,∃e22:Int,∃U7:Option Addr,∃U6:Nat,∃FQ:Nat,((e22=0->Hw (seg b at_ b.length)=some (Px,n22))/\(n22<=(seg b at_ b.length).length/\(e22≠0->Hw (seg b at_ b.length)=none))/\Px.data.length<=U6/\U6<=9223372036854775807/\Px.data.length<=16777216)/\St c 40 [(0,.pointer (some ⟨p,0,none⟩)),(2,.pointer (some ⟨Gm,0,none⟩)),(3,.pointer (some ⟨FQ,0,none⟩)),(4,.int .i64 (n22:Int)),(5,.int .i64 e22)] [.cells p [.slice A b.length cp,.int .i64 (at_:Int),.int .i64 E] e_,.cells Gm [.int .u8 0,.slice none 0 0] 52,.cells FQ [.int .u8 Px.code,.slice U7 Px.data.length U6] 52] [D7.row Kd.u8 U7 Px.data,D7.row Kd.u8 A b] a w) (is:=[0,0]) (js:=[0,1]) Ef rfl rfl rfl ?_ ?_
 ·refine AZ 0 [0,0] [0,1] ?_;refine AZ 1 [0,0] [0,1] ?_;refine AZ 2 [0,0] [0,1] ?_;refine BA 3 rfl [0,0] [0,1] (i_mem (EF (i:=1) rfl rfl G_ rfl)) ?_;refine AZ 4 [0,0] [0,1] ?_;refine AZ 5 [0,0] [0,1] ?_
  refine AZ 6 [0,0] [0,1] ?_;refine BA 7 rfl [0,0] [0,1] (i_mem (EF (i:=1) rfl rfl Ei rfl)) ?_;refine Aw [8,14] ?_
  refine E8.cons (i:=8) rfl rfl (Jk (j:=1) rfl rfl rfl rfl Tryz.underlying47 Fa (by omega) (by omega) (by omega)) (by rintro a w h;exact h.me [0,0] [1,2]) ?_ ?_
  ·refine Aw [9,14] ?_
   refine E8.cons (i:=9) rfl rfl (EI rfl Tryz.call139 rfl (is:=[]) (js:=[0]) rfl rfl (by exact RV _ (seg b at_ b.length) _ (by rw[Gt (by omega)];omega) (by omega) (by rw[Gt (by omega)];omega))) (by rintro a w ⟨_,_,_,⟨Px,n22,e22,U7,U6,OW,Ol,Qi,XQ,k22,rfl,rfl,rfl⟩,h⟩;exact h.me [0,0] [2,3]) (GA.ret ?_) ?_
   ·rintro _ _ _ ⟨Px,n22,e22,U7,U6,OW,Ol,Qi,XQ,k22,rfl,rfl,rfl⟩
    refine AZ 10 [0,0] [2,3] ?_;refine AZ 11 [0,0] [2,3] ?_;refine AZ 12 [0,0] [2,3] ?_;refine AZ 13 [0,0] [2,3] ?_;refine Aw [14] ?_
    refine E8.cons (i:=14) rfl rfl (EH rfl Ig) (by rintro a w ⟨_,h⟩;exact h.me [1,1] [2,3]) (BZ λFQ=>?_) Ag
    refine Aw [15] ?_
    refine E8.cons (i:=15) rfl rfl (EZ (i:=0) rfl rfl rfl KI rfl rfl rfl) (by rintro a w h;exact h.me [1,1] [2,3]) ?_ Ag
    refine AZ 16 [1,1] [2,3] ?_;refine AZ 17 [1,1] [2,3] ?_
    exact zq92_
   refine E8.cons (i:=14) rfl rfl (EH rfl Ig) (by rintro a w ⟨_,h⟩;exact h.me [1,1] [1,2]) (BZ λFQ=>?_) Ag
   refine Aw [9] ?_
   refine E8.cons (i:=9) rfl rfl (EI rfl Tryz.call139 rfl (is:=[]) (js:=[0]) rfl rfl (by exact RV _ (seg b at_ b.length) _ (by rw[Gt (by omega)];omega) (by omega) (by rw[Gt (by omega)];omega))) (by rintro a w ⟨_,_,_,⟨Px,n22,e22,U7,U6,OW,Ol,Qi,XQ,k22,rfl,rfl,rfl⟩,h⟩;exact h.me [1,1] [2,3]) (GA.ret ?_) Ag
   rintro _ _ _ ⟨Px,n22,e22,U7,U6,OW,Ol,Qi,XQ,k22,rfl,rfl,rfl⟩
   refine AZ 10 [1,1] [2,3] ?_;refine AZ 11 [1,1] [2,3] ?_;refine AZ 12 [1,1] [2,3] ?_;refine AZ 13 [1,1] [2,3] ?_;refine Aw [15] ?_
   refine E8.cons (i:=15) rfl rfl (EZ (i:=0) rfl rfl rfl KI rfl rfl rfl) (by rintro a w h;exact h.me [1,1] [2,3]) ?_ Ag
   refine AZ 16 [1,1] [2,3] ?_;refine AZ 17 [1,1] [2,3] ?_
   exact zq92_
  refine E8.cons (i:=14) rfl rfl (EH rfl Ig) (by rintro a w ⟨_,h⟩;exact h.me [1,1] [0,1]) (BZ λFQ=>?_) Ag
  refine Aw [8] ?_
  refine E8.cons (i:=8) rfl rfl (Jk (j:=1) rfl rfl rfl rfl Tryz.underlying47 Fa (by omega) (by omega) (by omega)) (by rintro a w h;exact h.me [1,1] [1,2]) ?_ Ag
  refine Aw [9] ?_
  refine E8.cons (i:=9) rfl rfl (EI rfl Tryz.call139 rfl (is:=[]) (js:=[0]) rfl rfl (by exact RV _ (seg b at_ b.length) _ (by rw[Gt (by omega)];omega) (by omega) (by rw[Gt (by omega)];omega))) (by rintro a w ⟨_,_,_,⟨Px,n22,e22,U7,U6,OW,Ol,Qi,XQ,k22,rfl,rfl,rfl⟩,h⟩;exact h.me [1,1] [2,3]) (GA.ret ?_) Ag
  rintro _ _ _ ⟨Px,n22,e22,U7,U6,OW,Ol,Qi,XQ,k22,rfl,rfl,rfl⟩
  refine AZ 10 [1,1] [2,3] ?_;refine AZ 11 [1,1] [2,3] ?_;refine AZ 12 [1,1] [2,3] ?_;refine AZ 13 [1,1] [2,3] ?_;refine Aw [15] ?_
  refine E8.cons (i:=15) rfl rfl (EZ (i:=0) rfl rfl rfl KI rfl rfl rfl) (by rintro a w h;exact h.me [1,1] [2,3]) ?_ Ag
  refine AZ 16 [1,1] [2,3] ?_;refine AZ 17 [1,1] [2,3] ?_
  exact zq92_
 refine(?_:GC _ _ _ _)
 refine BQ λPx=>BQ λn22=>BQ λe22=>BQ λU7=>BQ λU6=>BQ λFQ=>GC.and fun⟨OW,Ol,XQ,k22,rV⟩=>?_;refine AX ?_
 have hq22:=Ol.1
 rw[Gt (by omega)] at hq22
 refine AA 5 ?_;refine Ad 0 ?_;refine AA 1 ?_;refine AO rfl (EU rfl rfl (Fh (by omega) (by omega))) ?_;refine AA 3 ?_;refine BI 0 ?_;refine AA 2 ?_;refine BI 0 ?_;refine Ap ?_
 refine AX ?_;refine Az 2 2 ?_;refine Ar 1 ?_;refine Ap ?_;refine GC.ret (DC 2 52 1 2 [0] [0] ?_)
 have e0:E=0:=by omega
 exact⟨Px,at_+n22,e22,U7,U6,⟨λh=>⟨e0,by rw[qW,OW h];rfl⟩,λh=>.inr (by rw[qW,Ol.2 h];rfl)⟩,⟨by omega,rV⟩,XQ,k22,rfl,rfl,rfl⟩
theorem Rd.congr{α:Type}{E k:Int}{f f':Option α}{r:α}(h:Rd E k f r)(he:E=0->f=f'):Rd E k f' r :=
 ⟨λh0=>by obtain⟨a,b⟩:=h.1 h0;exact⟨a,by rw[<-he a];exact b⟩,λh0=>by
  by_cases hE:E=0
  ·exact(h.2 h0).imp id λg=>by rw[<-he hE];exact g
  ·exact .inl hE⟩
theorem wrap8{v:Int}(h:0<=v)(h':v<256):IntKind.u8.wrap v=v:=by
 simp[IntKind.wrap,IntKind.bits,IntKind.signed];omega
theorem Rd.same{α:Type}{E:Int}(r:α):Rd E E (some r) r:=⟨λh=>⟨h,rfl⟩,λh=>.inl h⟩
theorem QT{b:List UInt8}{v1 v2 v3 v4 v5 k1 k2 k3 k4 k5 E1 E2:Int}{t1 t2 t3 t4 t5 t:Nat}{e:Entry}(h1:Rd 0 k1 (FU b 0 1) (v1,t1))(h2:Rd k1 k2 (FU b t1 8) (v2,t2))(h3:Rd k2 k3 (FU b t2 8) (v3,t3))(h4:Rd k3 k4 (FU b t3 8) (v4,t4))(h5:Rd k4 k5 (FU b t4 8) (v5,t5))
  (hB:Rd k5 E1 (KA b (IntKind.u8.wrap v1) v2 v3 v4 v5 t5) (e,t)) (hC:Rd E1 E2 (Py (e,t)) (e,t)):Rd 0 E2 (Gf b 0) (e,t):=by
 unfold Gf
 refine Rd.bind h1 (Rd.bind h2 (Rd.bind h3 (Rd.bind h4 (Rd.bind h5 (Rd.bind (hB.congr λh=>?_) hC)))))
 have f1:=(h1.1 (h2.1 (h3.1 (h4.1 (h5.1 h).1).1).1).1).2
 have f2:=Jm f1 (by omega)
 have f3:=(ER f1).2.2.2.2
 have p1:(256:Nat) ^ 1=256:=Gp
 rw[wrap8 f2 (by omega)]
theorem Rx{e:Entry}{t:Nat}{E1 E2:Int}(h:(E1≠0/\E2=E1)\/(E1=0/\Oy e=0/\E2=0)\/(Oy e≠0/\E2≠0)):Rd E1 E2 (Py (e,t)) (e,t):=by
 rcases h with⟨h1,rfl⟩|⟨h1,h2,rfl⟩|⟨h1,h2⟩
 ·exact⟨λh=>absurd h h1,λh=>.inl h⟩
 ·exact⟨λ_=>⟨h1,if_pos h2⟩,λh=>absurd rfl h⟩
 ·exact⟨λh=>absurd h h2,λ_=>.inr (if_neg h1)⟩
theorem mentB_op{b:List UInt8}{k n v c s:Int}{t:Nat}(h:k=1):KA b k n v c s t=(mopF b t).map λo=>((⟨k,n,v,c,s,o.1,Le⟩:Entry),o.2):=by
 rw[KA,if_pos h,mopF]
 cases JM (seg b t b.length)<;>rfl
abbrev EntOf(e:Entry)(x:Lie):Prop:=Lp e/\e.op.data.length<=x.c1/\x.c1<=9223372036854775807/\e.op.old.length<=x.c2/\x.c2<=9223372036854775807/\e.grp.members.length<=x.c4/\x.c4<=9223372036854775807
theorem zq93_{X:Prop}(h:X:=by(first|exact⟨ZF,0,E1,none,0,none,0,none,0,⟨λh=>absurd h (by omega),λh=>((hR E1 (.inl ⟨h,rfl⟩)).2 h).resolve_left (λh=>h rfl)⟩,⟨by omega,⟨by simp[ZF,Iw],by simp[ZF,Iw],by simp[ZF,Le]⟩⟩,by simp[ZF,Iw],by omega,by simp[ZF,Iw],by omega,by simp[ZF,Le],by omega,rfl,rfl,rfl⟩|exact⟨ZF,0,42,none,0,none,0,none,0,⟨λh=>absurd h (by decide),λh=>((hR 42 (.inr (.inr ⟨by assumption,by decide⟩))).2 h).resolve_left (λh=>h rfl)⟩,⟨by omega,⟨by simp[ZF,Iw],by simp[ZF,Iw],by simp[ZF,Le]⟩⟩,by simp[ZF,Iw],by omega,by simp[ZF,Iw],by omega,by simp[ZF,Le],by omega,rfl,rfl,rfl⟩)):X:=h
theorem zq94_{X:Prop}(h:X:=by(exact⟨e,t,0,x.a1,x.c1,x.a2,x.c2,x.a4,x.c4,⟨λ_=>((QT hs11 Fj hs18 Gx hs24 hJ1 (Rx (E2:=0) (.inr (.inl ⟨e1,by omega,rfl⟩)))).1 rfl).2,λh=>absurd rfl h⟩,⟨hJ3,hJ2.1⟩,hJ2.2.1,hJ2.2.2.1,hJ2.2.2.2.1,hJ2.2.2.2.2.1,hJ2.2.2.2.2.2.1,hJ2.2.2.2.2.2.2,rfl,rfl,rfl⟩)):X:=h
theorem r7ent_ct(A:Option Addr)(b:List UInt8)(cp:Nat)(hb:b.length<=cp)(Gl:cp<=9223372036854775807)(hb':b.length<=10000000000000):Ct Tryz.prog 142 [.slice A b.length cp] [] [D7.row Kd.u8 A b]
    (λu G Q=>∃(e:Entry) (n:Nat) (k:Int) (A:Option Addr) (cp:Nat) (B:Option Addr) (cq:Nat) (C:Option Addr) (cr:Nat),((k=0->Gf b 0=some (e,n))/\(k≠0->Gf b 0=none))/\(n<=b.length/\Lp e)/\e.op.data.length<=cp/\cp<=9223372036854775807/\e.op.old.length<=cq/\cq<=9223372036854775807/\e.grp.members.length<=cr/\cr<=9223372036854775807/\u=.tuple #[Wj e A cp B cq C cr,.int .i64 (n:Int),.int .i64 k]/\G=[]/\Q=Wn e A B C):=by
 refine Ct.intro Tryz.func142 rfl rfl rfl (λc hc=>?_)
 refine AX ?_;refine GL.step rfl (EH rfl Ia) (Aa λGm=>?_);refine AL 2 ?_;refine AX ?_;refine GL.know (q:=D7.row Kd.u8 none []) (λ_ _ _=>.inl rfl) ?_;refine GL.know (q:=D7.row kI none []) (λ_ _ _=>.inl rfl) ?_
 refine AA 1 ?_;refine AO rfl (ED ze_264 of_264 rfl rfl) ?_;refine GL.step rfl (Ee rfl rfl rfl) (Aa λdF=>?_);refine AL 1 ?_;refine AV 1 ?_;refine Ah Tryz.call182 [0] [2] rfl rfl rfl (by exact Hr _ _ _ b _ 0 0 1 (by omega) (by omega) (by omega) (by omega) (by omega)) ?_
 rintro _ _ _ ⟨v11,t11,k11,hs11,⟨ht11,hv11,hw11⟩,rfl,rfl,rfl⟩
 refine AO rfl (EO (t:=3) (r:=IntKind.u8.wrap v11) (by rw[Tryz.underlying3];simp) Tryz.underlying95 rfl rfl) ?_;refine AO rfl (ED Ia Qo rfl rfl) ?_;refine GL.step rfl (EH rfl Ia) (Aa λKr=>?_)
 refine Ar 0 ?_;refine BL 1 ?_;refine Ah Tryz.call182 [1] [2] rfl rfl rfl (by exact Hr _ _ _ b _ t11 k11 8 (by omega) (by omega) (by omega) (by omega) (by omega)) ?_
 rintro _ _ _ ⟨v15,t15,k15,Fj,⟨au,aj,ah⟩,rfl,rfl,rfl⟩
 refine AA 1 ?_;refine BI 1 ?_;refine BL 1 ?_;refine Ah Tryz.call182 [0] [2] rfl rfl rfl (by exact Hr _ _ _ b _ t15 k15 8 (by omega) (by omega) (by omega) (by omega) (by omega)) ?_
 rintro _ _ _ ⟨v18,t18,k18,hs18,⟨ht18,hv18,hw18⟩,rfl,rfl,rfl⟩
 refine AA 1 ?_;refine BI 1 ?_;refine BL 1 ?_;refine Ah Tryz.call182 [0] [2] rfl rfl rfl (by exact Hr _ _ _ b _ t18 k18 8 (by omega) (by omega) (by omega) (by omega) (by omega)) ?_
 rintro _ _ _ ⟨v21,t21,k21,Gx,⟨WC,WB,aZ⟩,rfl,rfl,rfl⟩
 refine AA 1 ?_;refine BI 1 ?_;refine BL 1 ?_;refine Ah Tryz.call182 [0] [2] rfl rfl rfl (by exact Hr _ _ _ b _ t21 k21 8 (by omega) (by omega) (by omega) (by omega) (by omega)) ?_
 rintro _ _ _ ⟨v24,t24,k24,hs24,⟨ht24,hv24,hw24⟩,rfl,rfl,rfl⟩
 refine AA 1 ?_;refine BI 1 ?_;refine Ap ?_;refine Cm (ks:=(up 2 5)) (is:=[2]) (js:=[0,1,2]) (fun(e:Entry) (t:Nat) (E1:Int) (x:Lie)=>Rd k24 E1 (KA b (IntKind.u8.wrap v11) v15 v18 v21 v24 t24) (e,t)/\EntOf e x/\t<=b.length) (fun(e:Entry) (t:Nat) (E1:Int) (x:Lie)=>[]) (fun(e:Entry) (t:Nat) (E1:Int) (x:Lie)=>[.cells dF [.slice A b.length cp,.int .i64 (t:Int),.int .i64 E1] 264,.cells Kr [.int .u8 e.kind,.int .i64 e.num,.int .i64 e.view,.int .i64 e.client,.int .i64 e.serial,.int .u8 e.op.kind,.int .i64 e.op.at_,.int .i64 e.op.n,.slice x.a1 e.op.data.length x.c1,.slice x.a2 e.op.old.length x.c2,.int .i64 e.grp.epoch,.slice x.a4 e.grp.members.length x.c4] 97]) (fun(e:Entry) (t:Nat) (E1:Int) (x:Lie)=>[D7.row Kd.u8 x.a1 e.op.data,D7.row Kd.u8 x.a2 e.op.old,D7.row kI x.a4 e.grp.members]) rfl rfl rfl ?_ ?_
 ·refine AV 1 ?_;refine Ad 1 ?_;refine Ap ?_;refine GC.block ?_;refine AP 2 ?_;refine Af ?_ ?_
  ·intro h1;try simp only[D6] at h1
   refine GC.region ?_;refine AA 1 ?_;refine Ah Tryz.call186 [0] [2] rfl rfl rfl (by exact r7op_ct _ _ _ b _ t24 k24 (by omega) (by omega) (by omega) (by omega)) ?_
   rintro _ _ _ ⟨o31,t31,k31,A31,c31,B31,d31,hs31,⟨ht31,hd31,hf31⟩,l31,m31,n31,p31,rfl,rfl,rfl⟩
   refine AA 1 ?_;refine Ar 1 ?_;refine Ac ?_
   exact λa w h=>⟨(⟨IntKind.u8.wrap v11,v15,v18,v21,v24,o31,Le⟩),(t31),(k31),(⟨A31,c31,B31,d31,none,0,none,0,none,0,none,0,none,0,none,0⟩),⟨by rw[mentB_op (by assumption)];exact Rd.map (λo:LM×Nat=>((⟨IntKind.u8.wrap v11,v15,v18,v21,v24,o.1,Le⟩:Entry),o.2)) hs31,⟨⟨by unfold KQ;dsimp only;omega,by unfold KQ;dsimp only;omega,by simp[Le]⟩,l31,m31,n31,p31,by simp[Le],Nat.zero_le _⟩,ht31⟩,h.ct [0,0,0] [0,1,2,2,3,4]⟩
  intro h1;try simp only[D6] at h1
  refine AP 2 ?_;refine Af ?_ ?_
  ·intro h2;try simp only[D6] at h2
   refine GC.region ?_;refine AA 1 ?_;refine Ah Tryz.call185 [0] [2] rfl rfl rfl (by exact kR _ _ _ b _ t24 k24 (by omega) (by omega) (by omega)) ?_
   rintro _ _ _ ⟨g36,t36,k36,A36,c36,hs36,⟨ht36,hg36⟩,l36,m36,rfl,rfl,rfl⟩
   refine AA 1 ?_;refine Ar 1 ?_;refine Ac ?_
   exact λa w h=>⟨(⟨IntKind.u8.wrap v11,v15,v18,v21,v24,Iw,g36⟩),(t36),(k36),(⟨none,0,none,0,none,0,A36,c36,none,0,none,0,none,0,none,0⟩),⟨by rw[KA,if_neg (by assumption),if_pos (by assumption)];exact Rd.map (λg:Ld×Nat=>((⟨IntKind.u8.wrap v11,v15,v18,v21,v24,Iw,g.1⟩:Entry),g.2)) hs36,⟨⟨by simp[Iw],by simp[Iw],by dsimp only;omega⟩,by simp[Iw],Nat.zero_le _,by simp[Iw],Nat.zero_le _,l36,m36⟩,ht36⟩,h.cut (is:=[0,0,0]) (js:=[2,2,0,1,2,3]) ⟨rfl,rfl,rfl,rfl,rfl,trivial⟩ rfl rfl⟩
  intro h2;try simp only[D6] at h2
  refine GC.skip ?_
  exact λa w h=>⟨(⟨IntKind.u8.wrap v11,v15,v18,v21,v24,Iw,Le⟩),(t24),(k24),(⟨none,0,none,0,none,0,none,0,none,0,none,0,none,0,none,0⟩),⟨by rw[KA,if_neg (by assumption),if_neg (by assumption)];exact Rd.same _,⟨⟨by simp[Iw],by simp[Iw],by simp[Le]⟩,by simp[Iw],Nat.zero_le _,by simp[Iw],Nat.zero_le _,by simp[Le],Nat.zero_le _⟩,ht24⟩,h.cut (is:=[0,0,0]) (js:=[1,1,0,0,1,2]) ⟨rfl,rfl,rfl,rfl,rfl,trivial⟩ rfl rfl⟩
 intro e t E1 x hJ
 try dsimp only[List.cons_append,List.nil_append] at hJ ⊢
 obtain⟨hJ1,hJ2,hJ3⟩:=hJ
 refine AB ?_;refine AV 3 ?_;refine Ad 0 ?_;refine AA 2 ?_;refine Ak 43 ?_ ?_
 ·intro h3;try simp only[D6] at h3
  refine BX 1 12 ?_;refine Au rfl (s:=43) rfl rfl (EI rfl Tryz.call172 rfl (is:=[]) (js:=[0,1,2]) rfl rfl (by exact Ut e _ _ _ _ _ _ hJ2.1)) (GL.ret ?_)
  rintro _ _ _ ⟨rfl,rfl,rfl⟩
  refine AL 2 ?_;refine Af ?_ ?_
  ·intro h4;try simp only[D6] at h4
   refine GC.region ?_;refine AA 3 ?_;refine BI 0 ?_
   refine Ac (?_:GC _ _ _ _)
   refine AB ?_;refine AV 3 ?_;refine Ad 0 ?_;refine AL 1 ?_;refine AU rfl ?_;refine AB ?_;refine BF (m:=8) (is:=[0,0]) (js:=(up 0 6)) Ef rfl rfl rfl ?_;refine BA 0 rfl [0,0] (up 0 6) (EK (ED Ia Qo rfl rfl)) ?_
   refine AZ 1 [0,0] (up 0 6) ?_;refine AZ 2 [0,0] (up 0 6) ?_;refine AZ 3 [0,0] (up 0 6) ?_;refine BA 4 rfl [0,0] (up 0 6) (i_mem (EF (i:=0) rfl rfl JC rfl)) ?_;refine Aw [5] ?_
   refine E8.cons (i:=5) rfl rfl (EZ (i:=2) rfl rfl rfl F9 rfl rfl rfl) (by rintro a w h;exact h.me [0,0] (up 0 6)) ?_ Ag
   refine AZ 6 [0,0] (up 0 6) ?_;refine AZ 7 [0,0] (up 0 6) ?_
   refine BG (by kernel_rfl) (?_:GC _ _ _ _)
   refine GC.ret (Fin.c2 2 97 3 4 2 12 [] [4,4,3] ?_)
   have hR:∀E2,((E1≠0/\E2=E1)\/(E1=0/\Oy e=0/\E2=0)\/(Oy e≠0/\E2≠0))->Rd 0 E2 (Gf b 0) (e,t):=λE2 h=>QT hs11 Fj hs18 Gx hs24 hJ1 (Rx h)
   exact zq93_
  intro h4;try simp only[D6] at h4
  refine GC.skip (?_:GC _ _ _ _)
  refine AB ?_;refine AV 3 ?_;refine Ad 0 ?_;refine AL 1 ?_;refine Af ?_ ?_
  ·intro h5;try simp only[D6] at h5
   refine AB ?_;refine BF (m:=8) (is:=[0,0]) (js:=(up 0 6)) Ef rfl rfl rfl ?_;refine BA 0 rfl [0,0] (up 0 6) (EK (ED Ia Qo rfl rfl)) ?_;refine AZ 1 [0,0] (up 0 6) ?_;refine AZ 2 [0,0] (up 0 6) ?_
   refine AZ 3 [0,0] (up 0 6) ?_;refine BA 4 rfl [0,0] (up 0 6) (i_mem (EF (i:=0) rfl rfl JC rfl)) ?_;refine Aw [5] ?_
   refine E8.cons (i:=5) rfl rfl (EZ (i:=2) rfl rfl rfl F9 rfl rfl rfl) (by rintro a w h;exact h.me [0,0] (up 0 6)) ?_ Ag
   refine AZ 6 [0,0] (up 0 6) ?_;refine AZ 7 [0,0] (up 0 6) ?_
   refine BG (by kernel_rfl) (?_:GC _ _ _ _)
   refine GC.ret (Fin.c2 2 97 3 4 2 12 [] [4,4,3] ?_)
   have hR:∀E2,((E1≠0/\E2=E1)\/(E1=0/\Oy e=0/\E2=0)\/(Oy e≠0/\E2≠0))->Rd 0 E2 (Gf b 0) (e,t):=λE2 h=>QT hs11 Fj hs18 Gx hs24 hJ1 (Rx h)
   exact zq93_
  intro h5;try simp only[D6] at h5
  refine GC.skip (?_:GC _ _ _ _)
  refine AB ?_;refine BF (m:=8) (is:=[0,0]) (js:=(up 0 6)) Ef rfl rfl rfl ?_;refine BA 0 rfl [0,0] (up 0 6) (i_mem (G7 (i:=1) rfl rfl Ku (vs:=[_,_,_,_,_,_,_,_,_,_,_,_]) F9 ⟨rfl,rfl,rfl,rfl,rfl,rfl,rfl,rfl,rfl,rfl,rfl,rfl,trivial⟩)) ?_
  refine AZ 1 [0,0] (up 0 6) ?_;refine AZ 2 [0,0] (up 0 6) ?_;refine AZ 3 [0,0] (up 0 6) ?_;refine BA 4 rfl [0,0] (up 0 6) (i_mem (EF (i:=0) rfl rfl Ei rfl)) ?_;refine Aw [5] ?_
  refine E8.cons (i:=5) rfl rfl (EZ (i:=2) rfl rfl rfl F9 rfl rfl rfl) (by rintro a w h;exact h.me [0,0] (up 0 6)) ?_ Ag
  refine AZ 6 [0,0] (up 0 6) ?_;refine AZ 7 [0,0] (up 0 6) ?_
  refine BG (by kernel_rfl) (?_:GC _ _ _ _)
  refine GC.ret (Fin.c2 2 97 3 4 2 12 [] [0,1,2] ?_)
  have e1:E1=0:=by omega
  exact zq94_
 intro h3;try simp only[D6] at h3
 refine AL 4 ?_;refine AY rfl ?_
 refine GC.skip (?_:GC _ _ _ _)
 refine AB ?_;refine AV 3 ?_;refine Ad 0 ?_;refine AL 1 ?_;refine Af ?_ ?_
 ·intro h6;try simp only[D6] at h6
  refine AB ?_;refine BF (m:=8) (is:=[0,0]) (js:=(up 0 6)) Ef rfl rfl rfl ?_;refine BA 0 rfl [0,0] (up 0 6) (EK (ED Ia Qo rfl rfl)) ?_;refine AZ 1 [0,0] (up 0 6) ?_;refine AZ 2 [0,0] (up 0 6) ?_
  refine AZ 3 [0,0] (up 0 6) ?_;refine BA 4 rfl [0,0] (up 0 6) (i_mem (EF (i:=0) rfl rfl JC rfl)) ?_;refine Aw [5] ?_
  refine E8.cons (i:=5) rfl rfl (EZ (i:=2) rfl rfl rfl F9 rfl rfl rfl) (by rintro a w h;exact h.me [0,0] (up 0 6)) ?_ Ag
  refine AZ 6 [0,0] (up 0 6) ?_;refine AZ 7 [0,0] (up 0 6) ?_
  refine BG (by kernel_rfl) (?_:GC _ _ _ _)
  refine GC.ret (Fin.c2 2 97 3 4 2 12 [] [4,4,3] ?_)
  have hR:∀E2,((E1≠0/\E2=E1)\/(E1=0/\Oy e=0/\E2=0)\/(Oy e≠0/\E2≠0))->Rd 0 E2 (Gf b 0) (e,t):=λE2 h=>QT hs11 Fj hs18 Gx hs24 hJ1 (Rx h)
  exact zq93_
 intro h6;try simp only[D6] at h6
 refine GC.skip (?_:GC _ _ _ _)
 refine AB ?_;refine BF (m:=8) (is:=[0,0]) (js:=(up 0 6)) Ef rfl rfl rfl ?_;refine BA 0 rfl [0,0] (up 0 6) (i_mem (G7 (i:=1) rfl rfl Ku (vs:=[_,_,_,_,_,_,_,_,_,_,_,_]) F9 ⟨rfl,rfl,rfl,rfl,rfl,rfl,rfl,rfl,rfl,rfl,rfl,rfl,trivial⟩)) ?_
 refine AZ 1 [0,0] (up 0 6) ?_;refine AZ 2 [0,0] (up 0 6) ?_;refine AZ 3 [0,0] (up 0 6) ?_;refine BA 4 rfl [0,0] (up 0 6) (i_mem (EF (i:=0) rfl rfl Ei rfl)) ?_;refine Aw [5] ?_
 refine E8.cons (i:=5) rfl rfl (EZ (i:=2) rfl rfl rfl F9 rfl rfl rfl) (by rintro a w h;exact h.me [0,0] (up 0 6)) ?_ Ag
 refine AZ 6 [0,0] (up 0 6) ?_;refine AZ 7 [0,0] (up 0 6) ?_
 refine BG (by kernel_rfl) (?_:GC _ _ _ _)
 refine GC.ret (Fin.c2 2 97 3 4 2 12 [] [0,1,2] ?_)
 have e1:E1=0:=by omega
 exact zq94_
abbrev Mn{α σ:Type}(f:σ->Option (α×σ))(k0 E1:Int)(t0:σ)(k m:Nat)(xs:List α)(t:σ):Prop:=(E1=0->k0=0/\Fq f t0 k=some (xs,t))/\(E1≠0->k0≠0\/Fq f t0 m=none)
theorem U1{α σ:Type}{f:σ->Option (α×σ)}{k0 E1 E2:Int}{t0 t u:σ}{k m:Nat}{xs:List α}{x:α}(e1:E1=0)(h:Mn f k0 E1 t0 k m xs t)(h2:Rd E1 E2 (f t) (x,u))(hm:k<m):Mn f k0 E2 t0 (k+1) m (xs++[x]) u :=
 ⟨λh0=>⟨(h.1 e1).1,J6 (h.1 e1).2 (h2.1 h0).2⟩,λh0=>(h2.2 h0).elim (λg=>absurd e1 g) λg=>.inr (FV (h.1 e1).2 g hm)⟩
theorem Ym{α σ:Type}{f:σ->Option (α×σ)}{k0 E1 v:Int}{B:Int}{t0 t:σ}{k m:Nat}{xs:List α}(hc:k0=0->0<=v/\v<B)(h:Mn f k0 E1 t0 k m xs t)(e1:E1=0)(hk:(k:Int)<v):k+1=0\/(((k+1:Nat):Int)<=v/\v<B):=by
 have:=hc (h.1 e1).1;omega
theorem Yn{α σ:Type}{f:σ->Option (α×σ)}{k0 E1 v B:Int}{t0 t:σ}{k:Nat}{xs:List α}(hc:k0=0->0<=v/\v<B)(hb:k=0\/((k:Int)<=v/\v<B))(h:Mn f k0 E1 t0 k v.toNat xs t)(hx:E1=0->v<=(k:Int)):Rd k0 E1 (Fq f t0 v.toNat) (xs,t) :=
 ⟨λh0=>by obtain⟨f1,f2⟩:=h.1 h0;have:=hc f1;have:=hx h0;rw[show v.toNat=k by omega];exact⟨f1,f2⟩,h.2⟩
theorem lT{b:List UInt8}{E k v:Int}{at_ n t:Nat}(h:Rd E k (FU b at_ n) (v,t))(hn:n<=7)(h0:k=0):0<=v/\v<((256 ^ n:Nat):Int):=by
 have f:=(h.1 h0).2
 have:=Jm f hn
 have:=(ER f).2.2.2.2
 omega
theorem mrow_rd{b:List UInt8}{E1 k1 k2 k3 c s:Int}{t t1 t2 t3:Nat}{o:J4}(h1:Rd E1 k1 (FU b t 8) (c,t1))(h2:Rd k1 k2 (FU b t1 8) (s,t2))(h3:Rd k2 k3 (qW b t2) (o,t3)):Rd E1 k3 (JW b t) ((⟨c,s,o⟩:Row),t3):=by
 unfold JW
 refine Rd.bind h1 (Rd.bind h2 ?_)
 have:(Hw (seg b t2 b.length)).map (λr=>((⟨c,s,r.1⟩:Row),t2+r.2))=(qW b t2).map λr=>((⟨c,s,r.1⟩:Row),r.2):=by
  unfold qW;cases Hw (seg b t2 b.length)<;>rfl
 show Rd k2 k3 ((Hw (seg b t2 b.length)).map (λr=>((⟨c,s,r.1⟩:Row),t2+r.2))) _
 rw[this]
 exact Rd.map (λr:J4×Nat=>((⟨c,s,r.1⟩:Row),r.2)) h3
theorem mpg_rd{b:List UInt8}{E1 k1 k2 k3 a v:Int}{t t1 t2 t3:Nat}{x:List UInt8}(h1:Rd E1 k1 (FU b t 4) (a,t1))(h2:Rd k1 k2 (FU b t1 8) (v,t2))(h3:Rd k2 k3 (Rt b t2) (x,t3)):Rd E1 k3 (KE b t) ((⟨a,v,x⟩:F5),t3):=by
 unfold KE
 exact Rd.bind h1 (Rd.bind h2 (Rd.map (λr:List UInt8×Nat=>((⟨a,v,r.1⟩:F5),r.2)) h3))
theorem mstC_rd{s:I4}{t:Nat}{E1 E2:Int}(h:(E1≠0/\E2=E1)\/(E1=0/\YJ s=0/\(t:Int)<=33554432/\E2=0)\/((YJ s≠0\/33554432<(t:Int))/\E2≠0)):Rd E1 E2 (iC (s,t)) (s,t):=by
 have hs:YJ s=0↔Gj s:=by rw[Es]
 rcases h with⟨h1,rfl⟩|⟨h1,h2,h3,rfl⟩|⟨h1,h2⟩
 ·exact⟨λh=>absurd h h1,λh=>.inl h⟩
 ·exact⟨λ_=>⟨h1,if_pos ⟨hs.1 h2,by dsimp only;omega⟩⟩,λh=>absurd rfl h⟩
 ·exact⟨λh=>absurd h h2,λ_=>.inr (if_neg (λhh=>h1.elim (λg=>g (hs.2 hh.1)) (λg=>by have:=hh.2;dsimp only at this;omega)))⟩
theorem zq95_{X:Prop}(h:X:=by(exact λa w h=>⟨(ps),(V),(cs),((t,E1)),⟨Yn hc27 hk.2.1 hk.2.2.1 (by omega),by dsimp only;omega,by have:=hk.1.1;have:=hk.2.1;omega,hk.2.2.2⟩,h.ct [0,0,0,0] (up 0 5)⟩)):X:=h
theorem zq96_{X:Prop}(h:X:=by(exact λa w h=>⟨(rs),(V),(cs),((t,E1)),⟨Yn hc56 hj.2.1 hj.2.2.1 (by omega),by dsimp only;omega,by have:=hj.1.1;have:=hj.2.1;omega,hj.2.2.2⟩,h.ct [0,0,0,0] (up 0 6)⟩)):X:=h
theorem U9{X:Prop}(h:X:=by(first|exact⟨PI,0,k85,none,0,none,0,none,0,⟨λh=>absurd h (by omega),λh=>((hR k85 (.inl ⟨h,rfl⟩)).2 h).resolve_left (λh=>h rfl)⟩,by omega,U8,rfl,rfl,rfl⟩|exact⟨PI,0,42,none,0,none,0,none,0,⟨λh=>absurd h (by decide),λh=>((hR 42 (.inr (.inr ⟨.inl (by assumption),by decide⟩))).2 h).resolve_left (λh=>h rfl)⟩,by omega,U8,rfl,rfl,rfl⟩|exact⟨PI,0,2,none,0,none,0,none,0,⟨λh=>absurd h (by decide),λh=>((hR 2 (.inr (.inr ⟨.inr (by omega),by decide⟩))).2 h).resolve_left (λh=>h rfl)⟩,by omega,U8,rfl,rfl,rfl⟩)):X:=h
theorem jV{X:Prop}(h:X:=by(exact⟨_,t85,0,_,_,_,_,_,_,⟨λ_=>((hR 0 (.inr (.inl ⟨by omega,by omega,by omega,rfl⟩))).1 rfl).2,λh=>absurd rfl h⟩,ht85,hSL,rfl,rfl,rfl⟩)):X:=h
set_option maxHeartbeats 2000000 in
theorem r7stt_ct(A:Option Addr)(b:List UInt8)(cp:Nat)(hb:b.length<=cp)(Gl:cp<=9223372036854775807)(hb':b.length<=10000000000000):Ct Tryz.prog 141 [.slice A b.length cp] [] [D7.row Kd.u8 A b]
    (λu G Q=>∃(e:I4) (n:Nat) (k:Int) (A:Option Addr) (cp:Nat) (B:Option Addr) (cq:Nat) (C:Option Addr) (cr:Nat),((k=0->Ih b 0=some (e,n))/\(k≠0->Ih b 0=none))/\n<=b.length/\IU e/\u=.tuple #[Nw e A cp B cq C cr,.int .i64 (n:Int),.int .i64 k]/\G=[]/\Q=NW e A B C):=by
 have hp1:(256:Nat) ^ 1=256:=Gp
 have hp4:(256:Nat) ^ 4=4294967296:=Gn
 refine Ct.intro Tryz.func141 rfl rfl rfl (λc hc=>?_)
 refine AX ?_;refine GL.step rfl (EH rfl I5) (Aa λGm=>?_);refine AL 2 ?_;refine AX ?_;refine GL.know (q:=D7.row GR none []) (λ_ _ _=>.inl rfl) ?_;refine GL.know (q:=D7.row Jz none []) (λ_ _ _=>.inl rfl) ?_
 refine GL.know (q:=D7.row kI none []) (λ_ _ _=>.inl rfl) ?_;refine AA 1 ?_;refine AO rfl (ED ze_264 of_264 rfl rfl) ?_;refine GL.step rfl (Ee rfl rfl rfl) (Aa λni=>?_);refine AL 1 ?_
 refine AV 1 ?_;refine Ah Tryz.call182 [0] [3] rfl rfl rfl (by exact Hr _ _ _ b _ 0 0 8 (by omega) (by omega) (by omega) (by omega) (by omega)) ?_
 rintro _ _ _ ⟨v16,t16,k16,SB,⟨ht16,hv16,hw16⟩,rfl,rfl,rfl⟩
 refine AO rfl (ED I5 Nq rfl rfl) ?_;refine GL.step rfl (EH rfl I5) (Aa λKr=>?_);refine Ar 0 ?_;refine BL 1 ?_;refine Ah Tryz.call182 [1] [3] rfl rfl rfl (by exact Hr _ _ _ b _ t16 k16 4 (by omega) (by omega) (by omega) (by omega) (by omega)) ?_
 rintro _ _ _ ⟨v19,t19,k19,KT,⟨ht19,hv19,hw19⟩,rfl,rfl,rfl⟩
 refine AA 2 ?_;refine BI 1 ?_;refine BL 1 ?_;refine Ah Tryz.call182 [0] [3] rfl rfl rfl (by exact Hr _ _ _ b _ t19 k19 4 (by omega) (by omega) (by omega) (by omega) (by omega)) ?_
 rintro _ _ _ ⟨v23,t23,k23,LG,⟨qw,qm,qj⟩,rfl,rfl,rfl⟩
 refine AA 2 ?_;refine BI 1 ?_;refine BL 1 ?_;refine Ah Tryz.call182 [0] [3] rfl rfl rfl (by exact Hr _ _ _ b _ t23 k23 4 (by omega) (by omega) (by omega) (by omega) (by omega)) ?_
 rintro _ _ _ ⟨v27,t27,k27,IE,⟨ak,hv27,Ug⟩,rfl,rfl,rfl⟩
 refine AL 1 ?_;refine Cm (ks:=[2,5,6,7]) (is:=[2]) (js:=[0,1,2,3]) (fun(ps:List F5) (V:Value) (cs:List Value) (u:Nat×Int)=>Rd k27 u.2 (Fq (KE b) t27 v27.toNat) (ps,u.1)/\u.1<=b.length/\ps.length<=17592186043904/\∀p∈ps,p.data.length<=16777216) (fun(ps:List F5) (V:Value) (cs:List Value) (u:Nat×Int)=>[]) (fun(ps:List F5) (V:Value) (cs:List Value) (u:Nat×Int)=>[.cells ni [.slice A b.length cp,.int .i64 (u.1:Int),.int .i64 u.2] 264,.cells Kr [.int .i64 v16,.int .i64 v19,.int .i64 v23,V,.slice none 0 0,.int .i64 0,.slice none 0 0] 61,.row V 164 3 ps.length cs]) (fun(ps:List F5) (V:Value) (cs:List Value) (u:Nat×Int)=>[A_ GR ps cs]) rfl rfl rfl ?_ ?_
 ·refine AX ?_
  have hc27:k27=0->0<=v27/\v27<4294967296:=λh=>by have:=lT IE (by omega) h;omega
  refine GL.Hu 164 3 ?_;refine GL.know (q:=A_ GR [] []) (λ_ _ _=>rfl) ?_;refine AL 1 ?_;refine GC.block ?_;refine Dc (ks:=[2,5,6,7]) (is:=[3]) (js:=[1,2,3,4]) (fun(k:Nat) (ps:List F5) (V:Value) (cs:List Value) (t:Nat) (E1:Int)=>(ps.length=k/\t<=b.length)/\(k=0\/((k:Int)<=v27/\v27<4294967296))/\Mn (KE b) k27 E1 t27 k v27.toNat ps t/\∀p∈ps,p.data.length<=16777216) (fun(k:Nat) (ps:List F5) (V:Value) (cs:List Value) (t:Nat) (E1:Int)=>[(8,.int .i64 (k:Int))]) (fun(k:Nat) (ps:List F5) (V:Value) (cs:List Value) (t:Nat) (E1:Int)=>[.cells ni [.slice A b.length cp,.int .i64 (t:Int),.int .i64 E1] 264,.cells Kr [.int .i64 v16,.int .i64 v19,.int .i64 v23,V,.slice none 0 0,.int .i64 0,.slice none 0 0] 61,.row V 164 3 ps.length cs]) (fun(k:Nat) (ps:List F5) (V:Value) (cs:List Value) (t:Nat) (E1:Int)=>[A_ GR ps cs]) (fun(k:Nat) (ps:List F5) (V:Value) (cs:List Value) (t:Nat) (E1:Int)=>v27.toNat - k) (0) ([]) (_) ([]) (t27) (k27) rfl rfl rfl (λa w h=>⟨⟨⟨rfl,by omega⟩,.inl rfl,⟨λh=>⟨h,rfl⟩,λh=>.inl h⟩,by simp⟩,h.Hf (is:=[1,1,0,0]) (js:=(up 0 5)) (ks:=[2,5,6,7]) ⟨rfl,trivial⟩ rfl rfl rfl⟩) ?_
  intro k ps V cs t E1 hk
  try dsimp only[List.cons_append,List.nil_append] at hk ⊢
  refine AB ?_;refine AV 4 ?_;refine Ak 31 ?_ ?_
  ·intro h1;try simp only[D6] at h1
   refine AA 3 ?_;refine Aj 0 ?_;refine AL 2 ?_;refine Af ?_ ?_
   ·intro h2;try simp only[D6] at h2
    refine GC.skip (?_:GC _ _ _ _)
    refine AB ?_;refine GC.block ?_;refine AV 1 ?_;refine Ah Tryz.call182 [0] [4] rfl rfl rfl (by exact Hr _ _ _ b _ t E1 4 (by omega) (by omega) (by omega) (by omega) (by omega)) ?_
    rintro _ _ _ ⟨v41,t41,k41,hs41,⟨ht41,hv41,hw41⟩,rfl,rfl,rfl⟩
    refine AO rfl (ED Je Vw rfl rfl) ?_;refine GL.step rfl (EH rfl Je) (Aa λdF=>?_);refine Ar 0 ?_;refine BL 1 ?_;refine Ah Tryz.call182 [1] [4] rfl rfl rfl (by exact Hr _ _ _ b _ t41 k41 8 (by omega) (by omega) (by omega) (by omega) (by omega)) ?_
    rintro _ _ _ ⟨v44,t44,k44,hs44,⟨ht44,hv44,hw44⟩,rfl,rfl,rfl⟩
    refine AA 1 ?_;refine BI 1 ?_;refine BL 1 ?_;refine Ah Tryz.call183 [0] [4] rfl rfl rfl (by exact r7txt_ct _ _ _ b _ t44 k44 (by omega) (by omega) (by omega) (by omega)) ?_
    rintro _ _ _ ⟨x47,t47,k47,A47,c47,XT,⟨ht47,hx47⟩,l47,m47,rfl,rfl,rfl⟩
    refine AA 1 ?_;refine BI 1 ?_;refine Ap ?_;refine GC.region ?_;refine AA 1 ?_;refine Ad 2 ?_;refine Az 1 3 ?_;refine GL.snoc (j:=1) (js:=[0]) (⟨v41,v44,x47⟩:F5) ((),((),(A47,c47))) rfl rfl ⟨trivial,trivial,l47,m47⟩ ?_
    refine GL.step rfl (EC rfl Tryz.underlying58 Gs Je rfl rfl rfl rfl rfl rfl) (Aa λb_t52=>?_);refine GL.step rfl (Eh (i:=4) (k:=0) rfl X5 rfl rfl rfl rfl rfl (EX rfl) (by first|(have:=hk.1.1;have:=hk.2.1;omega)|(have:=hj.1.1;have:=hj.2.1;omega)) (λ_=>rfl)) (Aa λv53=>?_)
    refine GL.shape (i:=4) rfl (λA_v53 c_v53 e_v53 l_v53 k_v53=>?_)
    subst e_v53
    refine AA 1 ?_;refine BI 3 ?_
    refine Ac (?_:GC _ _ _ _)
    refine GC.region ?_;refine AA 1 ?_;refine AO rfl (EU rfl rfl (Fh (by omega) (by omega))) ?_;refine AA 1 ?_;refine Ac ?_
    exact λa w h=>⟨(k+1),(ps++[(⟨v41,v44,x47⟩:F5)]),(_),(_),(t47),(k47),(by omega),⟨⟨by simp;omega,by omega⟩,Ym hc27 hk.2.2.1 (by assumption) (by assumption),U1 (by assumption) hk.2.2.1 (mpg_rd hs41 hs44 XT) (by omega),λp hp=>by rcases List.mem_append.1 hp with hp|hp;exact hk.2.2.2 p hp;rw[List.mem_singleton.1 hp];exact hx47⟩,by rw[List.length_append];exact h.cut (is:=[1,2,2,2]) (js:=[0,3,4,5,6]) ⟨rfl,rfl,rfl,rfl,rfl,trivial⟩ rfl rfl⟩
   intro h2;try simp only[D6] at h2
   refine GC.exit ?_
   exact zq95_
  intro h1;try simp only[D6] at h1
  refine AL 6 ?_;refine AY rfl ?_;refine GC.exit ?_
  exact zq95_
 intro ps V cs u hK
 try dsimp only[List.cons_append,List.nil_append] at hK ⊢
 obtain⟨hkP,htP,hlP,hdP⟩:=hK
 refine AX ?_;refine GL.shape (i:=2) rfl (λdN sK e_PG l_PG k_PG=>?_)
 subst e_PG
 refine GL.IQ (i:=2) (j:=0) rfl rfl (by decide) ?_;refine AA 1 ?_;refine Ah Tryz.call182 [0] [5] rfl rfl rfl (by exact Hr _ _ _ b _ u.1 u.2 1 (by omega) (by omega) (by omega) (by omega) (by omega)) ?_
 rintro _ _ _ ⟨v56,t56,k56,TY,⟨ht56,hv56,hw56⟩,rfl,rfl,rfl⟩
 refine AL 1 ?_;refine Cm (ks:=[2,5,6]) (is:=[2]) (js:=[0,2,3,4,5]) (fun(rs:List Row) (V2:Value) (cs2:List Value) (u2:Nat×Int)=>Rd k56 u2.2 (Fq (JW b) t56 v56.toNat) (rs,u2.1)/\u2.1<=b.length/\rs.length<=17592186043904/\∀r∈rs,r.result.data.length<=16777216) (fun(rs:List Row) (V2:Value) (cs2:List Value) (u2:Nat×Int)=>[]) (fun(rs:List Row) (V2:Value) (cs2:List Value) (u2:Nat×Int)=>[.cells ni [.slice A b.length cp,.int .i64 (u2.1:Int),.int .i64 u2.2] 264,.cells Kr [.int .i64 v16,.int .i64 v19,.int .i64 v23,.slice dN ps.length sK,V2,.int .i64 0,.slice none 0 0] 61,.row V2 166 4 rs.length cs2]) (fun(rs:List Row) (V2:Value) (cs2:List Value) (u2:Nat×Int)=>[A_ Jz rs cs2]) rfl rfl rfl ?_ ?_
 ·refine AX ?_
  have hc56:k56=0->0<=v56/\v56<256:=λh=>by have:=lT TY (by omega) h;omega
  refine GL.Hu 166 4 ?_;refine GL.know (q:=A_ Jz [] []) (λ_ _ _=>rfl) ?_;refine AL 1 ?_;refine GC.block ?_;refine Dc (ks:=[2,5,6,7]) (is:=[3]) (js:=[1,3,4,5,6]) (fun(k:Nat) (rs:List Row) (V:Value) (cs:List Value) (t:Nat) (E1:Int)=>(rs.length=k/\t<=b.length)/\(k=0\/((k:Int)<=v56/\v56<256))/\Mn (JW b) k56 E1 t56 k v56.toNat rs t/\∀r∈rs,r.result.data.length<=16777216) (fun(k:Nat) (rs:List Row) (V:Value) (cs:List Value) (t:Nat) (E1:Int)=>[(10,.int .i64 (k:Int))]) (fun(k:Nat) (rs:List Row) (V:Value) (cs:List Value) (t:Nat) (E1:Int)=>[.cells ni [.slice A b.length cp,.int .i64 (t:Int),.int .i64 E1] 264,.cells Kr [.int .i64 v16,.int .i64 v19,.int .i64 v23,.slice dN ps.length sK,V,.int .i64 0,.slice none 0 0] 61,.row V 166 4 rs.length cs]) (fun(k:Nat) (rs:List Row) (V:Value) (cs:List Value) (t:Nat) (E1:Int)=>[A_ Jz rs cs]) (fun(k:Nat) (rs:List Row) (V:Value) (cs:List Value) (t:Nat) (E1:Int)=>v56.toNat - k) (0) ([]) (_) ([]) (t56) (k56) rfl rfl rfl (λa w h=>⟨⟨⟨rfl,by omega⟩,.inl rfl,⟨λh=>⟨h,rfl⟩,λh=>.inl h⟩,by simp⟩,h.Hf (is:=[1,1,0,0]) (js:=[0,1,3,4,5,6]) (ks:=[2,5,6,7]) ⟨rfl,trivial⟩ rfl rfl rfl⟩) ?_
  intro k rs V cs t E1 hj
  try dsimp only[List.cons_append,List.nil_append] at hj ⊢
  refine AB ?_;refine AV 4 ?_;refine Ak 60 ?_ ?_
  ·intro h3;try simp only[D6] at h3
   refine AA 3 ?_;refine Aj 0 ?_;refine AL 2 ?_;refine Af ?_ ?_
   ·intro h4;try simp only[D6] at h4
    refine GC.skip (?_:GC _ _ _ _)
    refine AB ?_;refine GC.block ?_;refine AV 1 ?_;refine Ah Tryz.call182 [0] [5] rfl rfl rfl (by exact Hr _ _ _ b _ t E1 8 (by omega) (by omega) (by omega) (by omega) (by omega)) ?_
    rintro _ _ _ ⟨v70,t70,k70,hs70,⟨ht70,hv70,hw70⟩,rfl,rfl,rfl⟩
    refine AO rfl (ED Jq Yh rfl rfl) ?_;refine GL.step rfl (EH rfl Jq) (Aa λn_=>?_);refine Ar 0 ?_;refine BL 1 ?_;refine Ah Tryz.call182 [1] [5] rfl rfl rfl (by exact Hr _ _ _ b _ t70 k70 8 (by omega) (by omega) (by omega) (by omega) (by omega)) ?_
    rintro _ _ _ ⟨v73,t73,k73,hs73,⟨ht73,hv73,hw73⟩,rfl,rfl,rfl⟩
    refine AA 1 ?_;refine BI 1 ?_;refine BL 1 ?_;refine Ah Tryz.call184 [0] [5] rfl rfl rfl (by exact r7re_ct _ _ _ b _ t73 k73 (by omega) (by omega) (by omega) (by omega)) ?_
    rintro _ _ _ ⟨Vx,t76,k76,sQ,c76,Uh,⟨ht76,hd76⟩,l76,m76,rfl,rfl,rfl⟩
    refine AA 1 ?_;refine Ar 1 ?_;refine Ap ?_;refine GC.region ?_;refine AA 1 ?_;refine Ad 2 ?_;refine Az 1 4 ?_;refine GL.snoc (j:=1) (js:=[0]) (⟨v70,v73,Vx⟩:Row) ((),((),((),(sQ,c76)))) rfl rfl ⟨trivial,trivial,trivial,l76,m76⟩ ?_
    refine GL.step rfl (EC rfl Tryz.underlying59 GY Jq rfl rfl rfl rfl rfl rfl) (Aa λb_t81=>?_);refine GL.step rfl (Eh (i:=4) (k:=0) rfl el_59 rfl rfl rfl rfl rfl (EX rfl) (by first|(have:=hk.1.1;have:=hk.2.1;omega)|(have:=hj.1.1;have:=hj.2.1;omega)) (λ_=>rfl)) (Aa λv82=>?_)
    refine GL.shape (i:=4) rfl (λA_v82 c_v82 e_v82 l_v82 k_v82=>?_)
    subst e_v82
    refine AA 1 ?_;refine BI 3 ?_
    refine Ac (?_:GC _ _ _ _)
    refine GC.region ?_;refine AA 1 ?_;refine AO rfl (EU rfl rfl (Fh (by omega) (by omega))) ?_;refine AA 1 ?_;refine Ac ?_
    exact λa w h=>⟨(k+1),(rs++[(⟨v70,v73,Vx⟩:Row)]),(_),(_),(t76),(k76),(by omega),⟨⟨by simp;omega,by omega⟩,Ym hc56 hj.2.2.1 (by assumption) (by assumption),U1 (by assumption) hj.2.2.1 (mrow_rd hs70 hs73 Uh) (by omega),λr hr=>by rcases List.mem_append.1 hr with hr|hr;exact hj.2.2.2 r hr;rw[List.mem_singleton.1 hr];exact hd76⟩,by rw[List.length_append];exact h.cut (is:=[1,2,2,2]) (js:=[0,3,4,5,6,7]) ⟨rfl,rfl,rfl,rfl,rfl,trivial⟩ rfl rfl⟩
   intro h4;try simp only[D6] at h4
   refine GC.exit ?_
   exact zq96_
  intro h3;try simp only[D6] at h3
  refine AL 6 ?_;refine AY rfl ?_;refine GC.exit ?_
  exact zq96_
 intro rs V2 cs2 u2 hK2
 try dsimp only[List.cons_append,List.nil_append] at hK2 ⊢
 obtain⟨hkR,htR,hlR,hdR⟩:=hK2
 refine AX ?_;refine GL.shape (i:=2) rfl (λA_RW c_RW e_RW l_RW k_RW=>?_)
 subst e_RW
 refine GL.IQ (i:=2) (j:=0) rfl rfl (by decide) ?_;refine AA 1 ?_;refine Ah Tryz.call185 [0] [6] rfl rfl rfl (by exact kR _ _ _ b _ u2.1 u2.2 (by omega) (by omega) (by omega)) ?_
 rintro _ _ _ ⟨g85,t85,k85,A85,c85,hs85,⟨ht85,hg85⟩,l85,m85,rfl,rfl,rfl⟩
 refine AA 1 ?_;refine Ar 1 ?_;refine Ap ?_;refine AB ?_;refine AX ?_
 have hSL:IU (⟨v16,⟨v19,v23⟩,ps,rs,g85⟩:I4):=⟨hlP,hlR,by show g85.members.length<=_;omega,λp hp=>by have:=hdP p hp;show p.data.length<=_;omega,λr hr=>by have:=hdR r hr;show r.result.data.length<=_;omega⟩
 have hR:∀E2,((k85≠0/\E2=k85)\/(k85=0/\YJ (⟨v16,⟨v19,v23⟩,ps,rs,g85⟩:I4)=0/\(t85:Int)<=33554432/\E2=0)\/((YJ (⟨v16,⟨v19,v23⟩,ps,rs,g85⟩:I4)≠0\/33554432<(t85:Int))/\E2≠0))->Rd 0 E2 (Ih b 0) ((⟨v16,⟨v19,v23⟩,ps,rs,g85⟩:I4),t85):=λE2 h=>by unfold Ih;exact Rd.bind SB (Rd.bind KT (Rd.bind LG (Rd.bind IE (Rd.bind hkP (Rd.bind TY (Rd.bind hkR (Rd.bind hs85 (mstC_rd h))))))))
 refine AA 3 ?_;refine Ad 0 ?_;refine AA 2 ?_;refine Ak 92 ?_ ?_
 ·intro h5;try simp only[D6] at h5
  refine BX 1 7 ?_;refine Au rfl (s:=92) rfl rfl (EI rfl Tryz.call124 rfl (is:=[]) (js:=[3,1,0]) rfl rfl (by exact TA (⟨v16,⟨v19,v23⟩,ps,rs,g85⟩:I4) _ _ _ _ _ _ hSL)) (GL.ret ?_)
  rintro _ _ _ ⟨rfl,rfl,rfl⟩
  refine AL 2 ?_;refine Af ?_ ?_
  ·intro h6;try simp only[D6] at h6
   refine GC.region ?_;refine AA 3 ?_;refine BI 0 ?_
   refine Ac (?_:GC _ _ _ _)
   refine AB ?_;refine AV 3 ?_;refine Ad 0 ?_;refine AL 8 ?_;refine AY rfl ?_
   refine GC.skip (?_:GC _ _ _ _)
   refine AB ?_;refine AV 3 ?_;refine Ad 0 ?_;refine AL 1 ?_;refine AU rfl ?_;refine AB ?_;refine BF (m:=8) (is:=[0,0]) (js:=(up 0 8)) Ef rfl rfl rfl ?_;refine BA 0 rfl [0,0] (up 0 8) (EK (ED I5 Nq rfl rfl)) ?_
   refine AZ 1 [0,0] (up 0 8) ?_;refine AZ 2 [0,0] (up 0 8) ?_;refine AZ 3 [0,0] (up 0 8) ?_;refine BA 4 rfl [0,0] (up 0 8) (i_mem (EF (i:=0) rfl rfl JC rfl)) ?_;refine Aw [5] ?_
   refine E8.cons (i:=5) rfl rfl (EZ (i:=2) rfl rfl rfl JH rfl rfl rfl) (by rintro a w h;exact h.me [0,0] (up 0 8)) ?_ Ag
   refine AZ 6 [0,0] (up 0 8) ?_;refine AZ 7 [0,0] (up 0 8) ?_
   refine BG (by kernel_rfl) (?_:GC _ _ _ _)
   refine GC.ret (Fin.c2 2 61 3 4 2 7 [] [6,5,4] ?_)
   exact U9
  intro h6;try simp only[D6] at h6
  refine GC.skip (?_:GC _ _ _ _)
  refine AB ?_;refine AV 3 ?_;refine Ad 0 ?_;refine AA 2 ?_;refine Ak 105 ?_ ?_
  ·intro h7;try simp only[D6] at h7
   refine AA 3 ?_;refine Aj 0 ?_;refine AL 2 ?_;refine Af ?_ ?_
   ·intro h8;try simp only[D6] at h8
    refine GC.region ?_;refine AA 3 ?_;refine BI 0 ?_
    refine Ac (?_:GC _ _ _ _)
    refine AB ?_;refine AV 3 ?_;refine Ad 0 ?_;refine AL 1 ?_;refine AU rfl ?_;refine AB ?_;refine BF (m:=8) (is:=[0,0]) (js:=(up 0 8)) Ef rfl rfl rfl ?_;refine BA 0 rfl [0,0] (up 0 8) (EK (ED I5 Nq rfl rfl)) ?_
    refine AZ 1 [0,0] (up 0 8) ?_;refine AZ 2 [0,0] (up 0 8) ?_;refine AZ 3 [0,0] (up 0 8) ?_;refine BA 4 rfl [0,0] (up 0 8) (i_mem (EF (i:=0) rfl rfl JC rfl)) ?_;refine Aw [5] ?_
    refine E8.cons (i:=5) rfl rfl (EZ (i:=2) rfl rfl rfl JH rfl rfl rfl) (by rintro a w h;exact h.me [0,0] (up 0 8)) ?_ Ag
    refine AZ 6 [0,0] (up 0 8) ?_;refine AZ 7 [0,0] (up 0 8) ?_
    refine BG (by kernel_rfl) (?_:GC _ _ _ _)
    refine GC.ret (Fin.c2 2 61 3 4 2 7 [] [6,5,4] ?_)
    exact U9
   intro h8;try simp only[D6] at h8
   refine GC.skip (?_:GC _ _ _ _)
   refine AB ?_;refine AV 3 ?_;refine Ad 0 ?_;refine AL 1 ?_;refine Af ?_ ?_
   ·intro h9;try simp only[D6] at h9
    refine AB ?_;refine BF (m:=8) (is:=[0,0]) (js:=(up 0 8)) Ef rfl rfl rfl ?_;refine BA 0 rfl [0,0] (up 0 8) (EK (ED I5 Nq rfl rfl)) ?_;refine AZ 1 [0,0] (up 0 8) ?_;refine AZ 2 [0,0] (up 0 8) ?_
    refine AZ 3 [0,0] (up 0 8) ?_;refine BA 4 rfl [0,0] (up 0 8) (i_mem (EF (i:=0) rfl rfl JC rfl)) ?_;refine Aw [5] ?_
    refine E8.cons (i:=5) rfl rfl (EZ (i:=2) rfl rfl rfl JH rfl rfl rfl) (by rintro a w h;exact h.me [0,0] (up 0 8)) ?_ Ag
    refine AZ 6 [0,0] (up 0 8) ?_;refine AZ 7 [0,0] (up 0 8) ?_
    refine BG (by kernel_rfl) (?_:GC _ _ _ _)
    refine GC.ret (Fin.c2 2 61 3 4 2 7 [] [6,5,4] ?_)
    exact U9
   intro h9;try simp only[D6] at h9
   refine GC.skip (?_:GC _ _ _ _)
   refine AB ?_;refine BF (m:=8) (is:=[0,0]) (js:=(up 0 8)) Ef rfl rfl rfl ?_;refine BA 0 rfl [0,0] (up 0 8) (i_mem (G7 (i:=1) rfl rfl UR (vs:=[_,_,_,_,_,_,_]) JH ⟨rfl,rfl,rfl,rfl,rfl,rfl,rfl,trivial⟩)) ?_
   refine AZ 1 [0,0] (up 0 8) ?_;refine AZ 2 [0,0] (up 0 8) ?_;refine AZ 3 [0,0] (up 0 8) ?_;refine BA 4 rfl [0,0] (up 0 8) (i_mem (EF (i:=0) rfl rfl Ei rfl)) ?_;refine Aw [5] ?_
   refine E8.cons (i:=5) rfl rfl (EZ (i:=2) rfl rfl rfl JH rfl rfl rfl) (by rintro a w h;exact h.me [0,0] (up 0 8)) ?_ Ag
   refine AZ 6 [0,0] (up 0 8) ?_;refine AZ 7 [0,0] (up 0 8) ?_
   refine BG (by kernel_rfl) (?_:GC _ _ _ _)
   refine GC.ret (Fin.c2 2 61 3 4 2 7 [] [3,1,0] ?_)
   exact jV
  intro h7;try simp only[D6] at h7
  refine AL 6 ?_;refine AY rfl ?_
  refine GC.skip (?_:GC _ _ _ _)
  refine AB ?_;refine AV 3 ?_;refine Ad 0 ?_;refine AL 1 ?_;refine Af ?_ ?_
  ·intro h10;try simp only[D6] at h10
   refine AB ?_;refine BF (m:=8) (is:=[0,0]) (js:=(up 0 8)) Ef rfl rfl rfl ?_;refine BA 0 rfl [0,0] (up 0 8) (EK (ED I5 Nq rfl rfl)) ?_;refine AZ 1 [0,0] (up 0 8) ?_;refine AZ 2 [0,0] (up 0 8) ?_
   refine AZ 3 [0,0] (up 0 8) ?_;refine BA 4 rfl [0,0] (up 0 8) (i_mem (EF (i:=0) rfl rfl JC rfl)) ?_;refine Aw [5] ?_
   refine E8.cons (i:=5) rfl rfl (EZ (i:=2) rfl rfl rfl JH rfl rfl rfl) (by rintro a w h;exact h.me [0,0] (up 0 8)) ?_ Ag
   refine AZ 6 [0,0] (up 0 8) ?_;refine AZ 7 [0,0] (up 0 8) ?_
   refine BG (by kernel_rfl) (?_:GC _ _ _ _)
   refine GC.ret (Fin.c2 2 61 3 4 2 7 [] [6,5,4] ?_)
   exact U9
  intro h10;try simp only[D6] at h10
  refine GC.skip (?_:GC _ _ _ _)
  refine AB ?_;refine BF (m:=8) (is:=[0,0]) (js:=(up 0 8)) Ef rfl rfl rfl ?_;refine BA 0 rfl [0,0] (up 0 8) (i_mem (G7 (i:=1) rfl rfl UR (vs:=[_,_,_,_,_,_,_]) JH ⟨rfl,rfl,rfl,rfl,rfl,rfl,rfl,trivial⟩)) ?_
  refine AZ 1 [0,0] (up 0 8) ?_;refine AZ 2 [0,0] (up 0 8) ?_;refine AZ 3 [0,0] (up 0 8) ?_;refine BA 4 rfl [0,0] (up 0 8) (i_mem (EF (i:=0) rfl rfl Ei rfl)) ?_;refine Aw [5] ?_
  refine E8.cons (i:=5) rfl rfl (EZ (i:=2) rfl rfl rfl JH rfl rfl rfl) (by rintro a w h;exact h.me [0,0] (up 0 8)) ?_ Ag
  refine AZ 6 [0,0] (up 0 8) ?_;refine AZ 7 [0,0] (up 0 8) ?_
  refine BG (by kernel_rfl) (?_:GC _ _ _ _)
  refine GC.ret (Fin.c2 2 61 3 4 2 7 [] [3,1,0] ?_)
  exact jV
 intro h5;try simp only[D6] at h5
 refine AL 4 ?_;refine AY rfl ?_
 refine GC.skip (?_:GC _ _ _ _)
 refine AB ?_;refine AV 3 ?_;refine Ad 0 ?_;refine AA 2 ?_;refine Ak 105 ?_ ?_
 ·intro h11;try simp only[D6] at h11
  refine AA 3 ?_;refine Aj 0 ?_;refine AL 2 ?_;refine Af ?_ ?_
  ·intro h12;try simp only[D6] at h12
   refine GC.region ?_;refine AA 3 ?_;refine BI 0 ?_
   refine Ac (?_:GC _ _ _ _)
   refine AB ?_;refine AV 3 ?_;refine Ad 0 ?_;refine AL 1 ?_;refine AU rfl ?_;refine AB ?_;refine BF (m:=8) (is:=[0,0]) (js:=(up 0 8)) Ef rfl rfl rfl ?_;refine BA 0 rfl [0,0] (up 0 8) (EK (ED I5 Nq rfl rfl)) ?_
   refine AZ 1 [0,0] (up 0 8) ?_;refine AZ 2 [0,0] (up 0 8) ?_;refine AZ 3 [0,0] (up 0 8) ?_;refine BA 4 rfl [0,0] (up 0 8) (i_mem (EF (i:=0) rfl rfl JC rfl)) ?_;refine Aw [5] ?_
   refine E8.cons (i:=5) rfl rfl (EZ (i:=2) rfl rfl rfl JH rfl rfl rfl) (by rintro a w h;exact h.me [0,0] (up 0 8)) ?_ Ag
   refine AZ 6 [0,0] (up 0 8) ?_;refine AZ 7 [0,0] (up 0 8) ?_
   refine BG (by kernel_rfl) (?_:GC _ _ _ _)
   refine GC.ret (Fin.c2 2 61 3 4 2 7 [] [6,5,4] ?_)
   exact U9
  intro h12;try simp only[D6] at h12
  refine GC.skip (?_:GC _ _ _ _)
  refine AB ?_;refine AV 3 ?_;refine Ad 0 ?_;refine AL 1 ?_;refine Af ?_ ?_
  ·intro h13;try simp only[D6] at h13
   refine AB ?_;refine BF (m:=8) (is:=[0,0]) (js:=(up 0 8)) Ef rfl rfl rfl ?_;refine BA 0 rfl [0,0] (up 0 8) (EK (ED I5 Nq rfl rfl)) ?_;refine AZ 1 [0,0] (up 0 8) ?_;refine AZ 2 [0,0] (up 0 8) ?_
   refine AZ 3 [0,0] (up 0 8) ?_;refine BA 4 rfl [0,0] (up 0 8) (i_mem (EF (i:=0) rfl rfl JC rfl)) ?_;refine Aw [5] ?_
   refine E8.cons (i:=5) rfl rfl (EZ (i:=2) rfl rfl rfl JH rfl rfl rfl) (by rintro a w h;exact h.me [0,0] (up 0 8)) ?_ Ag
   refine AZ 6 [0,0] (up 0 8) ?_;refine AZ 7 [0,0] (up 0 8) ?_
   refine BG (by kernel_rfl) (?_:GC _ _ _ _)
   refine GC.ret (Fin.c2 2 61 3 4 2 7 [] [6,5,4] ?_)
   exact U9
  intro h13;try simp only[D6] at h13
  refine GC.skip (?_:GC _ _ _ _)
  refine AB ?_;refine BF (m:=8) (is:=[0,0]) (js:=(up 0 8)) Ef rfl rfl rfl ?_;refine BA 0 rfl [0,0] (up 0 8) (i_mem (G7 (i:=1) rfl rfl UR (vs:=[_,_,_,_,_,_,_]) JH ⟨rfl,rfl,rfl,rfl,rfl,rfl,rfl,trivial⟩)) ?_
  refine AZ 1 [0,0] (up 0 8) ?_;refine AZ 2 [0,0] (up 0 8) ?_;refine AZ 3 [0,0] (up 0 8) ?_;refine BA 4 rfl [0,0] (up 0 8) (i_mem (EF (i:=0) rfl rfl Ei rfl)) ?_;refine Aw [5] ?_
  refine E8.cons (i:=5) rfl rfl (EZ (i:=2) rfl rfl rfl JH rfl rfl rfl) (by rintro a w h;exact h.me [0,0] (up 0 8)) ?_ Ag
  refine AZ 6 [0,0] (up 0 8) ?_;refine AZ 7 [0,0] (up 0 8) ?_
  refine BG (by kernel_rfl) (?_:GC _ _ _ _)
  refine GC.ret (Fin.c2 2 61 3 4 2 7 [] [3,1,0] ?_)
  exact jV
 intro h11;try simp only[D6] at h11
 refine AL 6 ?_;refine AY rfl ?_
 refine GC.skip (?_:GC _ _ _ _)
 refine AB ?_;refine AV 3 ?_;refine Ad 0 ?_;refine AL 1 ?_;refine Af ?_ ?_
 ·intro Nb;try simp only[D6] at Nb
  refine AB ?_;refine BF (m:=8) (is:=[0,0]) (js:=(up 0 8)) Ef rfl rfl rfl ?_;refine BA 0 rfl [0,0] (up 0 8) (EK (ED I5 Nq rfl rfl)) ?_;refine AZ 1 [0,0] (up 0 8) ?_;refine AZ 2 [0,0] (up 0 8) ?_
  refine AZ 3 [0,0] (up 0 8) ?_;refine BA 4 rfl [0,0] (up 0 8) (i_mem (EF (i:=0) rfl rfl JC rfl)) ?_;refine Aw [5] ?_
  refine E8.cons (i:=5) rfl rfl (EZ (i:=2) rfl rfl rfl JH rfl rfl rfl) (by rintro a w h;exact h.me [0,0] (up 0 8)) ?_ Ag
  refine AZ 6 [0,0] (up 0 8) ?_;refine AZ 7 [0,0] (up 0 8) ?_
  refine BG (by kernel_rfl) (?_:GC _ _ _ _)
  refine GC.ret (Fin.c2 2 61 3 4 2 7 [] [6,5,4] ?_)
  exact U9
 intro Nb;try simp only[D6] at Nb
 refine GC.skip (?_:GC _ _ _ _)
 refine AB ?_;refine BF (m:=8) (is:=[0,0]) (js:=(up 0 8)) Ef rfl rfl rfl ?_;refine BA 0 rfl [0,0] (up 0 8) (i_mem (G7 (i:=1) rfl rfl UR (vs:=[_,_,_,_,_,_,_]) JH ⟨rfl,rfl,rfl,rfl,rfl,rfl,rfl,trivial⟩)) ?_
 refine AZ 1 [0,0] (up 0 8) ?_;refine AZ 2 [0,0] (up 0 8) ?_;refine AZ 3 [0,0] (up 0 8) ?_;refine BA 4 rfl [0,0] (up 0 8) (i_mem (EF (i:=0) rfl rfl Ei rfl)) ?_;refine Aw [5] ?_
 refine E8.cons (i:=5) rfl rfl (EZ (i:=2) rfl rfl rfl JH rfl rfl rfl) (by rintro a w h;exact h.me [0,0] (up 0 8)) ?_ Ag
 refine AZ 6 [0,0] (up 0 8) ?_;refine AZ 7 [0,0] (up 0 8) ?_
 refine BG (by kernel_rfl) (?_:GC _ _ _ _)
 refine GC.ret (Fin.c2 2 61 3 4 2 7 [] [3,1,0] ?_)
 exact jV
def bI(b:Bool):Int:=if b=true then 1 else 0
theorem oC(b:Bool):(bI b=0)=(b=false):=by cases b<;>simp[bI]
abbrev XP(p e:Nat)(A:Option Addr)(b:List UInt8)(cp:Nat)(bad:Bool):List Own:=[.cells p [.slice A b.length cp,.bool bad] e]
theorem zq99_{X:Prop}(h:X:=by(exact⟨true,b,A,cp,⟨λh=>by(cases h),λ_=>by first|exact .inl (by assumption)|exact .inr (by assumption)⟩,Nat.le_refl _,hcp,Gl,rfl,rfl,rfl⟩)):X:=h
theorem VU(p e_:Nat)(A:Option Addr)(b:List UInt8)(cp n:Nat)(e:Int)(bad:Bool)(hn:e=0->n<=b.length)(hcp:b.length<=cp)(Gl:cp<=9223372036854775807):Ct Tryz.prog 137 [.pointer (some ⟨p,0,none⟩),.int .i64 (n:Int),.int .i64 e] (XP p e_ A b cp bad) [D7.row Kd.u8 A b]
    (λu G Q=>∃(z:Bool) (L':List UInt8) (A':Option Addr) (c':Nat),((z=false->bad=false/\e=0/\L'=b.drop n)/\(z=true->bad=true\/e≠0))/\L'.length<=b.length/\L'.length<=c'/\c'<=9223372036854775807/\u=.tuple #[]/\G=XP p e_ A' L' c' z/\Q=[D7.row Kd.u8 A' L']):=by
 refine Ct.intro Tryz.func137 rfl rfl rfl (λc hc=>?_)
 refine AB ?_;refine AV 3 ?_;refine Ad 0 ?_;refine AA 1 ?_;refine Ak 10 ?_ ?_
 ·intro h1;try simp only[D6] at h1
  refine AL 3 ?_;refine AU rfl ?_;refine AV 3 ?_;refine BI 0 ?_;refine Ap ?_;refine GC.ret ?_
  refine λa w h=>Bz rfl (is:=[0]) (js:=[0]) rfl rfl ?_ h
  clear h
  exact zq99_
 intro h1;try simp only[D6] at h1
 refine AL 3 ?_;refine Af ?_ ?_
 ·intro h2;try simp only[D6] at h2
  refine AV 3 ?_;refine BI 0 ?_;refine Ap ?_;refine GC.ret ?_
  refine λa w h=>Bz rfl (is:=[0]) (js:=[0]) rfl rfl ?_ h
  clear h
  exact zq99_
 intro h2;try simp only[D6] at h2
 refine GC.skip (?_:GC _ _ _ _)
 refine GC.region ?_
 have hn_:=hn (by omega)
 refine AA 4 ?_;refine Ad 0 ?_;refine AA 1 ?_;refine GL.step rfl (Jk (j:=0) rfl rfl rfl rfl Tryz.underlying47 Fa (by omega) (by omega) (by omega)) ?_
 rw[show((n:Int)).toNat=n from rfl,VP]
 refine AA 2 ?_;refine BI 0 ?_;refine Ac ?_
 refine λa w h=>Bz rfl (is:=[0]) (js:=[0]) rfl rfl ?_ h
 clear h
 exact⟨_,b.drop n,_,_,⟨λh=>⟨by first|assumption|simp_all,by omega,rfl⟩,λh=>by simp_all⟩,La,by rw[List.length_drop];omega,by omega,rfl,rfl,rfl⟩
theorem N9(p e_:Nat)(A:Option Addr)(b:List UInt8)(cp n:Nat)(bad:Bool)(hn:1<=n)(hn':n<=8)(hcp:b.length<=cp)(Gl:cp<=9223372036854775807)(hb:b.length<=10000000000000):Ct Tryz.prog 83 [.pointer (some ⟨p,0,none⟩),.int .i64 (n:Int)] (XP p e_ A b cp bad) [D7.row Kd.u8 A b]
    (λu G Q=>∃(v:Int) (L':List UInt8) (z:Bool) (A':Option Addr) (c':Nat),Rd (bI bad) (bI z) (Hl n b) (v,L')/\(0<=v/\v<((256 ^ n:Nat):Int)/\L'.length<=b.length)/\L'.length<=c'/\c'<=9223372036854775807/\u=.int .u64 v/\G=XP p e_ A' L' c' z/\Q=[D7.row Kd.u8 A' L']):=by
 have hgv:JL b 0 n<256 ^ n:=by
   unfold JL;split
   ·exact Jg (by assumption) (by omega)
   exact Nat.pow_pos (by decide)
 refine Ct.intro Tryz.func83 rfl rfl rfl (λc hc=>?_)
 refine AP 1 ?_;refine AV 3 ?_;refine Ad 0 ?_;refine AA 1 ?_;refine Ah Tryz.call135 [] [0] rfl rfl rfl (by exact Np _ b _ 0 n hn hn' hcp (by omega) (by omega)) ?_
 rintro _ _ _ ⟨rfl,rfl,rfl⟩
 refine AL 7 ?_;refine AV 3 ?_;refine Ah Tryz.call137 [0] [0] rfl rfl rfl (by exact VU _ _ _ b _ n (WT b 0 n) bad (λh=>by have:=LH h;omega) hcp Gl) ?_
 rintro _ _ _ ⟨z21,L21,A21,c21,WC,Yu,iG,k21,rfl,rfl,rfl⟩
 refine BL 2 ?_;refine Ap ?_;refine GC.ret (AQ 4 [0] [0] ?_)
 refine⟨_,L21,z21,A21,c21,⟨λh=>?_,λh=>?_⟩,⟨by omega,by omega,Yu⟩,iG,k21,rfl,rfl,rfl⟩
 ·rw[oC] at h ⊢
  obtain⟨f1,f2,f3⟩:=WC.1 h
  have hq:=LH f2
  exact⟨f1,by rw[Hl,if_pos (by omega),f3,JL,if_pos hq,Nat.zero_add]⟩
 have hz:z21=true:=by cases z21;exact absurd rfl h;rfl
 rcases WC.2 hz with g|g
 ·exact .inl (by rw[g];decide)
 exact .inr (by rw[Hl,if_neg (λhq=>g (if_pos (by omega)))])
theorem PY(p e_:Nat)(A:Option Addr)(b:List UInt8)(cp:Nat)(bad:Bool)(hcp:b.length<=cp)(Gl:cp<=9223372036854775807)(hb:b.length<=10000000000000):Ct Tryz.prog 84 [.pointer (some ⟨p,0,none⟩)] (XP p e_ A b cp bad) [D7.row Kd.u8 A b]
    (λu G Q=>∃(v:Int) (L':List UInt8) (z:Bool) (A':Option Addr) (c':Nat),Rd (bI bad) (bI z) (Jf b) (v,L')/\(0<=v/\v<=4611686018427387904/\L'.length<=b.length)/\L'.length<=c'/\c'<=9223372036854775807/\u=.int .i64 v/\G=XP p e_ A' L' c' z/\Q=[D7.row Kd.u8 A' L']):=by
 refine Ct.intro Tryz.func84 rfl rfl rfl (λc hc=>?_)
 refine AP 1 ?_;refine AV 1 ?_;refine Ah Tryz.call83 [0] [0] rfl rfl rfl (by exact N9 _ _ _ b _ 8 bad (by omega) (by omega) hcp Gl hb) ?_
 rintro _ _ _ ⟨v5,L5,z5,A5,c5,hs5,⟨hv5,hw5,hx5⟩,l5,k5,rfl,rfl,rfl⟩
 refine AL 1 ?_;refine AB ?_;refine AP 2 ?_;refine Af ?_ ?_
 ·intro h1;try simp only[D6] at h1
  refine AV 3 ?_;refine BI 0 ?_;refine BL 1 ?_;refine Ap ?_;refine GC.ret (AQ 2 [0] [0] ?_)
  exact⟨0,L5,true,A5,c5,⟨λh=>by(cases h),λ_=>(Decidable.em (bI z5=0)).elim (λhz=>.inr (by rw[Jf,(hs5.1 hz).2,Option.bind_some];exact if_neg (by omega))) (λhz=>(hs5.2 hz).imp id λg=>by rw[Jf,g];rfl)⟩,⟨by omega,by omega,hx5⟩,l5,k5,rfl,rfl,rfl⟩
 intro h1;try simp only[D6] at h1
 refine GC.skip (?_:GC _ _ _ _)
 refine AV 1 ?_;refine AO rfl (EO (t:=45) (r:=v5) (by rw[Tryz.underlying45];simp) Tryz.underlying3 rfl (W9 (by omega) (by omega))) ?_
 refine AL 1 ?_;refine GC.ret (AQ 2 [0] [0] ?_)
 exact⟨v5,L5,z5,A5,c5,by unfold Jf;refine Rd.bind hs5 ?_;dsimp only;rw[if_pos (by omega)];exact Rd.same _,⟨by omega,by omega,hx5⟩,l5,k5,rfl,rfl,rfl⟩
theorem dR{X:Prop}(h:X:=by(exact λa w h=>⟨(k+1),(xs++[v27]),(_),(L27),(z27),(_),(_),(by omega),⟨⟨by simp;omega,by omega,mQ,k27⟩,Ym hc10 hk.2.2 (by rw[oC];assumption) (by assumption),U1 (by rw[oC];assumption) hk.2.2 IE (by omega)⟩,h.cut (is:=[1,1,1,1]) (js:=[0,2,3,4]) ⟨rfl,rfl,rfl,rfl,rfl,trivial⟩ rfl rfl⟩)):X:=h
theorem zq101_{X:Prop}(h:X:=by(exact⟨⟨v7,xs⟩,L,z,_,_,_,_,by unfold OH;exact Rd.bind hs7 (Rd.bind hs10 (Rd.map (λr:List Int×List UInt8=>((⟨v7,r.1⟩:Ld),r.2)) (Yn hc10 hk.2.1 hk.2.2 (λh=>by rw[oC] at h;first|omega|simp_all)))),⟨hk.1.2.1,by have:=hk.1.1;have:=hk.2.1;show xs.length<=255;omega⟩,hk.1.2.2.1,hk.1.2.2.2,rfl,rfl,rfl⟩)):X:=h
theorem rgr_ct(p e_:Nat)(A:Option Addr)(b:List UInt8)(cp:Nat)(bad:Bool)(hcp:b.length<=cp)(Gl:cp<=9223372036854775807)(hb:b.length<=10000000000000):Ct Tryz.prog 140 [.pointer (some ⟨p,0,none⟩)] (XP p e_ A b cp bad) [D7.row Kd.u8 A b]
    (λu G Q=>∃(g:Ld) (L':List UInt8) (z:Bool) (A':Option Addr) (c':Nat) (B':Option Addr) (d':Nat),Rd (bI bad) (bI z) (OH b) (g,L')/\(L'.length<=b.length/\g.members.length<=255)/\L'.length<=c'/\c'<=9223372036854775807/\u=.agg #[.int .i64 g.epoch,.slice B' g.members.length d']/\G=XP p e_ A' L' c' z/\Q=[D7.row kI B' g.members,D7.row Kd.u8 A' L']):=by
 have hp1:(256:Nat) ^ 1=256:=Gp
 refine Ct.intro Tryz.func140 rfl rfl rfl (λc hc=>?_)
 refine AX ?_;refine GL.step rfl (EH rfl OG) (Aa λGm=>?_);refine BL 1 ?_;refine Ah Tryz.call84 [1] [0] rfl rfl rfl (by exact PY _ _ _ b _ bad hcp Gl hb) ?_
 rintro _ _ _ ⟨v7,L7,z7,A7,c7,hs7,⟨hv7,hw7,hx7⟩,l7,k7,rfl,rfl,rfl⟩
 refine AO rfl (ED OG lN rfl rfl) ?_;refine GL.step rfl (EH rfl OG) (Aa λFQ=>?_);refine Ar 0 ?_;refine BL 1 ?_;refine Ah Tryz.call83 [1] [0] rfl rfl rfl (by exact N9 _ _ _ L7 _ 1 z7 (by omega) (by omega) l7 k7 (by omega)) ?_
 rintro _ _ _ ⟨v10,dO,z10,A10,c10,hs10,⟨iL,iK,qh⟩,l10,k10,rfl,rfl,rfl⟩
 refine AO rfl (EO (t:=45) (r:=v10) (by rw[Tryz.underlying45];simp) Tryz.underlying3 rfl (W9 (by omega) (by omega))) ?_;refine AL 1 ?_;refine AB ?_;refine AX ?_
 have hc10:bI z10=0->0<=v10/\v10<256:=λ_=>by omega
 refine GL.Hu 3 1 ?_;refine AL 1 ?_;refine GC.block ?_;refine Dn (ks:=[0,2,3,4]) (is:=[3]) (js:=[0,1,2]) (fun(k:Nat) (xs:List Int) (U:Value) (L:List UInt8) (z:Bool) (Al:Option Addr) (cl:Nat)=>(xs.length=k/\L.length<=b.length/\L.length<=cl/\cl<=9223372036854775807)/\(k=0\/((k:Int)<=v10/\v10<256))/\Mn (Hl 1) (bI z10) (bI z) dO k v10.toNat xs L) (fun(k:Nat) (xs:List Int) (U:Value) (L:List UInt8) (z:Bool) (Al:Option Addr) (cl:Nat)=>[(5,.int .i64 (k:Int))]) (fun(k:Nat) (xs:List Int) (U:Value) (L:List UInt8) (z:Bool) (Al:Option Addr) (cl:Nat)=>[.cells p [.slice Al L.length cl,.bool z] e_,.cells FQ [.int .i64 v7,U] 55,.row U 3 1 xs.length (xs.map (Value.int .i64))]) (fun(k:Nat) (xs:List Int) (U:Value) (L:List UInt8) (z:Bool) (Al:Option Addr) (cl:Nat)=>[D7.row Kd.u8 Al L]) (fun(k:Nat) (xs:List Int) (U:Value) (L:List UInt8) (z:Bool) (Al:Option Addr) (cl:Nat)=>v10.toNat - k) (0) ([]) (_) (dO) (z10) (_) (_) rfl rfl rfl (λa w h=>⟨⟨⟨rfl,by omega,l10,k10⟩,.inl rfl,λh=>⟨h,rfl⟩,λh=>.inl h⟩,h.Hf (is:=[1,1,0,0]) (js:=[0,0,1,2]) (ks:=[0,2,3,4]) ⟨rfl,trivial⟩ rfl rfl rfl⟩) ?_
 intro k xs U L z Al cl hk
 try dsimp only[List.cons_append,List.nil_append] at hk ⊢
 refine AB ?_;refine AV 4 ?_;refine Ak 15 ?_ ?_
 ·intro h1;try simp only[D6,oC] at h1
  refine AA 3 ?_;refine Aj 0 ?_;refine AL 2 ?_;refine Af ?_ ?_
  ·intro h2;try simp only[D6,oC] at h2
   refine GC.skip (?_:GC _ _ _ _)
   refine AB ?_;refine GC.block ?_;refine BF (m:=9) (is:=[3]) (js:=[0,1,2,3]) Ef rfl rfl rfl ?_;refine AZ 0 [3] [0,1,2,3] ?_;refine AZ 2 [3] [0,1,2,3] ?_;refine Aw [1,3] ?_
   refine E8.cons (i:=1) rfl rfl (Ed rfl (EF (i:=1) rfl rfl JZ rfl)) (by rintro a w h;exact h.me [3] [0,1,2,3]) ?_ ?_
   ·refine Aw [3] ?_
    refine E8.cons (i:=3) rfl rfl (EI rfl Tryz.call83 rfl (is:=[0]) (js:=[0]) rfl rfl (by exact N9 _ _ _ L _ 1 z (by omega) (by omega) hk.1.2.2.1 hk.1.2.2.2 (by omega))) (by rintro a w ⟨_,_,_,⟨v27,L27,z27,A27,c27,IE,⟨hv27,Ug,hx27⟩,mQ,k27,rfl,rfl,rfl⟩,h⟩;exact h.me [3] [1,2,3,4]) (GA.ret ?_) Ag
    rintro _ _ _ ⟨v27,L27,z27,A27,c27,IE,⟨hv27,Ug,hx27⟩,mQ,k27,rfl,rfl,rfl⟩
    refine BA 4 rfl [3] [1,2,3,4] (EK (EO (t:=45) (r:=v27) (by rw[Tryz.underlying45];simp) Tryz.underlying3 rfl (W9 (by omega) (by omega)))) ?_;refine Aw [5] ?_
    refine E8.cons (i:=5) rfl rfl (EC rfl Tryz.underlying53 GV Ja rfl rfl rfl rfl rfl rfl) (by rintro a w ⟨_,h⟩;exact h.me [4] [1,2,3,4]) (BZ λb_t29=>?_) Ag
    refine Aw [6] ?_
    refine E8.cons (i:=6) rfl rfl (Eh (i:=3) (k:=0) rfl NS rfl rfl rfl rfl rfl (EX rfl) (by have:=hk.1.1;have:=hk.2.1;omega) (λ_=>rfl)) (by rintro a w ⟨_,h⟩;exact h.me [4] [1,2,3,4]) (BZ λv30=>?_) Ag
    refine GA.shape (i:=3) rfl (λA_v30 c_v30 bY l_v30 k_v30=>?_)
    subst bY
    refine AZ 7 [4] [1,2,3,4] ?_;refine Aw [8] ?_
    refine E8.cons (i:=8) rfl rfl (Et (i:=2) rfl rfl rfl rfl O7 rfl rfl rfl) (by rintro a w h;exact h.me [4] [1,2,3,4]) ?_ Ag
    refine BG (by kernel_rfl) (?_:GC _ _ _ _)
    refine GC.region ?_;refine GL.rowIs (i:=3) (m':=((xs++[v27])).length) (cs':=((xs++[v27])).map (Value.int .i64)) rfl (by first|rfl|(simp;done)|(simp;omega)) (by first|rfl|(simp;done)) rfl ?_
    refine AA 1 ?_;refine AO rfl (EU rfl rfl (Fh (by omega) (by omega))) ?_;refine AA 1 ?_;refine Ac ?_
    exact dR
   refine E8.cons (i:=3) rfl rfl (EI rfl Tryz.call83 rfl (is:=[0]) (js:=[0]) rfl rfl (by exact N9 _ _ _ L _ 1 z (by omega) (by omega) hk.1.2.2.1 hk.1.2.2.2 (by omega))) (by rintro a w ⟨_,_,_,⟨v27,L27,z27,A27,c27,IE,⟨hv27,Ug,hx27⟩,mQ,k27,rfl,rfl,rfl⟩,h⟩;exact h.me [3] [1,2,3,4]) (GA.ret ?_) Ag
   rintro _ _ _ ⟨v27,L27,z27,A27,c27,IE,⟨hv27,Ug,hx27⟩,mQ,k27,rfl,rfl,rfl⟩
   refine BA 4 rfl [3] [1,2,3,4] (EK (EO (t:=45) (r:=v27) (by rw[Tryz.underlying45];simp) Tryz.underlying3 rfl (W9 (by omega) (by omega)))) ?_;refine Aw [1,5] ?_
   refine E8.cons (i:=1) rfl rfl (Ed rfl (EF (i:=1) rfl rfl JZ rfl)) (by rintro a w h;exact h.me [3] [1,2,3,4]) ?_ ?_
   ·refine Aw [5] ?_
    refine E8.cons (i:=5) rfl rfl (EC rfl Tryz.underlying53 GV Ja rfl rfl rfl rfl rfl rfl) (by rintro a w ⟨_,h⟩;exact h.me [4] [1,2,3,4]) (BZ λb_t29=>?_) Ag
    refine Aw [6] ?_
    refine E8.cons (i:=6) rfl rfl (Eh (i:=3) (k:=0) rfl NS rfl rfl rfl rfl rfl (EX rfl) (by have:=hk.1.1;have:=hk.2.1;omega) (λ_=>rfl)) (by rintro a w ⟨_,h⟩;exact h.me [4] [1,2,3,4]) (BZ λv30=>?_) Ag
    refine GA.shape (i:=3) rfl (λA_v30 c_v30 bY l_v30 k_v30=>?_)
    subst bY
    refine AZ 7 [4] [1,2,3,4] ?_;refine Aw [8] ?_
    refine E8.cons (i:=8) rfl rfl (Et (i:=2) rfl rfl rfl rfl O7 rfl rfl rfl) (by rintro a w h;exact h.me [4] [1,2,3,4]) ?_ Ag
    refine BG (by kernel_rfl) (?_:GC _ _ _ _)
    refine GC.region ?_;refine GL.rowIs (i:=3) (m':=((xs++[v27])).length) (cs':=((xs++[v27])).map (Value.int .i64)) rfl (by first|rfl|(simp;done)|(simp;omega)) (by first|rfl|(simp;done)) rfl ?_
    refine AA 1 ?_;refine AO rfl (EU rfl rfl (Fh (by omega) (by omega))) ?_;refine AA 1 ?_;refine Ac ?_
    exact dR
   refine E8.cons (i:=5) rfl rfl (EC rfl Tryz.underlying53 GV Ja rfl rfl rfl rfl rfl rfl) (by rintro a w ⟨_,h⟩;exact h.me [4] [1,2,3,4]) (BZ λb_t29=>?_) Ag
   refine Aw [1] ?_
   refine E8.cons (i:=1) rfl rfl (Ed rfl (EF (i:=2) rfl rfl JZ rfl)) (by rintro a w h;exact h.me [4] [1,2,3,4]) ?_ Ag
   refine Aw [6] ?_
   refine E8.cons (i:=6) rfl rfl (Eh (i:=3) (k:=0) rfl NS rfl rfl rfl rfl rfl (EX rfl) (by have:=hk.1.1;have:=hk.2.1;omega) (λ_=>rfl)) (by rintro a w ⟨_,h⟩;exact h.me [4] [1,2,3,4]) (BZ λv30=>?_) Ag
   refine GA.shape (i:=3) rfl (λA_v30 c_v30 bY l_v30 k_v30=>?_)
   subst bY
   refine AZ 7 [4] [1,2,3,4] ?_;refine Aw [8] ?_
   refine E8.cons (i:=8) rfl rfl (Et (i:=2) rfl rfl rfl rfl O7 rfl rfl rfl) (by rintro a w h;exact h.me [4] [1,2,3,4]) ?_ Ag
   refine BG (by kernel_rfl) (?_:GC _ _ _ _)
   refine GC.region ?_;refine GL.rowIs (i:=3) (m':=((xs++[v27])).length) (cs':=((xs++[v27])).map (Value.int .i64)) rfl (by first|rfl|(simp;done)|(simp;omega)) (by first|rfl|(simp;done)) rfl ?_
   refine AA 1 ?_;refine AO rfl (EU rfl rfl (Fh (by omega) (by omega))) ?_;refine AA 1 ?_;refine Ac ?_
   exact dR
  intro h2;try simp only[D6,oC] at h2
  refine GC.exit (?_:GC _ _ _ _)
  refine AX ?_;refine GL.shape (i:=2) rfl (λA_M c_M e_M l_M k_M=>?_)
  subst e_M
  refine GL.LQ (i:=2) rfl ?_;refine Az 1 2 ?_;refine Ar 2 ?_;refine Ap ?_;refine GC.ret (DC 2 55 2 2 [0] [0,1] ?_)
  exact zq101_
 intro h1;try simp only[D6,oC] at h1
 refine AL 6 ?_;refine AY rfl ?_
 refine GC.exit (?_:GC _ _ _ _)
 refine AX ?_;refine GL.shape (i:=2) rfl (λA_M c_M e_M l_M k_M=>?_)
 subst e_M
 refine GL.LQ (i:=2) rfl ?_;refine Az 1 2 ?_;refine Ar 2 ?_;refine Ap ?_;refine GC.ret (DC 2 55 2 2 [0] [0,1] ?_)
 exact zq101_
theorem bitv:∀n:Fin 256,(MF (n.val:Int) 1=0↔¬n.val % 2=1)/\(MF (n.val:Int) 2=0↔¬n.val / 2 % 2=1)/\(MF (n.val:Int) 4=0↔¬n.val / 4 % 2=1)/\(MF (n.val:Int) 8=0↔¬n.val / 8 % 2=1):=by decide +kernel
theorem bitz{v:Int}(h:0<=v)(h':v<256):(MF v 1=0↔¬v % 2=1)/\(MF v 2=0↔¬v / 2 % 2=1)/\(MF v 4=0↔¬v / 4 % 2=1)/\(MF v 8=0↔¬v / 8 % 2=1):=by
 have hb:=bitv ⟨v.toNat,by omega⟩
 dsimp only at hb
 rw[show((v.toNat:Nat):Int)=v by omega] at hb
 refine⟨hb.1.trans (by omega),hb.2.1.trans (by omega),hb.2.2.1.trans (by omega),hb.2.2.2.trans (by omega)⟩
theorem j_{v:Int}(h:0<=v):v.tmod 2=v % 2:=Int.tmod_eq_emod_of_nonneg h
theorem tdivW{v:Int}(k:Int)(hk:1<=k)(h:0<=v)(h':v<256):IntKind.u64.wrap (v.tdiv k)=v / k:=by
 rw[Int.tdiv_eq_ediv_of_nonneg h]
 have h1:0<=v / k:=Int.ediv_nonneg h (by omega)
 have h2:v / k<=v:=Int.ediv_le_self k h
 exact bn h1 (by omega)
theorem Yd{α:Type}{f:Option (α×Nat)}{L L':List UInt8}{z z1:Bool}{o:α}{n:Nat}{e:Int}(hs:e=0->f=some (o,n))(hn:e≠0->f=none)(ht:(z1=false->z=false/\e=0/\L'=L.drop n)/\(z1=true->z=true\/e≠0)):Rd (bI z) (bI z1) (f.map λo=>(o.1,L.drop o.2)) (o,L'):=by
 refine⟨λh=>?_,λh=>?_⟩
 ·rw[oC] at h ⊢
  obtain⟨g1,g2,rfl⟩:=ht.1 h
  exact⟨g1,by rw[hs g2];rfl⟩
 ·have hz:z1=true:=by cases z1;exact absurd rfl h;rfl
  exact(ht.2 hz).imp (λg=>by rw[g];decide) λg=>by rw[hn g];rfl
theorem Un{α:Type}{f:Option α}{r:α}{z:Bool}(h:z=false->f=some r):Rd (bI z) (bI z) f r:=by
 refine⟨λg=>⟨g,h (by rwa [oC] at g)⟩,λg=>.inl g⟩
def ZP(b:List UInt8):Option ((LM×J4×Ld×I4×List Entry)×List UInt8) :=
 (Kt b).bind λx=>(Hl 4 x.2).bind λn=>(Fq went n.2 n.1.toNat).map λr=>((x.1.1,x.1.2.1,x.1.2.2.1,x.1.2.2.2,r.1),r.2)
theorem prt_rd{b L0 L1 L2 L3 L4:List UInt8}{z z0 z1 z2 z3 z4:Bool}{v:Int}{o:LM}{r:J4}{g:Ld}{s:I4}(h0:Rd (bI z) (bI z0) (Hl 1 b) (v,L0))(h1:Rd (bI z0) (bI z1) (sU v L0) (o,L1))(h2:Rd (bI z1) (bI z2) (sS v L1) (r,L2))(h3:Rd (bI z2) (bI z3) (sV v L2) (g,L3))(h4:Rd (bI z3) (bI z4) (wpS v L3) (s,L4)):Rd (bI z) (bI z4) (Kt b) ((o,r,g,s),L4):=by
 unfold Kt
 exact Rd.bind h0 (Rd.bind h1 (Rd.bind h2 (Rd.bind h3 (Rd.map (λx:I4×List UInt8=>((o,r,g,x.1),x.2)) h4))))
theorem went_rd{L L':List UInt8}{z z1:Bool}{e:Entry}{n:Nat}{k:Int}(hs:(k=0->Gf L 0=some (e,n))/\(k≠0->Gf L 0=none))(ht:(z1=false->z=false/\k=0/\L'=L.drop n)/\(z1=true->z=true\/k≠0)):Rd (bI z) (bI z1) (went L) (e,L'):=Yd hs.1 hs.2 ht
theorem zq102_{X:Prop}(h:X:=by(exact λa w h=>⟨(Iw),(L21),(z21),(⟨none,0,none,0,none,0,none,0,none,0,none,0,none,0,A21,c21⟩),⟨Un (λh_=>by rw[sU,if_pos (by rw[hbz.1];simp_all)]),by omega,iG,k21⟩,h.ct [0,1,0] [3,3,4,0,1,2,3,5]⟩)):X:=h
theorem zq103_{X:Prop}(h:X:=by(exact λa w h=>⟨(rz),(L1),(z1),(⟨none,0,none,0,none,0,none,0,none,0,none,0,none,0,x.a8,x.c8⟩),⟨Un (λh_=>by rw[sS,if_pos (by rw[hbz.2.1];simp_all)]),by omega,hO2,hO3⟩,h.ct [0,0,0] [6,2,0,1,3,4,5,6,7]⟩)):X:=h
theorem zq104_{X:Prop}(h:X:=by(exact λa w h=>⟨(PI),(L3),(z3),(⟨none,0,none,0,none,0,none,0,none,0,none,0,none,0,w_.a8,w_.c8⟩),⟨Un (λh_=>by rw[wpS,if_pos (by rw[hbz.2.2.2];simp_all)]),by omega,hG2,hG3⟩,h.ct [0,0,0] [6,5,7,1,0,2,3,4,5,6,7,8,9]⟩)):X:=h
theorem zq105_{X:Prop}(h:X:=by(exact⟨o,r,g,s,es,L,zz,⟨x.a1,x.c1,x.a2,x.c2,y.a3,y.c3,w_.a4,w_.c4,q_.a5,q_.c5,q_.a6,q_.c6,q_.a7,q_.c7,A_EN,c_EN⟩,_,_,by unfold ZP;exact Rd.bind (prt_rd Gx hO hR hG hS) (Rd.bind hs107 (Rd.map (λe:List Entry×List UInt8=>((o,r,g,s,e.1),e.2)) (Yn hc107 hk.2.1 hk.2.2 (λh=>by rw[oC] at h;first|omega|simp_all)))),hk.1.2.2.1,hk.1.2.2.2,rfl,rfl,rfl⟩)):X:=h
set_option maxHeartbeats 2000000 in
theorem rrst_ct(p e_:Nat)(y0 y1 y2 y3 y4 y5 y6 y7 y8 y9 oL:Int)(A:Option Addr)(b:List UInt8)(cp:Nat)(bad:Bool)(hcp:b.length<=cp)(Gl:cp<=9223372036854775807)(hb:b.length<=10000000000000):Ct Tryz.prog 85 [.pointer (some ⟨p,0,none⟩),.agg #[.int .u8 y0,.int .i64 y1,.int .i64 y2,.int .i64 y3,.int .i64 y4,.int .i64 y5,.int .i64 y6,.int .i64 y7,.int .u64 y8,.int .i64 y9,.int .i64 oL,.int .u8 0,.int .i64 0,.int .i64 0,.slice none 0 0,.slice none 0 0,.int .u8 0,.slice none 0 0,.int .i64 0,.slice none 0 0,.int .i64 0,.int .i64 0,.int .i64 0,.slice none 0 0,.slice none 0 0,.int .i64 0,.slice none 0 0,.slice none 0 0]] (XP p e_ A b cp bad) [D7.row Kd.u8 A b]
    (λu G Q=>∃(o:LM) (r:J4) (g:Ld) (s:I4) (es:List Entry) (L':List UInt8) (z:Bool) (x:Lie) (A':Option Addr) (c':Nat),Rd (bI bad) (bI z) (ZP b) ((o,r,g,s,es),L')/\L'.length<=c'/\c'<=9223372036854775807/\u=.agg #[.int .u8 y0,.int .i64 y1,.int .i64 y2,.int .i64 y3,.int .i64 y4,.int .i64 y5,.int .i64 y6,.int .i64 y7,.int .u64 y8,.int .i64 y9,.int .i64 oL,.int .u8 o.kind,.int .i64 o.at_,.int .i64 o.n,.slice x.a1 o.data.length x.c1,.slice x.a2 o.old.length x.c2,.int .u8 r.code,.slice x.a3 r.data.length x.c3,.int .i64 g.epoch,.slice x.a4 g.members.length x.c4,.int .i64 s.num,.int .i64 s.Jo.bl,.int .i64 s.Jo.sz,.slice x.a5 s.pages.length x.c5,.slice x.a6 s.rows.length x.c6,.int .i64 s.grp.epoch,.slice x.a7 s.grp.members.length x.c7,.slice x.a8 es.length x.c8]/\G=XP p e_ A' L' c' z/\Q=[D7.row Kd.u8 x.a1 o.data,D7.row Kd.u8 x.a2 o.old,D7.row Kd.u8 x.a3 r.data,D7.row kI x.a4 g.members,D7.row GR x.a5 s.pages,D7.row Jz x.a6 s.rows,D7.row kI x.a7 s.grp.members,D7.row JV x.a8 es,D7.row Kd.u8 A' L']):=by
 have hp1:(256:Nat) ^ 1=256:=Gp
 have hp4:(256:Nat) ^ 4=4294967296:=Gn
 refine Ct.intro Tryz.func85 rfl rfl rfl (λc hc=>?_)
 refine AX ?_;refine GL.step rfl (Ee rfl rfl rfl) (Aa λFQ=>?_);refine GL.step rfl (EH rfl F6) (Aa λKZ=>?_);refine BL 1 ?_;refine Ah Tryz.call83 [2] [0] rfl rfl rfl (by exact N9 _ _ _ b _ 1 bad (by omega) (by omega) hcp Gl hb) ?_
 rintro _ _ _ ⟨v21,L21,z21,A21,c21,Gx,⟨WB,aZ,Yu⟩,iG,k21,rfl,rfl,rfl⟩
 have hbz:=bitz (v:=v21) (by omega) (by omega)
 refine GL.know (q:=D7.row Kd.u8 none []) (λ_ _ _=>.inl rfl) ?_;refine GL.know (q:=D7.row kI none []) (λ_ _ _=>.inl rfl) ?_;refine GL.know (q:=D7.row GR none []) (λ_ _ _=>.inl rfl) ?_;refine GL.know (q:=D7.row Jz none []) (λ_ _ _=>.inl rfl) ?_
 refine AL 1 ?_;refine Cm (ks:=[0,3,4,5]) (is:=[1]) (js:=[0,1,2,3,5]) (fun(o:LM) (L1:List UInt8) (z1:Bool) (x:Lie)=>Rd (bI z21) (bI z1) (sU v21 L21) (o,L1)/\L1.length<=b.length/\L1.length<=x.c8/\x.c8<=9223372036854775807) (fun(o:LM) (L1:List UInt8) (z1:Bool) (x:Lie)=>[]) (fun(o:LM) (L1:List UInt8) (z1:Bool) (x:Lie)=>[.cells p [.slice x.a8 L1.length x.c8,.bool z1] e_,.cells FQ [.int .u8 y0,.int .i64 y1,.int .i64 y2,.int .i64 y3,.int .i64 y4,.int .i64 y5,.int .i64 y6,.int .i64 y7,.int .u64 y8,.int .i64 y9,.int .i64 oL,.int .u8 o.kind,.int .i64 o.at_,.int .i64 o.n,.slice x.a1 o.data.length x.c1,.slice x.a2 o.old.length x.c2,.int .u8 0,.slice none 0 0,.int .i64 0,.slice none 0 0,.int .i64 0,.int .i64 0,.int .i64 0,.slice none 0 0,.slice none 0 0,.int .i64 0,.slice none 0 0,.slice none 0 0] 64]) (fun(o:LM) (L1:List UInt8) (z1:Bool) (x:Lie)=>[D7.row Kd.u8 x.a1 o.data,D7.row Kd.u8 x.a2 o.old,D7.row Kd.u8 x.a8 L1]) rfl rfl rfl ?_ ?_
 ·refine AV 1 ?_;refine AO rfl (Pn (r:=v21 % 2) rfl rfl (by omega) (j_ (by omega))) ?_;refine AA 2 ?_;refine Ak 25 ?_ ?_
  ·intro h1;try simp only[D6] at h1
   refine AA 3 ?_;refine Aj 0 ?_;refine AL 2 ?_;refine Af ?_ ?_
   ·intro h2;try simp only[D6] at h2
    refine AV 3 ?_;refine Ad 0 ?_;refine Ah Tryz.call138 [] [4] rfl rfl rfl (by exact Uu _ L21 _ iG k21 (by omega)) ?_
    rintro _ _ _ ⟨o37,n37,e37,A37,c37,B37,d37,hs37,hn37,hd37,l37,k37,m37,p37,rfl,rfl,rfl⟩
    refine AA 4 ?_;refine GL.step rfl (EH rfl Hy) (Aa λKr=>?_);refine Ar 0 ?_;refine AL 2 ?_;refine AV 3 ?_;refine Ah Tryz.call137 [1] [6] rfl rfl rfl (by exact VU _ _ _ L21 _ n37 e37 z21 (λ_=>hn37.1) iG k21) ?_
    rintro _ _ _ ⟨z44,L44,A44,c44,ht44,hx44,l44,k44,rfl,rfl,rfl⟩
    refine Ap ?_;refine GC.region ?_;refine Az 1 5 ?_;refine AA 1 ?_;refine Ar 3 ?_;refine Ac ?_
    exact λa w h=>⟨(o37),(L44),(z44),(⟨A37,c37,B37,d37,none,0,none,0,none,0,none,0,none,0,A44,c44⟩),⟨by rw[sU,if_neg (by rw[hbz.1];simp_all)];exact Yd hs37 hn37.2 ht44,by omega,l44,k44⟩,h.ct [0,2,1] [1,2,0,3,4,5,6,8]⟩
   intro h2;try simp only[D6] at h2
   refine GC.skip ?_
   exact zq102_
  intro h1;try simp only[D6] at h1
  refine AL 6 ?_;refine AY rfl ?_;refine GC.skip ?_
  exact zq102_
 intro o L1 z1 x hO
 try dsimp only[List.cons_append,List.nil_append] at hO ⊢
 obtain⟨hO,hO1,hO2,hO3⟩:=hO
 refine Cm (ks:=[0,3,4,5]) (is:=[2]) (js:=[0,1,3,4,5,6,7]) (fun(r:J4) (L2:List UInt8) (z2:Bool) (y:Lie)=>Rd (bI z1) (bI z2) (sS v21 L1) (r,L2)/\L2.length<=b.length/\L2.length<=y.c8/\y.c8<=9223372036854775807) (fun(r:J4) (L2:List UInt8) (z2:Bool) (y:Lie)=>[]) (fun(r:J4) (L2:List UInt8) (z2:Bool) (y:Lie)=>[.cells p [.slice y.a8 L2.length y.c8,.bool z2] e_,.cells FQ [.int .u8 y0,.int .i64 y1,.int .i64 y2,.int .i64 y3,.int .i64 y4,.int .i64 y5,.int .i64 y6,.int .i64 y7,.int .u64 y8,.int .i64 y9,.int .i64 oL,.int .u8 o.kind,.int .i64 o.at_,.int .i64 o.n,.slice x.a1 o.data.length x.c1,.slice x.a2 o.old.length x.c2,.int .u8 r.code,.slice y.a3 r.data.length y.c3,.int .i64 0,.slice none 0 0,.int .i64 0,.int .i64 0,.int .i64 0,.slice none 0 0,.slice none 0 0,.int .i64 0,.slice none 0 0,.slice none 0 0] 64]) (fun(r:J4) (L2:List UInt8) (z2:Bool) (y:Lie)=>[D7.row Kd.u8 y.a3 r.data,D7.row Kd.u8 y.a8 L2]) rfl rfl rfl ?_ ?_
 ·refine AV 1 ?_;refine AO rfl (O8 (r:=v21 / 2) rfl rfl (by omega) (tdivW 2 (by omega) (by omega) (by omega))) ?_;refine AO rfl (Pn (r:=v21 / 2 % 2) rfl rfl (by omega) (j_ (by omega))) ?_;refine AA 2 ?_
  refine Ak 51 ?_ ?_
  ·intro h3;try simp only[D6] at h3
   refine AA 3 ?_;refine Aj 0 ?_;refine AL 2 ?_;refine Af ?_ ?_
   ·intro h4;try simp only[D6] at h4
    refine AV 3 ?_;refine Ad 0 ?_;refine Ah Tryz.call139 [] [2] rfl rfl rfl (by exact RV _ L1 _ hO2 hO3 (by omega)) ?_
    rintro _ _ _ ⟨o63,n63,e63,A63,c63,hs63,hn63,hd63,l63,k63,rfl,rfl,rfl⟩
    refine AA 4 ?_;refine GL.step rfl (EH rfl Ig) (Aa λdF=>?_);refine Ar 0 ?_;refine AL 2 ?_;refine AV 3 ?_;refine Ah Tryz.call137 [1] [3] rfl rfl rfl (by exact VU _ _ _ L1 _ n63 e63 z1 (λ_=>hn63.1) hO2 hO3) ?_
    rintro _ _ _ ⟨z70,L70,A70,c70,ht70,hx70,l70,k70,rfl,rfl,rfl⟩
    refine Ap ?_;refine GC.region ?_;refine Az 1 2 ?_;refine AA 1 ?_;refine Ar 2 ?_;refine Ac ?_
    exact λa w h=>⟨(o63),(L70),(z70),(⟨none,0,none,0,A63,c63,none,0,none,0,none,0,none,0,A70,c70⟩),⟨by rw[sS,if_neg (by rw[hbz.2.1];simp_all)];exact Yd hs63 hn63.2 ht70,by omega,l70,k70⟩,h.ct [0,1,1] [1,0,2,3,5,6,7,8,9]⟩
   intro h4;try simp only[D6] at h4
   refine GC.skip ?_
   exact zq103_
  intro h3;try simp only[D6] at h3
  refine AL 6 ?_;refine AY rfl ?_;refine GC.skip ?_
  exact zq103_
 intro r L2 z2 y hR
 try dsimp only[List.cons_append,List.nil_append] at hR ⊢
 obtain⟨hR,hR1,hR2,hR3⟩:=hR
 refine Cm (ks:=[0,3,4,5]) (is:=[2]) (js:=[0,2,3,4,5,6,7,8]) (fun(g:Ld) (L3:List UInt8) (z3:Bool) (w_:Lie)=>Rd (bI z2) (bI z3) (sV v21 L2) (g,L3)/\L3.length<=b.length/\L3.length<=w_.c8/\w_.c8<=9223372036854775807) (fun(g:Ld) (L3:List UInt8) (z3:Bool) (w_:Lie)=>[]) (fun(g:Ld) (L3:List UInt8) (z3:Bool) (w_:Lie)=>[.cells p [.slice w_.a8 L3.length w_.c8,.bool z3] e_,.cells FQ [.int .u8 y0,.int .i64 y1,.int .i64 y2,.int .i64 y3,.int .i64 y4,.int .i64 y5,.int .i64 y6,.int .i64 y7,.int .u64 y8,.int .i64 y9,.int .i64 oL,.int .u8 o.kind,.int .i64 o.at_,.int .i64 o.n,.slice x.a1 o.data.length x.c1,.slice x.a2 o.old.length x.c2,.int .u8 r.code,.slice y.a3 r.data.length y.c3,.int .i64 g.epoch,.slice w_.a4 g.members.length w_.c4,.int .i64 0,.int .i64 0,.int .i64 0,.slice none 0 0,.slice none 0 0,.int .i64 0,.slice none 0 0,.slice none 0 0] 64]) (fun(g:Ld) (L3:List UInt8) (z3:Bool) (w_:Lie)=>[D7.row kI w_.a4 g.members,D7.row Kd.u8 w_.a8 L3]) rfl rfl rfl ?_ ?_
 ·refine AV 1 ?_;refine AO rfl (O8 (r:=v21 / 4) rfl rfl (by omega) (tdivW 4 (by omega) (by omega) (by omega))) ?_;refine AO rfl (Pn (r:=v21 / 4 % 2) rfl rfl (by omega) (j_ (by omega))) ?_;refine AL 1 ?_
  refine Af ?_ ?_
  ·intro h5;try simp only[D6] at h5
   refine GC.region ?_;refine AA 1 ?_;refine Ah Tryz.call140 [0] [1] rfl rfl rfl (by exact rgr_ct _ _ _ L2 _ z2 hR2 hR3 (by omega)) ?_
   rintro _ _ _ ⟨g78,L78,z78,A78,c78,B78,d78,hs78,⟨ht78,hg78⟩,l78,k78,rfl,rfl,rfl⟩
   refine AA 1 ?_;refine Ar 1 ?_;refine Ac ?_
   exact λa w h=>⟨(g78),(L78),(z78),(⟨none,0,none,0,none,0,B78,d78,none,0,none,0,none,0,A78,c78⟩),⟨by rw[sV,if_neg (by rw[hbz.2.2.1];simp_all)];exact hs78,by omega,l78,k78⟩,h.ct [0,0,0] [0,1,2,4,5,6,7,8,9,10]⟩
  intro h5;try simp only[D6] at h5
  refine GC.skip ?_
  exact λa w h=>⟨(Le),(L2),(z2),(⟨none,0,none,0,none,0,none,0,none,0,none,0,none,0,y.a8,y.c8⟩),⟨Un (λh_=>by rw[sV,if_pos (by rw[hbz.2.2.1];simp_all)]),by omega,hR2,hR3⟩,h.ct [0,0,0] [6,1,0,2,3,4,5,6,7,8]⟩
 intro g L3 z3 w_ hG
 try dsimp only[List.cons_append,List.nil_append] at hG ⊢
 obtain⟨hG,hG1,hG2,hG3⟩:=hG
 refine Cm (ks:=[0,3,4]) (is:=[2]) (js:=[0,2,3,4,5,6,7,8,9]) (fun(s:I4) (L4:List UInt8) (z4:Bool) (q_:Lie)=>Rd (bI z3) (bI z4) (wpS v21 L3) (s,L4)/\L4.length<=b.length/\L4.length<=q_.c8/\q_.c8<=9223372036854775807) (fun(s:I4) (L4:List UInt8) (z4:Bool) (q_:Lie)=>[]) (fun(s:I4) (L4:List UInt8) (z4:Bool) (q_:Lie)=>[.cells p [.slice q_.a8 L4.length q_.c8,.bool z4] e_,.cells FQ [.int .u8 y0,.int .i64 y1,.int .i64 y2,.int .i64 y3,.int .i64 y4,.int .i64 y5,.int .i64 y6,.int .i64 y7,.int .u64 y8,.int .i64 y9,.int .i64 oL,.int .u8 o.kind,.int .i64 o.at_,.int .i64 o.n,.slice x.a1 o.data.length x.c1,.slice x.a2 o.old.length x.c2,.int .u8 r.code,.slice y.a3 r.data.length y.c3,.int .i64 g.epoch,.slice w_.a4 g.members.length w_.c4,.int .i64 s.num,.int .i64 s.Jo.bl,.int .i64 s.Jo.sz,.slice q_.a5 s.pages.length q_.c5,.slice q_.a6 s.rows.length q_.c6,.int .i64 s.grp.epoch,.slice q_.a7 s.grp.members.length q_.c7,.slice none 0 0] 64]) (fun(s:I4) (L4:List UInt8) (z4:Bool) (q_:Lie)=>[D7.row GR q_.a5 s.pages,D7.row Jz q_.a6 s.rows,D7.row kI q_.a7 s.grp.members,D7.row Kd.u8 q_.a8 L4]) rfl rfl rfl ?_ ?_
 ·refine AV 1 ?_;refine AO rfl (O8 (r:=v21 / 8) rfl rfl (by omega) (tdivW 8 (by omega) (by omega) (by omega))) ?_;refine AO rfl (Pn (r:=v21 / 8 % 2) rfl rfl (by omega) (j_ (by omega))) ?_;refine AA 2 ?_
  refine Ak 84 ?_ ?_
  ·intro h6;try simp only[D6] at h6
   refine AA 3 ?_;refine Aj 0 ?_;refine AL 2 ?_;refine Af ?_ ?_
   ·intro h7;try simp only[D6] at h7
    refine AV 3 ?_;refine Ad 0 ?_;refine Ah Tryz.call141 [] [1] rfl rfl rfl (by exact r7stt_ct _ L3 _ hG2 hG3 (by omega)) ?_
    rintro _ _ _ ⟨g96,t96,f96,A96,cp96,B96,cq96,C96,cr96,hs96,ht96,hl96,rfl,rfl,rfl⟩
    refine AA 4 ?_;refine GL.step rfl (EH rfl I5) (Aa λXE=>?_);refine Ar 0 ?_;refine AL 2 ?_;refine AV 3 ?_;refine Ah Tryz.call137 [1] [4] rfl rfl rfl (by exact VU _ _ _ L3 _ t96 f96 z3 (λ_=>ht96) hG2 hG3) ?_
    rintro _ _ _ ⟨z103,L103,A103,c103,ht103,hx103,l103,k103,rfl,rfl,rfl⟩
    refine Ap ?_;refine GC.region ?_;refine Az 1 7 ?_;refine AA 1 ?_;refine Ar 2 ?_;refine Ac ?_
    exact λa w h=>⟨(g96),(L103),(z103),(⟨none,0,none,0,none,0,none,0,A96,cp96,B96,cq96,C96,cr96,A103,c103⟩),⟨by rw[wpS,if_neg (by rw[hbz.2.2.2];simp_all)];exact Yd hs96.1 hs96.2 ht103,by omega,l103,k103⟩,h.ct [0,1,1] [1,2,3,0,4,6,7,8,9,10,11,12,13]⟩
   intro h7;try simp only[D6] at h7
   refine GC.skip ?_
   exact zq104_
  intro h6;try simp only[D6] at h6
  refine AL 6 ?_;refine AY rfl ?_;refine GC.skip ?_
  exact zq104_
 intro s L4 z4 q_ hS
 try dsimp only[List.cons_append,List.nil_append] at hS ⊢
 obtain⟨hS,hS1,hS2,hS3⟩:=hS
 refine AV 1 ?_;refine Ah Tryz.call83 [0] [3] rfl rfl rfl (by exact N9 _ _ _ L4 _ 4 z4 (by omega) (by omega) hS2 hS3 (by omega)) ?_
 rintro _ _ _ ⟨v107,L107,z107,A107,c107,hs107,⟨hv107,hw107,hx107⟩,l107,k107,rfl,rfl,rfl⟩
 refine AL 1 ?_;refine AB ?_;refine AX ?_
 have hc107:bI z107=0->0<=v107/\v107<4294967296:=λ_=>by omega
 refine GL.Hu 97 12 ?_;refine GL.know (q:=A_ JV [] []) (λ_ _ _=>rfl) ?_;refine AL 1 ?_;refine GC.block ?_;refine GC.loopK8 (ks:=[0,3,4,15]) (is:=[3]) (js:=(up 1 14)) (fun(k:Nat) (es:List Entry) (V:Value) (cs:List Value) (L:List UInt8) (zz:Bool) (Al:Option Addr) (cl:Nat)=>(es.length=k/\L.length<=b.length/\L.length<=cl/\cl<=9223372036854775807)/\(k=0\/((k:Int)<=v107/\v107<4294967296))/\Mn went (bI z107) (bI zz) L107 k v107.toNat es L) (fun(k:Nat) (es:List Entry) (V:Value) (cs:List Value) (L:List UInt8) (zz:Bool) (Al:Option Addr) (cl:Nat)=>[(16,.int .u64 (k:Int))]) (fun(k:Nat) (es:List Entry) (V:Value) (cs:List Value) (L:List UInt8) (zz:Bool) (Al:Option Addr) (cl:Nat)=>[.cells p [.slice Al L.length cl,.bool zz] e_,.cells FQ [.int .u8 y0,.int .i64 y1,.int .i64 y2,.int .i64 y3,.int .i64 y4,.int .i64 y5,.int .i64 y6,.int .i64 y7,.int .u64 y8,.int .i64 y9,.int .i64 oL,.int .u8 o.kind,.int .i64 o.at_,.int .i64 o.n,.slice x.a1 o.data.length x.c1,.slice x.a2 o.old.length x.c2,.int .u8 r.code,.slice y.a3 r.data.length y.c3,.int .i64 g.epoch,.slice w_.a4 g.members.length w_.c4,.int .i64 s.num,.int .i64 s.Jo.bl,.int .i64 s.Jo.sz,.slice q_.a5 s.pages.length q_.c5,.slice q_.a6 s.rows.length q_.c6,.int .i64 s.grp.epoch,.slice q_.a7 s.grp.members.length q_.c7,V] 64,.row V 97 12 es.length cs]) (fun(k:Nat) (es:List Entry) (V:Value) (cs:List Value) (L:List UInt8) (zz:Bool) (Al:Option Addr) (cl:Nat)=>[A_ JV es cs,D7.row Kd.u8 Al L]) (fun(k:Nat) (es:List Entry) (V:Value) (cs:List Value) (L:List UInt8) (zz:Bool) (Al:Option Addr) (cl:Nat)=>v107.toNat - k) (0) ([]) (_) ([]) (L107) (z107) (_) (_) rfl rfl rfl (λa w h=>⟨⟨⟨rfl,by omega,l107,k107⟩,.inl rfl,λh=>⟨h,rfl⟩,λh=>.inl h⟩,h.Hf (is:=[1,1,0,0]) (js:=[0,1,1,2,3,4,5,6,7,8,9,10,11,12,13,14]) (ks:=[0,3,4,15]) ⟨rfl,trivial⟩ rfl rfl rfl⟩) ?_
 intro k es V cs L zz Al cl hk
 try dsimp only[List.cons_append,List.nil_append] at hk ⊢
 refine AB ?_;refine AV 4 ?_;refine Ak 111 ?_ ?_
 ·intro h8;try simp only[D6] at h8
  refine AA 3 ?_;refine Aj 0 ?_;refine AL 2 ?_;refine Af ?_ ?_
  ·intro h9;try simp only[D6] at h9
   refine GC.skip (?_:GC _ _ _ _)
   refine AB ?_;refine GC.block ?_;refine AV 3 ?_;refine Ad 0 ?_;refine Ah Tryz.call142 [] [1] rfl rfl rfl (by exact r7ent_ct _ L _ hk.1.2.2.1 hk.1.2.2.2 (by omega)) ?_
   rintro _ _ _ ⟨g125,t125,f125,A125,cp125,B125,cq125,C125,cr125,hs125,⟨ht125,hl125⟩,j125,k125,l125,m125,n125,o125,rfl,rfl,rfl⟩
   refine AA 4 ?_;refine GL.step rfl (EH rfl Ia) (Aa λb_t17=>?_);refine Ar 0 ?_;refine AL 2 ?_;refine AV 3 ?_;refine Ah Tryz.call137 [1] [4] rfl rfl rfl (by exact VU _ _ _ L _ t125 f125 zz (λ_=>ht125) hk.1.2.2.1 hk.1.2.2.2) ?_
   rintro _ _ _ ⟨z132,L132,A132,c132,ht132,hx132,l132,k132,rfl,rfl,rfl⟩
   refine Ap ?_;refine GC.region ?_;refine AA 1 ?_;refine Ad 2 ?_;refine Az 1 12 ?_;refine GL.snoc (j:=4) (js:=[1,2,3]) g125 ((),((),((),((),((),(((),((),((),((A125,cp125),(B125,cq125))))),((),(C125,cr125)))))))) rfl rfl ⟨trivial,trivial,trivial,trivial,trivial,⟨trivial,trivial,trivial,⟨j125,k125⟩,⟨l125,m125⟩⟩,trivial,n125,o125⟩ ?_
   refine GL.step rfl (EC rfl Tryz.underlying62 F9 Ia rfl rfl rfl rfl rfl rfl) (Aa λb_t136=>?_);refine GL.step rfl (Eh (i:=4) (k:=0) rfl el_62 rfl rfl rfl rfl rfl (EX rfl) (by have:=hk.1.1;have:=hk.2.1;omega) (λ_=>rfl)) (Aa λv137=>?_)
   refine GL.shape (i:=4) rfl (λA_v137 c_v137 e_v137 l_v137 k_v137=>?_)
   subst e_v137
   refine AA 1 ?_;refine BI 3 ?_
   refine Ac (?_:GC _ _ _ _)
   refine GC.region ?_;refine AA 1 ?_;refine AO rfl (EU rfl rfl (bn (by omega) (by omega))) ?_;refine AA 1 ?_;refine Ac ?_
   exact λa w h=>⟨(k+1),(es++[g125]),(_),(_),(L132),(z132),(_),(_),(by omega),⟨⟨by simp;omega,by omega,l132,k132⟩,Ym hc107 hk.2.2 (by rw[oC];assumption) (by assumption),U1 (by rw[oC];assumption) hk.2.2 (went_rd hs125 ht132) (by omega)⟩,by rw[List.length_append];exact h.cut (is:=[1,2,2,2]) (js:=[0,1,7,8,9,10,11,12,13,14,15,16,17,18,19,20]) ⟨rfl,rfl,rfl,rfl,rfl,trivial⟩ rfl rfl⟩
  intro h9;try simp only[D6] at h9
  refine GC.exit (?_:GC _ _ _ _)
  refine AX ?_;refine GL.shape (i:=2) rfl (λA_EN c_EN e_EN l_EN k_EN=>?_)
  subst e_EN
  refine GL.IQ (i:=2) (j:=0) rfl rfl (by decide) ?_;refine Az 1 28 ?_;refine Ar 2 ?_;refine Ap ?_;refine GC.ret (DC 4 64 2 28 [0] [10,11,9,8,4,5,6,0,2] ?_)
  exact zq105_
 intro h8;try simp only[D6] at h8
 refine AL 6 ?_;refine AY rfl ?_
 refine GC.exit (?_:GC _ _ _ _)
 refine AX ?_;refine GL.shape (i:=2) rfl (λA_EN c_EN e_EN l_EN k_EN=>?_)
 subst e_EN
 refine GL.IQ (i:=2) (j:=0) rfl rfl (by decide) ?_;refine Az 1 28 ?_;refine Ar 2 ?_;refine Ap ?_;refine GC.ret (DC 4 64 2 28 [0] [10,11,9,8,4,5,6,0,2] ?_)
 exact zq105_
theorem ropen_ct(A:Option Addr)(b:List UInt8)(cp:Nat)(h4:4<=b.length)(hb:b.length<=cp)(Gl:cp<=9223372036854775807)(hb':b.length<=100000000000):Ct Tryz.prog 136 [.slice A b.length cp] [] [D7.row Kd.u8 A b]
    (λu G Q=>∃(A':Option Addr) (n c':Nat) (k:Int),(k=0↔Gy (seg b 0 (b.length - 4))=b)/\u=.tuple #[.slice A' n c',.int .i64 k]/\G=[]/\Q=[]):=by
 have hsl:(seg b 0 (b.length - 4)).length=b.length - 4:=by rw[seg_length (by omega)];omega
 refine Ct.intro Tryz.func136 rfl rfl rfl (λc hc=>?_)
 refine AP 2 ?_;refine AB ?_;refine AP 3 ?_;refine Af ?_ ?_
 ·intro h1;try simp only[D6] at h1
  exfalso;omega
 intro h1;try simp only[D6] at h1
 refine GC.skip (?_:GC _ _ _ _)
 refine AX ?_;refine GL.step rfl (EC rfl Tryz.underlying47 Fa Jd rfl rfl rfl rfl rfl rfl) (Aa λZA=>?_);refine AA 3 ?_;refine AO rfl (Jv rfl rfl (Fh (by omega) (by omega))) ?_;refine GL.step rfl (QE (j:=0) rfl rfl rfl rfl Tryz.underlying47 Fa (by omega) (by omega) (by omega)) ?_
 rw[show((b.length:Int) - 4).toNat=b.length - 4 by omega]
 refine Ci (i:=0) (m:=0) (sz:=1) rfl rfl (by decide) rfl ?_;refine GL.step rfl (Ep (i:=0) (k:=0) rfl Fv rfl rfl rfl rfl (by simp;omega) (λ_=>rfl)) (Aa λv14=>?_)
 refine GL.rowIs (i:=0) (m':=((seg b 0 (b.length - 4))).length) (cs':=((seg b 0 (b.length - 4))).map JE) rfl (by first|(simp only[List.length_append,List.length_cons,List.length_nil,List.append_assoc];done)|(simp only[List.length_append,List.length_cons,List.length_nil,List.append_assoc];omega)|(simp;done)|(simp;omega)|rfl) (by first|(simp only[List.map_append,List.map_cons,List.map_nil,List.append_assoc];done)|(simp;done)|rfl) rfl ?_
 refine GL.shape (i:=0) rfl (λA_t8 c_t8 e_t8 l_t8 k_t8=>?_)
 subst e_t8
 refine GL.EN (i:=0) rfl ?_;refine AL 1 ?_
 iterate 2 refine AB ?_
 refine BF (m:=6) (is:=[]) (js:=[0,1,2]) Ef rfl rfl rfl ?_;refine AZ 0 [] [0,1,2] ?_;refine AZ 3 [] [0,1,2] ?_;refine BA 4 rfl [] [0,1,2] (i_mem (Lu (i:=2) rfl rfl Tryz.underlying47 Tryz.underlying5 Tryz.underlying9)) ?_
 refine Aw [1] ?_
 refine E8.cons (i:=1) rfl rfl (EI rfl Tryz.call127 rfl (is:=[]) (js:=[0]) rfl rfl (by exact Zh _ (seg b 0 (b.length - 4)) _ (by omega))) (by rintro a w ⟨_,_,_,⟨A16,r_,l16,k16,rfl,rfl,rfl⟩,h⟩;exact h.me [] [0,1,2]) (GA.ret ?_) Ag
 rintro _ _ _ ⟨A16,r_,l16,k16,rfl,rfl,rfl⟩
 refine GA.EN (i:=0) rfl ?_;refine Aw [2] ?_
 refine E8.cons (i:=2) rfl rfl (Ed rfl (Lu (i:=0) rfl rfl Tryz.underlying47 Tryz.underlying5 Tryz.underlying9)) (by rintro a w h;exact h.me [] [1,2,3]) ?_ Ag
 refine BA 5 rfl [] [1,2,3] (EK (YU rfl rfl)) ?_
 refine BG (by kernel_rfl) (?_:GC _ _ _ _)
 refine Af ?_ ?_
 ·intro h2;try simp only[D6] at h2
  refine AP 2 ?_;refine GC.ret (BR 2 3 [] [] ?_)
  exact⟨_,_,_,31,⟨λh=>absurd h (by decide),λh=>by simp_all⟩,rfl,rfl,rfl⟩
 intro h2;try simp only[D6] at h2
 refine GC.skip (?_:GC _ _ _ _)
 refine AP 3 ?_;refine GC.ret (BR 2 3 [] [] ?_)
 exact⟨_,_,_,0,⟨λ_=>by simp_all,λ_=>rfl⟩,rfl,rfl,rfl⟩
theorem Xq(A:Option Addr)(b:List UInt8)(cp:Nat)(hb:b.length<=100000000000)(hcp:b.length<=cp)(Gl:cp<=9223372036854775807):Ct Tryz.prog 82 [.slice A b.length cp,.int .i64 0] [] [D7.row Kd.u8 A b]
    (λu G Q=>∃k s A' bd c' n,bd.length<=c'/\c'<=9223372036854775807/\rdR b k s bd n/\u=.tuple #[.agg #[.int .u8 k,.int .u64 s,.slice A' bd.length c'],.int .i64 n,.int .i64 (XM b)]/\G=[]/\Q=[D7.row Kd.u8 A' bd]):=by
 have hg12:16<=b.length->JL b 12 4=Jc b:=λh=>if_pos (by omega)
 have hg4:16<=b.length->JL b 4 8=GH (seg b 4 12):=λh=>if_pos (by omega)
 refine Ct.intro Tryz.func82 rfl rfl rfl (λc hc=>?_)
 refine AX ?_;refine GL.step rfl (EH rfl H6) (Aa λKZ=>?_);refine AL 2 ?_;refine AB ?_;refine AX ?_;refine GL.know (q:=D7.row Kd.u8 none []) (λ_ _ _=>.inl rfl) ?_;refine AA 3 ?_
 refine Ak 18 ?_ ?_
 ·intro h1;try simp only[D6] at h1
  exfalso;omega
 intro h1;try simp only[D6] at h1
 refine AL 5 ?_;refine Af ?_ ?_
 ·intro h2;try simp only[D6] at h2
  exfalso;omega
 intro h2;try simp only[D6] at h2
 refine GC.skip (?_:GC _ _ _ _)
 refine AV 2 ?_;refine GL.step rfl (Jk (j:=1) rfl rfl rfl rfl Tryz.underlying47 Fa (by omega) (by omega) (by omega)) ?_
 rw[show(0:Int).toNat=0 from rfl,RS]
 refine AL 1 ?_;refine AB ?_;refine AP 3 ?_;refine Af ?_ ?_
 ·intro h3;try simp only[D6] at h3
  refine AX ?_;refine AO rfl (ED H6 JA rfl rfl) ?_;refine Ar 0 ?_;refine AL 2 ?_;refine GC.ret (Fin.c2 4 121 5 6 0 3 [] [1] ?_)
  have e:=rd1 (b:=b) (by omega)
  exact Nh
 intro h3;try simp only[D6] at h3
 refine GC.skip (?_:GC _ _ _ _)
 refine AV 1 ?_;refine Ah Tryz.call135 [] [0] rfl rfl rfl (by exact Np _ b _ 12 4 (by omega) (by omega) (by omega) (by omega) (by omega)) ?_
 rintro _ _ _ ⟨rfl,rfl,rfl⟩
 refine AL 7 ?_;refine AB ?_;refine AX ?_
 rw[hg12 (by omega)]
 refine AA 1 ?_;refine GL.step rfl (Ej (i:=0) rfl rfl rfl rfl Tryz.underlying47 Fa (by omega) (EW (by omega) (by omega))) (Aa λp_x39=>Aa λr_x39=>GL.and λok_x39=>?_)
 rcases r_x39 with _
 refine GL.step rfl (Ed rfl (ES (i:=0) rfl rfl Oa rfl)) ?_;refine AA 2 ?_;refine Ak 42 ?_ ?_
 ·intro h4;try simp only[D6] at h4
  refine AL 15 ?_;refine AU rfl ?_;refine AX ?_;refine AO rfl (ED H6 JA rfl rfl) ?_;refine Ar 0 ?_;refine AL 2 ?_;refine GC.ret (Fin.c2 4 121 5 6 0 3 [] [2] ?_)
  have e:=rd2 (b:=b) (by omega) (by omega)
  exact Nh
 intro h4;try simp only[D6] at h4
 refine AA 1 ?_;refine Au rfl (s:=42) rfl rfl (Ej (i:=1) rfl rfl rfl rfl Tryz.underlying47 Fa (by omega) (EW (by omega) (by omega))) (Aa λp_x44=>Aa λZn=>GL.and λok_x44=>?_)
 rcases Zn with _
 refine Au rfl (s:=42) rfl rfl (Ed rfl (ES (i:=0) rfl rfl Oa rfl)) ?_;refine AA 3 ?_;refine Ak 48 ?_ ?_
 ·intro h5;try simp only[D6] at h5
  refine AL 9 ?_;refine AU rfl ?_;refine AX ?_;refine AO rfl (ED H6 JA rfl rfl) ?_;refine Ar 0 ?_;refine AL 2 ?_;refine GC.ret (Fin.c2 4 121 5 6 0 3 [] [3] ?_)
  have e:=rd2 (b:=b) (by omega) (by omega)
  exact Nh
 intro h5;try simp only[D6] at h5
 refine AA 1 ?_;refine Au rfl (s:=48) rfl rfl (Ej (i:=2) rfl rfl rfl rfl Tryz.underlying47 Fa (by omega) (EW (by omega) (by omega))) (Aa λZ4=>Aa λPg=>GL.and λVu=>?_)
 rcases Pg with _
 refine Au rfl (s:=48) rfl rfl (Ed rfl (ES (i:=0) rfl rfl Oa rfl)) ?_;refine AA 3 ?_;refine Ak 54 ?_ ?_
 ·intro h6;try simp only[D6] at h6
  refine AL 3 ?_;refine AU rfl ?_;refine AX ?_;refine AO rfl (ED H6 JA rfl rfl) ?_;refine Ar 0 ?_;refine AL 2 ?_;refine GC.ret (Fin.c2 4 121 5 6 0 3 [] [4] ?_)
  have e:=rd2 (b:=b) (by omega) (by omega)
  exact Nh
 intro h6;try simp only[D6] at h6
 refine AL 3 ?_;refine Af ?_ ?_
 ·intro h7;try simp only[D6] at h7
  refine AX ?_;refine AO rfl (ED H6 JA rfl rfl) ?_;refine Ar 0 ?_;refine AL 2 ?_;refine GC.ret (Fin.c2 4 121 5 6 0 3 [] [4] ?_)
  have e:=rd2 (b:=b) (by omega) (by omega)
  exact Nh
 intro h7;try simp only[D6] at h7
 refine GC.skip (?_:GC _ _ _ _)
 refine AB ?_;refine AV 2 ?_;refine AO rfl (Jv rfl rfl (Fh (by omega) (by omega))) ?_;refine AA 1 ?_;refine AO rfl (EO (t:=45) (r:=((Jc b:Nat):Int)) (by rw[Tryz.underlying45];simp) Tryz.underlying3 rfl (W9 (by omega) (by omega))) ?_
 refine AL 1 ?_;refine Af ?_ ?_
 ·intro h8;try simp only[D6] at h8
  refine AX ?_;refine AO rfl (ED H6 JA rfl rfl) ?_;refine Ar 0 ?_;refine AL 2 ?_;refine GC.ret (Fin.c2 4 121 5 6 0 3 [] [4] ?_)
  have e:=rd3 (b:=b) (by omega) (by omega) (by omega)
  exact Nh
 intro h8;try simp only[D6] at h8
 refine GC.skip (?_:GC _ _ _ _)
 refine AX ?_
 have hsl:(seg b 0 (Jc b+20)).length=Jc b+20:=by rw[seg_length (by omega)];omega
 have hsg:seg (seg b 0 (Jc b+20)) 0 ((seg b 0 (Jc b+20)).length - 4)=seg b 0 (Jc b+16):=by rw[hsl];exact Uo (by omega)
 refine AA 2 ?_;refine AO rfl (EO (t:=45) (r:=((Jc b:Nat):Int)) (by rw[Tryz.underlying45];simp) Tryz.underlying3 rfl (W9 (by omega) (by omega))) ?_
 refine AO rfl (EU rfl rfl (Fh (by omega) (by omega))) ?_;refine GL.step rfl (QE (j:=3) rfl rfl rfl rfl Tryz.underlying47 Fa (by omega) (by omega) (by omega)) ?_
 rw[show(20+((Jc b:Nat):Int)).toNat=Jc b+20 by omega]
 refine Ah Tryz.call136 [] [0] rfl rfl rfl (by exact ropen_ct _ (seg b 0 (Jc b+20)) _ (by omega) (by omega) (by omega) (by omega)) ?_
 rintro _ _ _ ⟨A72,n72,c72,k72,ay,rfl,rfl,rfl⟩
 refine AL 5 ?_;refine AB ?_;refine AP 2 ?_;refine Af ?_ ?_
 ·intro h9;try simp only[D6] at h9
  refine AX ?_;refine AO rfl (ED H6 JA rfl rfl) ?_;refine Ar 0 ?_;refine AL 2 ?_;refine GC.ret (Fin.c2 4 121 5 6 0 3 [] [5] ?_)
  have e:=rd4 (b:=b) (by omega) (by omega) (by omega) (λh=>by rw[hsg] at ay;have:=ay.2 h;omega)
  exact Nh
 intro h9;try simp only[D6] at h9
 refine GC.skip (?_:GC _ _ _ _)
 refine AV 1 ?_;refine Ah Tryz.call135 [] [4] rfl rfl rfl (by exact Np _ b _ 4 8 (by omega) (by omega) (by omega) (by omega) (by omega)) ?_
 rintro _ _ _ ⟨rfl,rfl,rfl⟩
 refine AL 7 ?_;refine AB ?_
 have hbl:(seg b 16 (Jc b+16)).length=Jc b:=by rw[seg_length (by omega)];omega
 rw[hg4 (by omega)]
 refine BM (y:=.const (.int .i64 (2))) (j:=4) rfl rfl (by omega) (EW (by omega) (by omega)) (λp_x85 r_x85 iR ok_x85=>?_)
 rcases r_x85 with _
 refine BF (m:=20) (is:=[]) (js:=(up 0 8)) Ef rfl rfl rfl ?_;refine AZ 0 [] (up 0 8) ?_;refine BA 1 rfl [] (up 0 8) (EK (Eb iR rfl rfl Tryz.underlying47 Fa (by omega) (by omega))) ?_
 refine BA 2 rfl [] (up 0 8) (i_mem (ES (i:=0) rfl rfl Oa rfl)) ?_;refine AZ 3 [] (up 0 8) ?_;refine AZ 5 [] (up 0 8) ?_;refine AZ 6 [] (up 0 8) ?_;refine BA 7 rfl [] (up 0 8) (EK (EO (t:=45) (r:=((Jc b:Nat):Int)) (by rw[Tryz.underlying45];simp) Tryz.underlying3 rfl (W9 (by omega) (by omega)))) ?_
 refine BA 8 rfl [] (up 0 8) (EK (EU rfl rfl (Fh (by omega) (by omega)))) ?_;refine AZ 12 [] (up 0 8) ?_;refine BA 13 rfl [] (up 0 8) (EK (EU rfl rfl (Fh (by omega) (by omega)))) ?_;refine AZ 14 [] (up 0 8) ?_
 refine BA 15 rfl [] (up 0 8) (EK (EO (t:=45) (r:=((Jc b:Nat):Int)) (by rw[Tryz.underlying45];simp) Tryz.underlying3 rfl (W9 (by omega) (by omega)))) ?_;refine BA 16 rfl [] (up 0 8) (EK (EU rfl rfl (Fh (by omega) (by omega)))) ?_
 refine Aw [4,9] ?_
 refine E8.cons (i:=4) rfl rfl (EC rfl Tryz.underlying47 Fa Jd rfl rfl rfl rfl rfl rfl) (by rintro a w ⟨_,h⟩;exact h.me [] (up 0 8)) (BZ λb_t88=>?_) ?_
 ·refine Aw [9] ?_
  refine E8.cons (i:=9) rfl rfl (PW (j:=5) rfl rfl rfl rfl rfl Tryz.underlying47 Fa (by omega) (by omega) (by omega) (by omega)) (by rintro a w h;exact h.me [] (up 1 8)) ?_ Ag
  rw[show(16:Int).toNat=16 from rfl,show(16+((Jc b:Nat):Int)).toNat=Jc b+16 by omega]
  refine GA.VH (i:=0) (m:=0) (sz:=1) rfl rfl (by decide) rfl ?_;refine Aw [10] ?_
  refine E8.cons (i:=10) rfl rfl (Ep (i:=0) (k:=0) rfl Fv rfl rfl rfl rfl (by rw[hbl];omega) (λ_=>rfl)) (by rintro a w ⟨_,h⟩;exact h.me [] (up 1 8)) (BZ λv94=>?_) Ag
  refine GA.shape (i:=0) rfl (λA_v94 c_v94 e_v94 l_v94 k_v94=>?_)
  subst e_v94
  refine BA 11 rfl [] (up 1 8) (EK (ED H6 JA rfl rfl)) ?_;refine Aw [17] ?_
  refine E8.cons (i:=17) rfl rfl (EZ (i:=1) rfl rfl rfl dh rfl rfl rfl) (by rintro a w h;exact h.me [] (up 1 8)) ?_ Ag
  refine AZ 18 [] (up 1 8) ?_;refine AZ 19 [] (up 1 8) ?_
  rw[Nat.zero_add]
  refine GA.rowIs (i:=0) (m':=((seg b 16 (Jc b+16))).length) (cs':=((seg b 16 (Jc b+16))).map JE) rfl (by first|(simp only[List.length_append,List.length_cons,List.length_nil,List.append_assoc];done)|(simp only[List.length_append,List.length_cons,List.length_nil,List.append_assoc];omega)|(simp;done)|(simp;omega)|rfl) (by first|(simp only[List.map_append,List.map_cons,List.map_nil,List.append_assoc];done)|(simp;done)|rfl) rfl ?_
  refine GA.EN (i:=0) rfl ?_
  refine BG (by kernel_rfl) (?_:GC _ _ _ _)
  refine GC.ret (Fin.c2 4 121 5 6 0 3 [] [0] ?_)
  have e:=rd5 (b:=b) (by omega) (by omega) (by omega) (by rw[hsg] at ay;exact ay.1 (by omega))
  refine⟨_,_,_,_,_,_,?_,k_v94,?_,by rw[e];rfl,rfl,rfl⟩
  ·omega
  exact λh=>⟨rfl,rfl,rfl,by omega,by omega⟩
 refine E8.cons (i:=9) rfl rfl (PW (j:=5) rfl rfl rfl rfl rfl Tryz.underlying47 Fa (by omega) (by omega) (by omega) (by omega)) (by rintro a w h;exact h.me [] (up 1 8)) ?_ Ag
 refine Aw [4] ?_
 refine E8.cons (i:=4) rfl rfl (EC rfl Tryz.underlying47 Fa Jd rfl rfl rfl rfl rfl rfl) (by rintro a w ⟨_,h⟩;exact h.me [] (up 1 8)) (BZ λb_t88=>?_) Ag
 rw[show(16:Int).toNat=16 from rfl,show(16+((Jc b:Nat):Int)).toNat=Jc b+16 by omega]
 refine GA.VH (i:=0) (m:=0) (sz:=1) rfl rfl (by decide) rfl ?_;refine Aw [10] ?_
 refine E8.cons (i:=10) rfl rfl (Ep (i:=0) (k:=0) rfl Fv rfl rfl rfl rfl (by rw[hbl];omega) (λ_=>rfl)) (by rintro a w ⟨_,h⟩;exact h.me [] (up 1 8)) (BZ λv94=>?_) Ag
 refine GA.shape (i:=0) rfl (λA_v94 c_v94 e_v94 l_v94 k_v94=>?_)
 subst e_v94
 refine BA 11 rfl [] (up 1 8) (EK (ED H6 JA rfl rfl)) ?_;refine Aw [17] ?_
 refine E8.cons (i:=17) rfl rfl (EZ (i:=1) rfl rfl rfl dh rfl rfl rfl) (by rintro a w h;exact h.me [] (up 1 8)) ?_ Ag
 refine AZ 18 [] (up 1 8) ?_;refine AZ 19 [] (up 1 8) ?_
 rw[Nat.zero_add]
 refine GA.rowIs (i:=0) (m':=((seg b 16 (Jc b+16))).length) (cs':=((seg b 16 (Jc b+16))).map JE) rfl (by first|(simp only[List.length_append,List.length_cons,List.length_nil,List.append_assoc];done)|(simp only[List.length_append,List.length_cons,List.length_nil,List.append_assoc];omega)|(simp;done)|(simp;omega)|rfl) (by first|(simp only[List.map_append,List.map_cons,List.map_nil,List.append_assoc];done)|(simp;done)|rfl) rfl ?_
 refine GA.EN (i:=0) rfl ?_
 refine BG (by kernel_rfl) (?_:GC _ _ _ _)
 refine GC.ret (Fin.c2 4 121 5 6 0 3 [] [0] ?_)
 have e:=rd5 (b:=b) (by omega) (by omega) (by omega) (by rw[hsg] at ay;exact ay.1 (by omega))
 refine⟨_,_,_,_,_,_,?_,k_v94,?_,by rw[e];rfl,rfl,rfl⟩
 ·omega
 exact λh=>⟨rfl,rfl,rfl,by omega,by omega⟩
theorem pU(s:I4)(h:Gj s)(A:Option Addr)(cp:Nat)(B:Option Addr)(cq:Nat)(C:Option Addr)(cr:Nat)(hs:IU s):Ct Tryz.prog 124 [Nw s A cp B cq C cr] [] (NW s A B C) (λu G Q=>u=.int .i64 0/\G=[]/\Q=[]):=by
 have:=TA s A cp B cq C cr hs
 rw[show YJ s=0 from if_pos h] at this
 exact this
theorem kF(s:I4):FK 8 s.num.toNat++FK 4 s.Jo.bl.toNat++FK 4 s.Jo.sz.toNat++FK 4 (s.pages.length:Int).toNat=JI s:=by rw[JI,Qb,qy];simp only[List.append_assoc]
theorem pgB_eq(p:F5):FK 4 p.at_.toNat++FK 8 p.ver.toNat++FK 4 p.data.length++p.data=OE p:=by rw[OE,Qb,Qb]
theorem OT(r:Row):FK 8 r.client.toNat++FK 8 r.serial.toNat++NZ r.result=FZ r:=by rw[FZ,flZ_two]
set_option maxHeartbeats 2000000 in
theorem UL(s:I4)(A:Option Addr)(cp:Nat)(B:Option Addr)(cq:Nat)(C:Option Addr)(cr:Nat)(hs:IU s)(hh:Gj s):Ct Tryz.prog 133 [Nw s A cp B cq C cr] [] (NW s A B C)
    (λu G Q=>((JR s).length<=33554432/\∃A' cp',(JR s).length<=cp'/\cp'<=9223372036854775807/\u=.tuple #[.slice A' (JR s).length cp',.int .i64 0]/\G=[rowOf A' cp' (JR s)]/\Q=[])\/(33554432<(JR s).length/\u=.tuple #[.slice none 0 0,.int .i64 2]/\G=[]/\Q=[])):=by
 have hr:=NM hh
 obtain⟨n1,b1,s1,pl,rl,pg,Zf,gr⟩:=NM hh
 have hH:=VL s
 have hpa:=YS hr
 have hra:=YL hr
 have hgl:=P7 gr
 refine Ct.intro Tryz.func133 rfl rfl rfl (λc hc=>?_)
 refine AX ?_;refine GL.step rfl (Ee rfl rfl rfl) (Aa λIJ=>?_);refine AL 2 ?_;refine AB ?_;refine AX ?_;refine Az 0 7 ?_;refine Ah Tryz.call124 [] [0,1,2] rfl rfl rfl (by exact pU s hh _ _ _ _ _ _ hs) ?_
 rintro _ _ _ ⟨rfl,rfl,rfl⟩
 refine AL 1 ?_;refine AY rfl ?_
 refine GC.skip (?_:GC _ _ _ _)
 refine CQ (ks:=[1]) (is:=[0]) (js:=[0,1,2]) (fun(A1:Option Addr) (c1:Nat)=>(JI s).length<=c1/\c1<=9223372036854775807) (fun(A1:Option Addr) (c1:Nat)=>[(4,.slice A1 (JI s).length c1)]) (fun(A1:Option Addr) (c1:Nat)=>[rowOf A1 c1 (JI s)]) (fun(A1:Option Addr) (c1:Nat)=>[]) rfl rfl rfl ?_ ?_
 ·refine BF (m:=16) (is:=[0]) (js:=[0,1,2]) Ef rfl rfl rfl ?_;refine AZ 0 [0] [0,1,2] ?_;refine BA 1 rfl [0] [0,1,2] (i_mem (EF (i:=0) rfl rfl Ei rfl)) ?_;refine AZ 3 [0] [0,1,2] ?_
  refine AZ 4 [0] [0,1,2] ?_;refine BA 5 rfl [0] [0,1,2] (i_mem (EF (i:=0) rfl rfl Ei rfl)) ?_;refine AZ 7 [0] [0,1,2] ?_;refine AZ 8 [0] [0,1,2] ?_;refine BA 9 rfl [0] [0,1,2] (i_mem (EF (i:=0) rfl rfl Ei rfl)) ?_
  refine AZ 11 [0] [0,1,2] ?_;refine BA 12 rfl [0] [0,1,2] (i_mem (EF (i:=0) rfl rfl Qq rfl)) ?_;refine AZ 13 [0] [0,1,2] ?_;refine Aw [2] ?_
  refine E8.cons (i:=2) rfl rfl (EI rfl Tryz.call178 rfl (is:=[]) (js:=[]) rfl rfl (by exact TM s.num 8 (by omega) (by omega) (by omega) (by rw[Gi];omega))) (by rintro a w ⟨_,_,_,⟨jT,cp15,l15,k15,rfl,rfl,rfl⟩,h⟩;exact h.me [1] [0,1,2]) (GA.ret ?_) Ag
  rintro _ _ _ ⟨jT,cp15,l15,k15,rfl,rfl,rfl⟩
  refine GA.EN (i:=0) rfl ?_;refine Aw [6] ?_
  refine E8.cons (i:=6) rfl rfl (EI rfl Tryz.call178 rfl (is:=[]) (js:=[0]) rfl rfl (by exact I_ _ (FK 8 s.num.toNat) _ s.Jo.bl 4 (by omega) (by omega) (by simp[D_]) (by omega) (by rw[Gn];omega))) (by rintro a w ⟨_,_,_,⟨A19,ru,l19,k19,rfl,rfl,rfl⟩,h⟩;exact h.me [1] [1,2,3]) (GA.ret ?_) Ag
  rintro _ _ _ ⟨A19,ru,l19,k19,rfl,rfl,rfl⟩
  refine GA.EN (i:=0) rfl ?_;refine Aw [10] ?_
  refine E8.cons (i:=10) rfl rfl (EI rfl Tryz.call178 rfl (is:=[]) (js:=[0]) rfl rfl (by exact I_ _ (FK 8 s.num.toNat++FK 4 s.Jo.bl.toNat) _ s.Jo.sz 4 (by omega) (by omega) (by simp[D_]) (by omega) (by rw[Gn];omega))) (by rintro a w ⟨_,_,_,⟨A23,cp23,l23,k23,rfl,rfl,rfl⟩,h⟩;exact h.me [1] [2,3,4]) (GA.ret ?_) Ag
  rintro _ _ _ ⟨A23,cp23,l23,k23,rfl,rfl,rfl⟩
  refine GA.EN (i:=0) rfl ?_;refine Aw [14] ?_
  refine E8.cons (i:=14) rfl rfl (EI rfl Tryz.call178 rfl (is:=[]) (js:=[0]) rfl rfl (by exact I_ _ (FK 8 s.num.toNat++FK 4 s.Jo.bl.toNat++FK 4 s.Jo.sz.toNat) _ (s.pages.length:Int) 4 (by omega) (by omega) (by simp[D_]) (by omega) (by rw[Gn];omega))) (by rintro a w ⟨_,_,_,⟨A27,jF,mQ,k27,rfl,rfl,rfl⟩,h⟩;exact h.me [1] [3,4,5]) (GA.ret ?_) Ag
  rintro _ _ _ ⟨A27,jF,mQ,k27,rfl,rfl,rfl⟩
  refine AZ 15 [1] [3,4,5] ?_;refine BG (by kernel_rfl) ?_
  exact λa w h=>⟨(A27),(jF),⟨by rw[<-kF];exact mQ,k27⟩,by rw[<-kF];exact h.ct [0,0] [3,4,5]⟩
 intro A1 c1 hj3
 try dsimp only[List.cons_append,List.nil_append] at hj3 ⊢
 refine AB ?_;refine AP 1 ?_;refine GC.block ?_;refine Bv (ks:=[1]) (is:=[1]) (js:=[0,1,2]) (fun(k:Nat) (A1:Option Addr) (c1:Nat)=>k<=s.pages.length) (fun(k:Nat) (A1:Option Addr) (c1:Nat)=>[(4,.slice A1 (JI s++(s.pages.take k).flatMap OE).length c1),(5,.int .i64 (k:Int))]) (fun(k:Nat) (A1:Option Addr) (c1:Nat)=>[rowOf A1 c1 (JI s++(s.pages.take k).flatMap OE)]) (fun(k:Nat) (A1:Option Addr) (c1:Nat)=>[]) (fun(k:Nat) (A1:Option Addr) (c1:Nat)=>s.pages.length - k) (0) (_) (_) rfl rfl rfl (λa w h=>⟨by omega,by simp only[List.take_zero,List.flatMap_nil,List.append_nil];exact h.Hf (is:=[0,0]) (js:=[0,1,2]) (ks:=[1]) ⟨rfl,rfl,trivial⟩ rfl rfl rfl⟩) ?_
 intro k A1 c1 hk
 try dsimp only[List.cons_append,List.nil_append] at hk ⊢
 refine AB ?_;refine AV 2 ?_;refine Ad 1 ?_;refine AL 2 ?_;refine Af ?_ ?_
 ·intro h1;try simp only[D6] at h1
  refine GC.skip (?_:GC _ _ _ _)
  refine AB ?_;refine GC.block ?_;refine AB ?_
  have hx:=pg _ (Ec (l:=s.pages) (k:=k) (by omega))
  refine BM (y:=.tmp 5) (j:=0) rfl rfl (by omega) (EW (by omega) (by omega)) (λp_x38 r_x38 hA_x38 ok_x38=>?_)
  rcases r_x38 with⟨_,⟨_,⟨Ax38_0,cpx38_0⟩⟩⟩
  refine BM (y:=.tmp 5) (j:=2) rfl rfl (by omega) (EW (by omega) (by omega)) (λp_x45 r_x45 hA_x45 ok_x45=>?_)
  rcases r_x45 with⟨_,⟨_,⟨Ax45_0,cpx45_0⟩⟩⟩
  refine BF (m:=15) (is:=[0,0]) (js:=(up 0 7)) Ef rfl rfl rfl ?_;refine AZ 0 [0,0] (up 0 7) ?_;refine BA 1 rfl [0,0] (up 0 7) (i_mem (EF (i:=1) rfl rfl Qq rfl)) ?_;refine AZ 2 [0,0] (up 0 7) ?_
  refine BA 3 rfl [0,0] (up 0 7) (EK (Eb hA_x38 rfl rfl Tryz.underlying58 Gs (by omega) (by omega))) ?_;refine BA 4 rfl [0,0] (up 0 7) (EK (EM SI rfl)) ?_;refine BA 5 rfl [0,0] (up 0 7) (i_mem (ES (i:=2) rfl rfl Ei rfl)) ?_
  refine AZ 7 [0,0] (up 0 7) ?_;refine BA 8 rfl [0,0] (up 0 7) (i_mem (EF (i:=1) rfl rfl Qq rfl)) ?_;refine AZ 9 [0,0] (up 0 7) ?_;refine BA 10 rfl [0,0] (up 0 7) (EK (Eb hA_x45 rfl rfl Tryz.underlying58 Gs (by omega) (by omega))) ?_
  refine BA 11 rfl [0,0] (up 0 7) (EK (EM SH rfl)) ?_;refine BA 12 rfl [0,0] (up 0 7) (i_mem (ES (i:=0) rfl rfl Ei rfl)) ?_;refine Aw [6] ?_
  refine E8.cons (i:=6) rfl rfl (EI rfl Tryz.call178 rfl (is:=[]) (js:=[]) rfl rfl (by exact TM (gt s.pages (k:Int)).at_ 4 (by omega) (by omega) (by omega) (by rw[Gn];omega))) (by rintro a w ⟨_,_,_,⟨A41,rZ,l41,k41,rfl,rfl,rfl⟩,h⟩;exact h.me [1,1] (up 0 7)) (GA.ret ?_) Ag
  rintro _ _ _ ⟨A41,rZ,l41,k41,rfl,rfl,rfl⟩
  refine GA.EN (i:=0) rfl ?_;refine Aw [13] ?_
  refine E8.cons (i:=13) rfl rfl (EI rfl Tryz.call178 rfl (is:=[]) (js:=[0]) rfl rfl (by exact I_ _ (FK 4 (gt s.pages (k:Int)).at_.toNat) _ (gt s.pages (k:Int)).ver 8 (by omega) (by omega) (by simp[D_]) (by omega) (by rw[Gi];omega))) (by rintro a w ⟨_,_,_,⟨A48,jE,l48,k48,rfl,rfl,rfl⟩,h⟩;exact h.me [1,1] (up 1 7)) (GA.ret ?_) Ag
  rintro _ _ _ ⟨A48,jE,l48,k48,rfl,rfl,rfl⟩
  refine AZ 14 [1,1] (up 1 7) ?_
  refine BG (by kernel_rfl) (?_:GC _ _ _ _)
  refine AV 2 ?_;refine Ad 2 ?_;refine AA 1 ?_;refine GL.step rfl (Ej (i:=5) rfl rfl rfl rfl Tryz.underlying58 Gs (by omega) (EW (by omega) (by omega))) (Aa λp_x54=>Aa λr_x54=>GL.and λok_x54=>?_)
  rcases r_x54 with⟨_,⟨_,⟨Ax54_0,cpx54_0⟩⟩⟩
  refine AO rfl (EM WW rfl) ?_;refine GL.step rfl (Ed rfl (ES (i:=0) rfl rfl G_ rfl)) ?_;refine GL.EN (i:=0) rfl ?_;refine Ah Tryz.call126 [] [0,2] rfl rfl rfl (by exact PX _ (FK 4 (gt s.pages (k:Int)).at_.toNat++FK 8 (gt s.pages (k:Int)).ver.toNat) _ _ (gt s.pages (k:Int)).data _ (by simp[D_]) (by omega)) ?_
  rintro _ _ _ ⟨A57,cp57,l57,k57,rfl,rfl,rfl⟩
  refine AL 4 ?_;refine GC.region ?_;refine AA 2 ?_;refine GL.EN (i:=0) rfl ?_;refine GL.step rfl (Ep (i:=0) (k:=0) rfl Fv rfl rfl rfl rfl (by(try simp only[List.length_append,List.length_cons,List.length_nil,List.length_map,List.length_take,EL,EG,D_]);first|omega|(have:=KL hr k;have:=KN (pg _ (Ec (l:=s.pages) (k:=k) (by omega))).2.2.2.2;omega)|(have:=KJ hr k;have:=I9 (Zf _ (Ec (l:=s.rows) (k:=k) (by omega))).2.2;rw[<-OT] at this;simp only[List.length_append,D_] at this;omega)) (λ_=>rfl)) (Aa λv62=>?_)
  refine GL.rowIs (i:=0) (m':=((JI s++(s.pages.take k).flatMap OE++(FK 4 (gt s.pages (k:Int)).at_.toNat++FK 8 (gt s.pages (k:Int)).ver.toNat++FK 4 (gt s.pages (k:Int)).data.length++(gt s.pages (k:Int)).data))).length) (cs':=((JI s++(s.pages.take k).flatMap OE++(FK 4 (gt s.pages (k:Int)).at_.toNat++FK 8 (gt s.pages (k:Int)).ver.toNat++FK 4 (gt s.pages (k:Int)).data.length++(gt s.pages (k:Int)).data))).map JE) rfl (by first|(simp only[List.length_append,List.length_cons,List.length_nil,List.append_assoc];done)|(simp only[List.length_append,List.length_cons,List.length_nil,List.append_assoc];omega)|(simp[FZ];done)|(simp[FZ];omega)|rfl) (by first|(simp only[List.map_append,List.map_cons,List.map_nil,List.append_assoc];done)|(simp[FZ];done)|rfl) rfl ?_
  refine GL.shape (i:=0) rfl (λSm SS Oz Ue Uf=>?_)
  subst Oz
  refine AA 1 ?_
  refine Ac (?_:GC _ _ _ _)
  refine GC.region ?_;refine AA 1 ?_;refine AO rfl (EU rfl rfl (Fh (by omega) (by omega))) ?_;refine AA 1 ?_;refine Ac ?_
  exact λa w h=>⟨(k+1),(Sm),(SS),(by omega),by omega,by rw[MC (by omega),<-List.append_assoc,<-pgB_eq];exact h.ct [0,0] [9,10,11]⟩
 intro h1;try simp only[D6] at h1
 refine GC.exit (?_:GC _ _ _ _)
 refine AB ?_
 obtain rfl:k=s.pages.length:=by omega
 rw[List.take_length]
 refine GC.region ?_;refine AA 2 ?_;refine Ad 1 ?_;refine AA 1 ?_;refine AO rfl (EO (t:=3) (r:=(((G9 (s.rows.length:Int)).toNat:Nat):Int)) (by rw[Tryz.underlying3];simp) Tryz.underlying5 rfl (cv8 (by omega) (by omega))) ?_
 refine GL.step rfl (EC rfl Tryz.underlying47 Fa Jd rfl rfl rfl rfl rfl rfl) (Aa λb_t68=>?_);refine GL.step rfl (Eh (i:=1) (k:=0) rfl Fv rfl rfl rfl rfl rfl (EX rfl) (by(try simp only[List.length_append,List.length_cons,List.length_nil,List.length_map,List.length_take,EL,EG,D_]);first|omega|(have:=KL hr k;have:=KN (pg _ (Ec (l:=s.pages) (k:=k) (by omega))).2.2.2.2;omega)|(have:=KJ hr k;have:=I9 (Zf _ (Ec (l:=s.rows) (k:=k) (by omega))).2.2;rw[<-OT] at this;simp only[List.length_append,D_] at this;omega)) (λ_=>rfl)) (Aa λv69=>?_)
 refine GL.rowIs (i:=1) (m':=((JI s++s.pages.flatMap OE++[G9 (s.rows.length:Int)])).length) (cs':=((JI s++s.pages.flatMap OE++[G9 (s.rows.length:Int)])).map JE) rfl (by first|(simp only[List.length_append,List.length_cons,List.length_nil,List.append_assoc];done)|(simp only[List.length_append,List.length_cons,List.length_nil,List.append_assoc];omega)|(simp[FZ];done)|(simp[FZ];omega)|rfl) (by first|(simp only[List.map_append,List.map_cons,List.map_nil,List.append_assoc];done)|(simp[FZ];done)|rfl) rfl ?_
 refine GL.shape (i:=1) rfl (λSm SS Oz Ue Uf=>?_)
 subst Oz
 refine AA 1 ?_
 refine Ac (?_:GC _ _ _ _)
 refine AB ?_;refine AP 1 ?_;refine GC.block ?_;refine Bv (ks:=[1]) (is:=[0,2]) (js:=[0,1,2]) (fun(k:Nat) (A1:Option Addr) (c1:Nat)=>k<=s.rows.length) (fun(k:Nat) (A1:Option Addr) (c1:Nat)=>[(4,.slice A1 (JI s++s.pages.flatMap OE++[G9 (s.rows.length:Int)]++(s.rows.take k).flatMap FZ).length c1),(7,.int .i64 (k:Int))]) (fun(k:Nat) (A1:Option Addr) (c1:Nat)=>[rowOf A1 c1 (JI s++s.pages.flatMap OE++[G9 (s.rows.length:Int)]++(s.rows.take k).flatMap FZ)]) (fun(k:Nat) (A1:Option Addr) (c1:Nat)=>[]) (fun(k:Nat) (A1:Option Addr) (c1:Nat)=>s.rows.length - k) (0) (_) (_) rfl rfl rfl (λa w h=>⟨by omega,by simp only[List.take_zero,List.flatMap_nil,List.append_nil];exact h.Hf (is:=[1,0,0]) (js:=[0,1,2]) (ks:=[1]) ⟨rfl,rfl,trivial⟩ rfl rfl rfl⟩) ?_
 intro k A1 c1 hk
 try dsimp only[List.cons_append,List.nil_append] at hk ⊢
 refine AB ?_;refine AV 2 ?_;refine Ad 2 ?_;refine AL 2 ?_;refine Af ?_ ?_
 ·intro h2;try simp only[D6] at h2
  refine GC.skip (?_:GC _ _ _ _)
  refine AB ?_;refine GC.block ?_;refine AB ?_
  have hx:=Zf _ (Ec (l:=s.rows) (k:=k) (by omega))
  refine GC.region ?_;refine AA 1 ?_;refine Ad 2 ?_;refine AA 1 ?_;refine GL.step rfl (Ej (i:=1) rfl rfl rfl rfl Tryz.underlying59 GY (by omega) (EW (by omega) (by omega))) (Aa λp_x81=>Aa λr_x81=>GL.and λok_x81=>?_)
  rcases r_x81 with⟨_,⟨_,⟨_,⟨Ax81_0,cpx81_0⟩⟩⟩⟩
  refine AO rfl (EM P8 rfl) ?_;refine GL.step rfl (Ed rfl (FX (i:=0) rfl rfl OZ (vs:=[_,_]) KI ⟨rfl,rfl,trivial⟩)) ?_;refine Ah Tryz.call131 [] [1] rfl rfl rfl (by exact Va (gt s.rows (k:Int)).result _ _ hx.2.2) ?_
  rintro _ _ _ ⟨A84,cp84,l84,k84,rfl,rfl,rfl⟩
  refine AA 5 ?_
  refine Ac (?_:GC _ _ _ _)
  refine GC.EN (i:=0) rfl ?_;refine BM (y:=.tmp 7) (j:=4) rfl rfl (by omega) (EW (by omega) (by omega)) (λp_x91 r_x91 hA_x91 ok_x91=>?_)
  rcases r_x91 with⟨_,⟨_,⟨_,⟨Ax91_0,cpx91_0⟩⟩⟩⟩
  refine BM (y:=.tmp 7) (j:=6) rfl rfl (by omega) (EW (by omega) (by omega)) (λp_x98 r_x98 hA_x98 ok_x98=>?_)
  rcases r_x98 with⟨_,⟨_,⟨_,⟨Ax98_0,cpx98_0⟩⟩⟩⟩
  refine BF (m:=19) (is:=[1,1]) (js:=(up 0 10)) Ef rfl rfl rfl ?_;refine AZ 0 [1,1] (up 0 10) ?_;refine AZ 1 [1,1] (up 0 10) ?_;refine BA 2 rfl [1,1] (up 0 10) (i_mem (EF (i:=1) rfl rfl ag_59 rfl)) ?_
  refine AZ 3 [1,1] (up 0 10) ?_;refine BA 4 rfl [1,1] (up 0 10) (EK (Eb hA_x91 rfl rfl Tryz.underlying59 GY (by omega) (by omega))) ?_;refine BA 5 rfl [1,1] (up 0 10) (EK (EM NQ rfl)) ?_
  refine BA 6 rfl [1,1] (up 0 10) (i_mem (ES (i:=2) rfl rfl Ei rfl)) ?_;refine AZ 8 [1,1] (up 0 10) ?_;refine BA 9 rfl [1,1] (up 0 10) (i_mem (EF (i:=1) rfl rfl ag_59 rfl)) ?_;refine AZ 10 [1,1] (up 0 10) ?_
  refine BA 11 rfl [1,1] (up 0 10) (EK (Eb hA_x98 rfl rfl Tryz.underlying59 GY (by omega) (by omega))) ?_;refine BA 12 rfl [1,1] (up 0 10) (EK (EM P9 rfl)) ?_;refine BA 13 rfl [1,1] (up 0 10) (i_mem (ES (i:=0) rfl rfl Ei rfl)) ?_
  refine AZ 16 [1,1] (up 0 10) ?_;refine Aw [7] ?_
  refine E8.cons (i:=7) rfl rfl (EI rfl Tryz.call178 rfl (is:=[]) (js:=[]) rfl rfl (by exact TM (gt s.rows (k:Int)).client 8 (by omega) (by omega) (by omega) (by rw[Gi];omega))) (by rintro a w ⟨_,_,_,⟨A94,cp94,l94,k94,rfl,rfl,rfl⟩,h⟩;exact h.me [2,2] (up 0 10)) (GA.ret ?_) Ag
  rintro _ _ _ ⟨A94,cp94,l94,k94,rfl,rfl,rfl⟩
  refine GA.EN (i:=0) rfl ?_;refine Aw [14] ?_
  refine E8.cons (i:=14) rfl rfl (EI rfl Tryz.call178 rfl (is:=[]) (js:=[0]) rfl rfl (by exact I_ _ (FK 8 (gt s.rows (k:Int)).client.toNat) _ (gt s.rows (k:Int)).serial 8 (by omega) (by omega) (by simp[D_]) (by omega) (by rw[Gi];omega))) (by rintro a w ⟨_,_,_,⟨A101,cp101,l101,k101,rfl,rfl,rfl⟩,h⟩;exact h.me [2,2] (up 1 10)) (GA.ret ?_) Ag
  rintro _ _ _ ⟨A101,cp101,l101,k101,rfl,rfl,rfl⟩
  refine GA.EN (i:=0) rfl ?_;refine Aw [15] ?_
  refine E8.cons (i:=15) rfl rfl (Ep (i:=0) (k:=0) rfl Fv rfl rfl rfl rfl (by(try simp only[List.length_append,List.length_cons,List.length_nil,List.length_map,List.length_take,EL,EG,D_]);first|omega|(have:=KL hr k;have:=KN (pg _ (Ec (l:=s.pages) (k:=k) (by omega))).2.2.2.2;omega)|(have:=KJ hr k;have:=I9 (Zf _ (Ec (l:=s.rows) (k:=k) (by omega))).2.2;rw[<-OT] at this;simp only[List.length_append,D_] at this;omega)) (λ_=>rfl)) (by rintro a w ⟨_,h⟩;exact h.me [1,1] (up 2 10)) (BZ λv102=>?_) Ag
  refine Aw [17] ?_
  refine E8.cons (i:=17) rfl rfl (Ep (i:=0) (k:=6) rfl Fv rfl rfl rfl rfl (by(try simp only[List.length_append,List.length_cons,List.length_nil,List.length_map,List.length_take,EL,EG,D_]);first|omega|(have:=KL hr k;have:=KN (pg _ (Ec (l:=s.pages) (k:=k) (by omega))).2.2.2.2;omega)|(have:=KJ hr k;have:=I9 (Zf _ (Ec (l:=s.rows) (k:=k) (by omega))).2.2;rw[<-OT] at this;simp only[List.length_append,D_] at this;omega)) (λ_=>rfl)) (by rintro a w ⟨_,h⟩;exact h.me [1,1] (up 2 10)) (BZ λv104=>?_) Ag
  refine AZ 18 [1,1] (up 2 10) ?_;refine GA.rowIs (i:=0) (m':=((JI s++s.pages.flatMap OE++[G9 (s.rows.length:Int)]++(s.rows.take k).flatMap FZ++(FK 8 (gt s.rows (k:Int)).client.toNat++FK 8 (gt s.rows (k:Int)).serial.toNat++NZ (gt s.rows (k:Int)).result))).length) (cs':=((JI s++s.pages.flatMap OE++[G9 (s.rows.length:Int)]++(s.rows.take k).flatMap FZ++(FK 8 (gt s.rows (k:Int)).client.toNat++FK 8 (gt s.rows (k:Int)).serial.toNat++NZ (gt s.rows (k:Int)).result))).map JE) rfl (by first|(simp only[List.length_append,List.length_cons,List.length_nil,List.append_assoc];done)|(simp only[List.length_append,List.length_cons,List.length_nil,List.append_assoc];omega)|(simp[FZ];done)|(simp[FZ];omega)|rfl) (by first|(simp only[List.map_append,List.map_cons,List.map_nil,List.append_assoc];done)|(simp[FZ];done)|rfl) rfl ?_
  refine GA.shape (i:=0) rfl (λSm SS Oz Ue Uf=>?_)
  subst Oz
  refine BG (by kernel_rfl) (?_:GC _ _ _ _)
  refine GC.region ?_;refine AA 1 ?_;refine AO rfl (EU rfl rfl (Fh (by omega) (by omega))) ?_;refine AA 1 ?_;refine Ac ?_
  exact λa w h=>⟨(k+1),(Sm),(SS),(by omega),by omega,by rw[MC (by omega),<-List.append_assoc,<-OT];exact h.ct [0,0,0] [9,10,11]⟩
 intro h2;try simp only[D6] at h2
 refine GC.exit (?_:GC _ _ _ _)
 refine AB ?_
 obtain rfl:k=s.rows.length:=by omega
 rw[List.take_length]
 refine GC.region ?_;refine AA 2 ?_;refine Az 2 2 ?_;refine Ah Tryz.call179 [] [2] rfl rfl rfl (by exact qF s.grp _ _ gr) ?_
 rintro _ _ _ ⟨A108,cp108,l108,k108,rfl,rfl,rfl⟩
 refine GL.EN (i:=0) rfl ?_;refine GL.step rfl (Ep (i:=0) (k:=0) rfl Fv rfl rfl rfl rfl (by(try simp only[List.length_append,List.length_cons,List.length_nil,List.length_map,List.length_take,EL,EG,D_]);first|omega|(have:=KL hr k;have:=KN (pg _ (Ec (l:=s.pages) (k:=k) (by omega))).2.2.2.2;omega)|(have:=KJ hr k;have:=I9 (Zf _ (Ec (l:=s.rows) (k:=k) (by omega))).2.2;rw[<-OT] at this;simp only[List.length_append,D_] at this;omega)) (λ_=>rfl)) (Aa λv109=>?_)
 refine GL.rowIs (i:=0) (m':=((JI s++s.pages.flatMap OE++[G9 (s.rows.length:Int)]++s.rows.flatMap FZ++JB s.grp)).length) (cs':=((JI s++s.pages.flatMap OE++[G9 (s.rows.length:Int)]++s.rows.flatMap FZ++JB s.grp)).map JE) rfl (by first|(simp only[List.length_append,List.length_cons,List.length_nil,List.append_assoc];done)|(simp only[List.length_append,List.length_cons,List.length_nil,List.append_assoc];omega)|(simp[FZ];done)|(simp[FZ];omega)|rfl) (by first|(simp only[List.map_append,List.map_cons,List.map_nil,List.append_assoc];done)|(simp[FZ];done)|rfl) rfl ?_
 refine GL.shape (i:=0) rfl (λSm SS Oz Ue Uf=>?_)
 subst Oz
 refine AA 1 ?_
 refine Ac (?_:GC _ _ _ _)
 iterate 2 refine AB ?_
 have hsb:(JI s++s.pages.flatMap OE++[G9 (s.rows.length:Int)]++s.rows.flatMap FZ++JB s.grp).length=(JR s).length:=rfl
 refine GC.region ?_;refine AA 3 ?_
 refine Ac (?_:GC _ _ _ _)
 refine Af ?_ ?_
 ·intro h3;try simp only[D6] at h3
  refine AP 2 ?_;refine GC.ret (BR 2 3 [] [] ?_)
  exact .inr ⟨by omega,rfl,rfl,rfl⟩
 intro h3;try simp only[D6] at h3
 refine GC.skip (?_:GC _ _ _ _)
 refine AP 3 ?_;refine GC.ret (BR 2 3 [0] [] ?_)
 exact .inl ⟨by omega,_,_,Ue,Uf,rfl,rfl,rfl⟩
theorem fD(s:I4)(A:Option Addr)(cp:Nat)(B:Option Addr)(cq:Nat)(C:Option Addr)(cr:Nat)(hs:IU s)(hh:Gj s)(hl:(JR s).length<=33554432):Ct Tryz.prog 133 [Nw s A cp B cq C cr] [] (NW s A B C)
  (λu G Q=>∃A' cp',(JR s).length<=cp'/\cp'<=9223372036854775807/\u=.tuple #[.slice A' (JR s).length cp',.int .i64 0]/\G=[rowOf A' cp' (JR s)]/\Q=[]) :=
 Ct.mono (UL s A cp B cq C cr hs hh) λu G Q h=>h.elim (λh=>h.2) (λh=>by omega)
theorem YO(s:I4)(A:Option Addr)(cp:Nat)(B:Option Addr)(cq:Nat)(C:Option Addr)(cr:Nat)(hs:IU s)(hh:Gj s)(hl:33554432<(JR s).length):Ct Tryz.prog 133 [Nw s A cp B cq C cr] [] (NW s A B C)
  (λu G Q=>u=.tuple #[.slice none 0 0,.int .i64 2]/\G=[]/\Q=[]) :=
 Ct.mono (UL s A cp B cq C cr hs hh) λu G Q h=>h.elim (λh=>by omega) (λh=>h.2)
end Go.Proofs.YtliacpkblicnhaaGreat
namespace Go.Proofs.YtliacpkblicnhaaGreat
open Go Go.Sx Go.Proofs
section
variable {P:Program}{n:Nat}{env:List (Nat×Value)}{d:Nat}{t u ty:TypeId}{pos:String}{Ew:Array Edge}{g:Option (Nat×Bool)}{x y:Operand}{k k' yk:IntKind}{m l r:Int}
theorem Ya(hx:ev env x=some (.int k m))(hy:ev env y=some (.int k l))(hr:k.wrap (m+l)=r):Pv P n env ⟨some d,.binOp .add t x y u,ty,pos,Ew,g⟩ (.int k r):=hr▸p_addw hx hy
end
end Go.Proofs.YtliacpkblicnhaaGreat
namespace Go.Proofs.YtliacpkblicnhaaGreat
open Go Go.Sx Go.Proofs
theorem add_b1:IntKind.u8.wrap (0+1)=Jr true false false false:=by decide
theorem add_b2(a:Bool):IntKind.u8.wrap (Jr a false false false+2)=Jr a true false false:=by cases a<;>decide
theorem add_b4(a b:Bool):IntKind.u8.wrap (Jr a b false false+4)=Jr a b true false:=by cases a<;>cases b<;>decide
theorem add_b8(a b c:Bool):IntKind.u8.wrap (Jr a b c false+8)=Jr a b c true:=by cases a<;>cases b<;>cases c<;>decide
theorem kL(a b c d:Bool):(Jr a b c d).tmod 2=bi a 1:=by revert a b c d;decide
theorem quo_b2(a b c d:Bool):IntKind.u8.wrap ((Jr a b c d).tdiv 2)=Jr b c d false:=by revert a b c d;decide
theorem quo_b4(a b c d:Bool):IntKind.u8.wrap ((Jr a b c d).tdiv 4)=Jr c d false false:=by revert a b c d;decide
theorem quo_b8(a b c d:Bool):IntKind.u8.wrap ((Jr a b c d).tdiv 8)=Jr d false false false:=by revert a b c d;decide
theorem Ul(a:Bool):(bi a 1=1)=(a=true):=by cases a<;>simp[bi]
theorem pX(m:GZ)(s:Lie)(hm:FT m):Ct Tryz.prog 129 [Ip m s] [] (H9 m s) (λu G Q=>u=.int .u8 (IL m)/\G=[]/\Q=[]):=by
 refine Ct.intro Tryz.func129 rfl rfl rfl (λc hc=>?_)
 refine AX ?_;refine GL.step rfl (Ee rfl rfl rfl) (Aa λIJ=>?_);refine AL 1 ?_;refine AP 1 ?_;refine Bh (ks:=[1,2]) (is:=[0]) (js:=(up 0 8)) (fun(u_:Unit)=>True) (fun(u_:Unit)=>[(3,.int .u8 (Jr (decide (¬m.op=Iw)) false false false))]) (fun(u_:Unit)=>[]) (fun(u_:Unit)=>[]) rfl rfl rfl ?_ ?_
 ·refine AV 1 ?_;refine Az 0 5 ?_;refine AO rfl (ED Hy KO rfl rfl) ?_;refine Ah Tryz.call25 [] [0,1] rfl rfl rfl (by exact TI m.op _ _ _ _) ?_
  rintro _ _ _ ⟨rfl,rfl,rfl⟩
  refine AL 1 ?_;refine Af ?_ ?_
  ·intro h1;try simp only[D6] at h1
   refine GC.region ?_;refine AA 1 ?_;refine AO rfl (Ya rfl rfl add_b1) ?_;refine AA 1 ?_;refine Ac ?_
   exact zq35_
  intro h1;try simp only[D6] at h1
  refine GC.skip ?_
  exact zq36_
 intro u_ hj2
 try dsimp only[List.cons_append,List.nil_append] at hj2 ⊢
 refine Bh (ks:=[1,2]) (is:=[0]) (js:=(up 0 8)) (fun(u_:Unit)=>True) (fun(u_:Unit)=>[(3,.int .u8 (Jr (decide (¬m.op=Iw)) (decide (¬m.res=rz)) false false))]) (fun(u_:Unit)=>[]) (fun(u_:Unit)=>[]) rfl rfl rfl ?_ ?_
 ·refine AV 1 ?_;refine Az 0 2 ?_;refine Ah Tryz.call119 [] [] rfl rfl rfl (by exact jU m.res _ _) ?_
  rintro _ _ _ ⟨rfl,rfl,rfl⟩
  refine AL 1 ?_;refine Af ?_ ?_
  ·intro h2;try simp only[D6] at h2
   refine GC.region ?_;refine AA 1 ?_;refine AO rfl (Ya rfl rfl (add_b2 _)) ?_;refine AA 1 ?_;refine Ac ?_
   exact λa w h=>⟨(()),trivial,by rw[decide_eq_true (show ¬m.res=rz by simp_all)];exact h.ct [0] (up 0 8)⟩
  intro h2;try simp only[D6] at h2
  refine GC.skip ?_
  exact λa w h=>⟨(()),trivial,by rw[decide_eq_false (show ¬¬m.res=rz by simp_all)];exact h.ct [0] (up 0 8)⟩
 intro u_ hj4
 try dsimp only[List.cons_append,List.nil_append] at hj4 ⊢
 refine Bh (ks:=[1,2]) (is:=[0]) (js:=(up 0 8)) (fun(u_:Unit)=>True) (fun(u_:Unit)=>[(3,.int .u8 (Jr (decide (¬m.op=Iw)) (decide (¬m.res=rz)) (decide (¬m.grp=Le)) false))]) (fun(u_:Unit)=>[]) (fun(u_:Unit)=>[]) rfl rfl rfl ?_ ?_
 ·refine AV 1 ?_;refine Az 0 2 ?_;refine Ah Tryz.call121 [] [] rfl rfl rfl (by exact jg m.grp _ _) ?_
  rintro _ _ _ ⟨rfl,rfl,rfl⟩
  refine AL 1 ?_;refine Af ?_ ?_
  ·intro h3;try simp only[D6] at h3
   refine GC.region ?_;refine AA 1 ?_;refine AO rfl (Ya rfl rfl (add_b4 _ _)) ?_;refine AA 1 ?_;refine Ac ?_
   exact λa w h=>⟨(()),trivial,by rw[decide_eq_true (show ¬m.grp=Le by simp_all)];exact h.ct [0] (up 0 8)⟩
  intro h3;try simp only[D6] at h3
  refine GC.skip ?_
  exact λa w h=>⟨(()),trivial,by rw[decide_eq_false (show ¬¬m.grp=Le by simp_all)];exact h.ct [0] (up 0 8)⟩
 intro u_ hj6
 try dsimp only[List.cons_append,List.nil_append] at hj6 ⊢
 refine Bh (ks:=[2]) (is:=[0]) (js:=(up 0 8)) (fun(u_:Unit)=>True) (fun(u_:Unit)=>[(3,.int .u8 (IL m))]) (fun(u_:Unit)=>[]) (fun(u_:Unit)=>[]) rfl rfl rfl ?_ ?_
 ·refine AV 1 ?_;refine Az 0 7 ?_;refine Ah Tryz.call123 [] [4,5,6] rfl rfl rfl (by exact Zd m.stt _ _ _ _ _ _ hm.s) ?_
  rintro _ _ _ ⟨rfl,rfl,rfl⟩
  refine AL 1 ?_;refine Af ?_ ?_
  ·intro h4;try simp only[D6] at h4
   refine GC.region ?_;refine AA 1 ?_;refine AO rfl (Ya rfl rfl (add_b8 _ _ _)) ?_;refine AA 1 ?_;refine Ac ?_
   exact zq39_
  intro h4;try simp only[D6] at h4
  refine GC.skip ?_
  exact zq40_
 intro u_ tJ
 try dsimp only[List.cons_append,List.nil_append] at tJ ⊢
 refine AP 2 ?_;refine GC.ret (AQ 2 [] [] ?_)
 exact⟨rfl,rfl,rfl⟩
theorem grpB_eq{g:Ld}(h:FP g.epoch g.members=true):FK 8 g.epoch.toNat++[G9 (g.members.length:Int)]++g.members.map G9=JB g:=by
 have r:=Fp h
 rw[JB,Qb,flZ1 [_] (by intro x hx;simp at hx;omega),flZ1 _ (λx hx=>by have:=r.1 x hx;omega)]
 rfl
theorem qG(A:Option Addr)(b:List UInt8)(cp:Nat)(g:Ld)(B:Option Addr)(cq:Nat)(hg:FP g.epoch g.members=true)(hb:b.length<=1000000000000):Ct Tryz.prog 132 [.slice A b.length cp,Qj g.epoch B g.members.length cq] [] [D7.row Kd.u8 A b,D7.row kI B g.members]
    (λu G Q=>∃A' cp',(b++JB g).length<=cp'/\cp'<=9223372036854775807/\u=.slice A' (b++JB g).length cp'/\G=[rowOf A' cp' (b++JB g)]/\Q=[]):=by
 obtain⟨r1,r2,r3,r4,r5⟩:=Fp hg
 refine Ct.intro Tryz.func132 rfl rfl rfl (λc hc=>?_)
 refine AX ?_;refine GL.step rfl (Ee rfl rfl rfl) (Aa λFQ=>?_);refine AL 1 ?_;refine AV 2 ?_;refine Ad 0 ?_;refine AO rfl (EO (t:=3) (r:=((g.epoch.toNat:Nat):Int)) (by rw[Tryz.underlying3];simp) Tryz.underlying45 rfl (cvZ (by omega) (by omega))) ?_
 refine Ah Tryz.call125 [] [0] rfl rfl rfl (by exact ND _ b _ g.epoch.toNat 8 (by omega) (by omega) (by omega) (by rw[Gi];omega)) ?_
 rintro _ _ _ ⟨A11,cu,l11,k11,rfl,rfl,rfl⟩
 refine AL 4 ?_;refine AV 2 ?_;refine Ad 1 ?_;refine AA 1 ?_;refine AO rfl (EO (t:=3) (r:=(((G9 (g.members.length:Int)).toNat:Nat):Int)) (by rw[Tryz.underlying3];simp) Tryz.underlying5 rfl (cv8 (by omega) (by omega))) ?_
 refine GL.step rfl (EC rfl Tryz.underlying47 Fa Jd rfl rfl rfl rfl rfl rfl) (Aa λXD=>?_);refine GL.step rfl (Eh (i:=1) (k:=0) rfl Fv rfl rfl rfl rfl rfl (EX rfl) (by(try simp only[List.length_append,List.length_cons,List.length_nil,List.length_map,List.length_take,EL,EG,D_]);omega) (λ_=>rfl)) (Aa λv20=>?_)
 refine GL.rowIs (i:=1) (m':=((b++FK 8 g.epoch.toNat++[G9 (g.members.length:Int)])).length) (cs':=((b++FK 8 g.epoch.toNat++[G9 (g.members.length:Int)])).map JE) rfl (by first|(simp only[List.length_append,List.length_cons,List.length_nil,List.append_assoc];done)|(simp only[List.length_append,List.length_cons,List.length_nil,List.append_assoc];omega)|(simp;done)|(simp;omega)|rfl) (by first|(simp only[List.map_append,List.map_cons,List.map_nil,List.append_assoc];done)|(simp;done)|rfl) rfl ?_
 refine GL.shape (i:=1) rfl (λA_rp11 c_rp11 e_rp11 l_rp11 k_rp11=>?_)
 subst e_rp11
 refine AL 1 ?_;refine AB ?_;refine AP 1 ?_;refine GC.block ?_;refine Bv (ks:=[3]) (is:=[0,2]) (js:=[0,1]) (fun(k:Nat) (A1:Option Addr) (c1:Nat)=>k<=g.members.length/\(b++FK 8 g.epoch.toNat++[G9 (g.members.length:Int)]++(g.members.take k).map G9).length<=c1/\c1<=9223372036854775807) (fun(k:Nat) (A1:Option Addr) (c1:Nat)=>[(0,.slice A1 (b++FK 8 g.epoch.toNat++[G9 (g.members.length:Int)]++(g.members.take k).map G9).length c1),(5,.int .i64 (k:Int))]) (fun(k:Nat) (A1:Option Addr) (c1:Nat)=>[rowOf A1 c1 (b++FK 8 g.epoch.toNat++[G9 (g.members.length:Int)]++(g.members.take k).map G9)]) (fun(k:Nat) (A1:Option Addr) (c1:Nat)=>[]) (fun(k:Nat) (A1:Option Addr) (c1:Nat)=>g.members.length - k) (0) (_) (_) rfl rfl rfl (λa w h=>⟨⟨by omega,by simp only[List.take_zero,List.map_nil,List.append_nil];exact l_rp11,k_rp11⟩,by simp only[List.take_zero,List.map_nil,List.append_nil];exact h.Hf (is:=[1,0,0]) (js:=[0,1]) (ks:=[3]) ⟨rfl,rfl,trivial⟩ rfl rfl rfl⟩) ?_
 intro k A1 c1 hk
 try dsimp only[List.cons_append,List.nil_append] at hk ⊢
 obtain⟨hk,hc1,hc2⟩:=hk
 refine AB ?_;refine AV 2 ?_;refine Ad 2 ?_;refine AL 2 ?_;refine Af ?_ ?_
 ·intro h1;try simp only[D6] at h1
  refine GC.skip (?_:GC _ _ _ _)
  refine AB ?_;refine GC.block ?_
  have hx:=r1 _ (Ec (l:=g.members) (k:=k) (by omega))
  refine GC.region ?_;refine AA 2 ?_;refine Ad 2 ?_;refine AA 1 ?_;refine GL.step rfl (Ej (i:=1) rfl rfl rfl rfl Tryz.underlying53 GV (by omega) (EW (by omega) (by omega))) (Aa λkX=>Aa λRX=>GL.and λYe=>?_)
  rcases RX with _
  refine GL.step rfl (Ed rfl (ES (i:=0) rfl rfl Ei rfl)) ?_;refine AO rfl (EO (t:=3) (r:=(((G9 (gt g.members (k:Int))).toNat:Nat):Int)) (by rw[Tryz.underlying3];simp) Tryz.underlying5 rfl (cv8 (by omega) (by omega))) ?_
  refine GL.step rfl (EC rfl Tryz.underlying47 Fa Jd rfl rfl rfl rfl rfl rfl) (Aa λb_t35=>?_);refine GL.step rfl (Eh (i:=1) (k:=0) rfl Fv rfl rfl rfl rfl rfl (EX rfl) (by(try simp only[List.length_append,List.length_cons,List.length_nil,List.length_map,List.length_take,EL,EG,D_]);omega) (λ_=>rfl)) (Aa λv36=>?_)
  refine GL.rowIs (i:=1) (m':=((b++FK 8 g.epoch.toNat++[G9 (g.members.length:Int)]++(g.members.take k).map G9++[G9 (gt g.members (k:Int))])).length) (cs':=((b++FK 8 g.epoch.toNat++[G9 (g.members.length:Int)]++(g.members.take k).map G9++[G9 (gt g.members (k:Int))])).map JE) rfl (by first|(simp only[List.length_append,List.length_cons,List.length_nil,List.append_assoc];done)|(simp only[List.length_append,List.length_cons,List.length_nil,List.append_assoc];omega)|(simp;done)|(simp;omega)|rfl) (by first|(simp only[List.map_append,List.map_cons,List.map_nil,List.append_assoc];done)|(simp;done)|rfl) rfl ?_
  refine GL.shape (i:=1) rfl (λSm SS Oz Ue Uf=>?_)
  subst Oz
  refine AA 1 ?_
  refine Ac (?_:GC _ _ _ _)
  refine GC.region ?_;refine AA 1 ?_;refine AO rfl (EU rfl rfl (Fh (by omega) (by omega))) ?_;refine AA 1 ?_;refine Ac ?_
  exact λa w h=>⟨(k+1),(Sm),(SS),(by omega),⟨by omega,by rw[LP (by omega),List.map_append,<-List.append_assoc];exact Ue,Uf⟩,by rw[LP (by omega),List.map_append,<-List.append_assoc];exact h.ct [1,1,1] [1,2]⟩
 intro h1;try simp only[D6] at h1
 refine GC.exit (?_:GC _ _ _ _)
 refine AP 2 ?_;refine GC.ret (AQ 4 [0] [] ?_)
 obtain rfl:k=g.members.length:=by omega
 have e:b++FK 8 g.epoch.toNat++[G9 (g.members.length:Int)]++g.members.map G9=b++JB g:=by rw[<-grpB_eq hg];simp only[List.append_assoc]
 rw[List.take_length,e] at hc1
 rw[List.take_length,e]
 exact⟨_,_,hc1,hc2,rfl,rfl,rfl⟩
theorem zq106_{X:Prop}(h:X:=by(exact λa w h=>⟨(jR),(jG),trivial,by rw[show pO m=Ri m.op from if_neg (by assumption)];exact h.ct [1,0,0] (up 1 10)⟩)):X:=h
theorem zq107_{X:Prop}(h:X:=by(exact λa w h=>⟨(jR),(jG),trivial,by rw[show pO m=[] from if_pos (by simp_all),List.append_nil];exact h.ct [1,0,0] (up 0 10)⟩)):X:=h
theorem zq108_{X:Prop}(h:X:=by(exact λa w h=>⟨(_),(_),trivial,by rw[show pR m=[] from if_pos (by simp_all),List.append_nil];exact h.cut (is:=[0,0,0]) (js:=(up 0 10)) ⟨rfl,rfl,rfl,trivial⟩ rfl rfl⟩)):X:=h
theorem zq109_{X:Prop}(h:X:=by(exact λa w h=>⟨(_),(_),trivial,by rw[show pG m=JB m.grp from if_neg (by assumption)];exact h.cut (is:=[0,0,0]) (js:=(up 1 10)) ⟨rfl,rfl,rfl,trivial⟩ rfl rfl⟩)):X:=h
theorem zq110_{X:Prop}(h:X:=by(exact λa w h=>⟨(_),(_),trivial,by rw[show pG m=[] from if_pos (by simp_all),List.append_nil];exact h.cut (is:=[0,0,0]) (js:=(up 0 10)) ⟨rfl,rfl,rfl,trivial⟩ rfl rfl⟩)):X:=h
theorem zq111_{X:Prop}(h:X:=by(exact λa w h=>⟨(_),(_),trivial,by rw[show pS m=[] from if_pos (by simp_all),List.append_nil];exact h.cut (is:=[0,0,0]) (js:=(up 0 10)) ⟨rfl,rfl,trivial⟩ rfl rfl⟩)):X:=h
theorem zq112_{X:Prop}(h:X:=by(exact λa w h=>⟨(k+1),(Sm),(SS),(by omega),⟨by omega,by rw[MC (by omega),<-List.append_assoc];exact Ue,Uf⟩,by rw[MC (by omega),<-List.append_assoc];exact h.ct [0,0,0] (up 5 11)⟩)):X:=h
theorem TK(m:GZ)(s:Lie)(hm:FT m)(hok:IX m)(hn:0<=m.Ez/\m.Ez<18446744073709551616)(G8:m.log.length<100000):Ct Tryz.prog 81 [Ip m s] [] (H9 m s)
    (λu G Q=>∃A bs cp,((FC m).length<=16777216->bs=FC m)/\(16777216<(FC m).length->16777216<bs.length)/\u=.slice A bs.length cp/\G=[]/\Q=[D7.row Kd.u8 A bs]):=by
 have hr:=Yk hok
 have hpn:=Qx m
 have hk:=hr.kind
 have l0:=Yy m
 have l1:=gB hr
 have l2:=fZ hr
 have l3:=gG hr
 have l4:=fV hr
 have l5:=Zw hr
 have lS:=lH m
 refine Ct.intro Tryz.func81 rfl rfl rfl (λc hc=>?_)
 refine AX ?_;refine GL.step rfl (Ee rfl rfl rfl) (Aa λIJ=>?_);refine AL 1 ?_;refine AV 1 ?_;refine Ad 0 ?_;refine GL.LW 15 rfl (congrArg (Value.int .u8) (NT (by omega) (by omega))) ?_
 refine GL.step rfl (EC rfl Tryz.underlying47 Fa Jd rfl rfl rfl rfl rfl rfl) (Aa λdG=>?_);refine AL 1 ?_;refine AV 2 ?_;refine Ad 1 ?_;refine AO rfl (EO (t:=3) (by rw[Tryz.underlying3];simp) Tryz.underlying45 rfl (KW m.src)) ?_
 refine AA 1 ?_;refine Ad 1 ?_;refine AO rfl (EO (t:=3) (by rw[Tryz.underlying3];simp) Tryz.underlying45 rfl (KW m.dst)) ?_
 refine AA 1 ?_;refine Ad 1 ?_;refine AO rfl (EO (t:=3) (by rw[Tryz.underlying3];simp) Tryz.underlying45 rfl (KW m.epoch)) ?_
 refine AA 1 ?_;refine Ad 1 ?_;refine AO rfl (EO (t:=3) (by rw[Tryz.underlying3];simp) Tryz.underlying45 rfl (KW m.view)) ?_
 refine AA 1 ?_;refine Ad 1 ?_;refine AO rfl (EO (t:=3) (by rw[Tryz.underlying3];simp) Tryz.underlying45 rfl (KW m.num)) ?_
 refine AA 1 ?_;refine Ad 1 ?_;refine AO rfl (EO (t:=3) (by rw[Tryz.underlying3];simp) Tryz.underlying45 rfl (KW m.commit)) ?_
 refine AA 1 ?_;refine Ad 1 ?_;refine AO rfl (EO (t:=3) (by rw[Tryz.underlying3];simp) Tryz.underlying45 rfl (KW m.normal)) ?_
 refine AA 1 ?_;refine Ad 1 ?_;refine GL.LW 41 rfl (congrArg (Value.int .u64) (dX hn.1 hn.2)) ?_;refine AA 1 ?_;refine Ad 1 ?_;refine AO rfl (EO (t:=3) (by rw[Tryz.underlying3];simp) Tryz.underlying45 rfl (KW m.client)) ?_
 refine AA 1 ?_;refine Ad 1 ?_;refine AO rfl (EO (t:=3) (by rw[Tryz.underlying3];simp) Tryz.underlying45 rfl (KW m.serial)) ?_
 refine GL.step rfl (EC rfl Tryz.underlying180 UJ ZM rfl rfl rfl rfl rfl rfl) (Aa λb_t48=>?_);refine GL.FD (enc:=JE) (xs:=[G9 m.kind]) (h1:=λ_=>rfl) (i:=1) rfl ?_;refine GL.FD (enc:=uv) (xs:=[u64 m.src,u64 m.dst,u64 m.epoch,u64 m.view,u64 m.num,u64 m.commit,u64 m.normal,u64 m.Ez,u64 m.client,u64 m.serial]) (h1:=λ_=>rfl) (i:=0) rfl ?_
 refine Ah Tryz.call128 [] [1,0] rfl rfl rfl (by exact fB _ [G9 m.kind] _ 8 _ [u64 m.src,u64 m.dst,u64 m.epoch,u64 m.view,u64 m.num,u64 m.commit,u64 m.normal,u64 m.Ez,u64 m.client,u64 m.serial] _ (by omega) (by omega) (by simp) (by rw[Gi];intro x hx;simp only[List.mem_cons,List.not_mem_nil,or_false] at hx;rcases hx with rfl|rfl|rfl|rfl|rfl|rfl|rfl|rfl|rfl|rfl<;>exact S_ _)) ?_
 rintro _ _ _ ⟨A49,cp49,l49,k49,rfl,rfl,rfl⟩
 refine AL 4 ?_;refine AX ?_;refine Az 1 28 ?_;refine Ah Tryz.call129 [] (up 2 8) rfl rfl rfl (by exact pX m s hm) ?_
 rintro _ _ _ ⟨rfl,rfl,rfl⟩
 refine AL 1 ?_;refine AV 2 ?_;refine GL.LW 55 rfl (congrArg (Value.int .u8) (NT hpn.1 hpn.2)) ?_;refine GL.step rfl (EC rfl Tryz.underlying47 Fa Jd rfl rfl rfl rfl rfl rfl) (Aa λnY=>?_)
 refine GL.step rfl (Eh (i:=1) (k:=0) rfl Fv rfl rfl rfl rfl rfl (EX rfl) (by(try simp only[List.length_append,List.length_cons,List.length_nil,List.length_map,List.length_take,EL,EG,D_]);first|omega|(have:=IB (hr.op (by assumption));omega)|(have:=Hq (hr.res (by assumption));omega)|(have:=Fp (hr.grp (by assumption));omega)|(have:=H7 (hr.stt (by assumption));omega)|(have:=Ij hr k;have:=Ht (hr.log _ (Ec (l:=m.log) (k:=k) (by omega)));have:k * 400000<=100000 * 400000:=Nat.mul_le_mul_right _ (by omega);omega)) (λ_=>rfl)) (Aa λv57=>?_)
 refine GL.rowIs (i:=1) (m':=((hdB m)).length) (cs':=((hdB m)).map JE) rfl (by first|(simp only[List.length_append,List.length_cons,List.length_nil,List.append_assoc];done)|(simp only[List.length_append,List.length_cons,List.length_nil,List.append_assoc];omega)|(simp[D_,EG,hdB];done)|(simp[D_,EG,hdB];omega)|rfl) (by first|(simp only[List.map_append,List.map_cons,List.map_nil,List.append_assoc];done)|(simp[D_,EG,hdB];done)|rfl) rfl ?_
 refine GL.shape (i:=1) rfl (λjR jG jC l_ra49 k_ra49=>?_)
 subst jC
 refine AL 1 ?_;refine CQ (ks:=[1,4]) (is:=[0,2]) (js:=(up 0 10)) (fun(A1:Option Addr) (c1:Nat)=>True) (fun(A1:Option Addr) (c1:Nat)=>[(3,.slice A1 (hdB m++pO m).length c1)]) (fun(A1:Option Addr) (c1:Nat)=>[rowOf A1 c1 (hdB m++pO m)]) (fun(A1:Option Addr) (c1:Nat)=>[]) rfl rfl rfl ?_ ?_
 ·refine AV 1 ?_;refine AO rfl (Pn rfl rfl (by decide) (kL _ _ _ _)) ?_;refine AL 1 ?_;refine Af ?_ ?_
  ·intro h1;try simp only[D6,Ul] at h1
   refine AV 1 ?_;refine Az 2 5 ?_;refine Ah Tryz.call130 [] [2,3] rfl rfl rfl (by exact Xo m.op _ _ _ _ (hr.op (by assumption))) ?_
   rintro _ _ _ ⟨A64,cp64,l64,k64,rfl,rfl,rfl⟩
   refine AL 5 ?_;refine GC.region ?_;refine AA 2 ?_;refine GL.EN (i:=0) rfl ?_;refine GL.step rfl (Ep (i:=1) (k:=0) rfl Fv rfl rfl rfl rfl (by(try simp only[List.length_append,List.length_cons,List.length_nil,List.length_map,List.length_take,EL,EG,D_]);first|omega|(have:=IB (hr.op (by assumption));omega)|(have:=Hq (hr.res (by assumption));omega)|(have:=Fp (hr.grp (by assumption));omega)|(have:=H7 (hr.stt (by assumption));omega)|(have:=Ij hr k;have:=Ht (hr.log _ (Ec (l:=m.log) (k:=k) (by omega)));have:k * 400000<=100000 * 400000:=Nat.mul_le_mul_right _ (by omega);omega)) (λ_=>rfl)) (Aa λv69=>?_)
   refine GL.rowIs (i:=1) (m':=((hdB m++Ri m.op)).length) (cs':=((hdB m++Ri m.op)).map JE) rfl (by first|(simp only[List.length_append,List.length_cons,List.length_nil,List.append_assoc];done)|(simp only[List.length_append,List.length_cons,List.length_nil,List.append_assoc];omega)|(simp[D_,EG,hdB];done)|(simp[D_,EG,hdB];omega)|rfl) (by first|(simp only[List.map_append,List.map_cons,List.map_nil,List.append_assoc];done)|(simp[D_,EG,hdB];done)|rfl) rfl ?_
   refine GL.shape (i:=1) rfl (λjR jG jC l_ra49 k_ra49=>?_)
   subst jC
   refine AA 1 ?_;refine Ac ?_
   exact zq106_
  intro h1;try simp only[D6,Ul] at h1
  refine GC.skip ?_
  exact zq107_
 intro A1 c1 hj5
 try dsimp only[List.cons_append,List.nil_append] at hj5 ⊢
 refine CQ (ks:=[1,4]) (is:=[1,2]) (js:=(up 0 10)) (fun(A1:Option Addr) (c1:Nat)=>True) (fun(A1:Option Addr) (c1:Nat)=>[(3,.slice A1 (hdB m++pO m++pR m).length c1)]) (fun(A1:Option Addr) (c1:Nat)=>[rowOf A1 c1 (hdB m++pO m++pR m)]) (fun(A1:Option Addr) (c1:Nat)=>[]) rfl rfl rfl ?_ ?_
 ·refine AV 1 ?_;refine AO rfl (O8 rfl rfl (by decide) (quo_b2 _ _ _ _)) ?_;refine AO rfl (Pn rfl rfl (by decide) (kL _ _ _ _)) ?_;refine AL 1 ?_;refine Af ?_ ?_
  ·intro h2;try simp only[D6,Ul] at h2
   refine AV 1 ?_;refine Az 2 2 ?_;refine Ah Tryz.call131 [] [4] rfl rfl rfl (by exact Va m.res _ _ (hr.res (by assumption))) ?_
   rintro _ _ _ ⟨A77,cp77,l77,k77,rfl,rfl,rfl⟩
   refine AL 5 ?_;refine GC.region ?_;refine AA 2 ?_;refine GL.EN (i:=0) rfl ?_;refine GL.step rfl (Ep (i:=0) (k:=0) rfl Fv rfl rfl rfl rfl (by(try simp only[List.length_append,List.length_cons,List.length_nil,List.length_map,List.length_take,EL,EG,D_]);first|omega|(have:=IB (hr.op (by assumption));omega)|(have:=Hq (hr.res (by assumption));omega)|(have:=Fp (hr.grp (by assumption));omega)|(have:=H7 (hr.stt (by assumption));omega)|(have:=Ij hr k;have:=Ht (hr.log _ (Ec (l:=m.log) (k:=k) (by omega)));have:k * 400000<=100000 * 400000:=Nat.mul_le_mul_right _ (by omega);omega)) (λ_=>rfl)) (Aa λv82=>?_)
   refine GL.rowIs (i:=0) (m':=((hdB m++pO m++NZ m.res)).length) (cs':=((hdB m++pO m++NZ m.res)).map JE) rfl (by first|(simp only[List.length_append,List.length_cons,List.length_nil,List.append_assoc];done)|(simp only[List.length_append,List.length_cons,List.length_nil,List.append_assoc];omega)|(simp[D_,EG,hdB];done)|(simp[D_,EG,hdB];omega)|rfl) (by first|(simp only[List.map_append,List.map_cons,List.map_nil,List.append_assoc];done)|(simp[D_,EG,hdB];done)|rfl) rfl ?_
   refine GL.shape (i:=0) rfl (λSm SS Oz Ue Uf=>?_)
   subst Oz
   refine AA 1 ?_;refine Ac ?_
   exact zq61_
  intro h2;try simp only[D6,Ul] at h2
  refine GC.skip ?_
  exact zq108_
 intro A1 c1 tJ
 try dsimp only[List.cons_append,List.nil_append] at tJ ⊢
 refine CQ (ks:=[1,4]) (is:=[1,2]) (js:=(up 0 10)) (fun(A1:Option Addr) (c1:Nat)=>True) (fun(A1:Option Addr) (c1:Nat)=>[(3,.slice A1 (hdB m++pO m++pR m++pG m).length c1)]) (fun(A1:Option Addr) (c1:Nat)=>[rowOf A1 c1 (hdB m++pO m++pR m++pG m)]) (fun(A1:Option Addr) (c1:Nat)=>[]) rfl rfl rfl ?_ ?_
 ·refine AV 1 ?_;refine AO rfl (O8 rfl rfl (by decide) (quo_b4 _ _ _ _)) ?_;refine AO rfl (Pn rfl rfl (by decide) (kL _ _ _ _)) ?_;refine AL 1 ?_;refine Af ?_ ?_
  ·intro h3;try simp only[D6,Ul] at h3
   refine GC.region ?_;refine AA 2 ?_;refine Az 2 2 ?_;refine GL.EN (i:=0) rfl ?_;refine Ah Tryz.call132 [] [0,6] rfl rfl rfl (by exact qG _ (hdB m++pO m++pR m) _ m.grp _ _ (hr.grp (by assumption)) (by simp only[List.length_append];omega)) ?_
   rintro _ _ _ ⟨A90,cp90,l90,k90,rfl,rfl,rfl⟩
   refine AA 1 ?_;refine Ac ?_
   exact zq109_
  intro h3;try simp only[D6,Ul] at h3
  refine GC.skip ?_
  exact zq110_
 intro A1 c1 hj11
 try dsimp only[List.cons_append,List.nil_append] at hj11 ⊢
 refine CQ (ks:=[1]) (is:=[1,2]) (js:=(up 0 10)) (fun(A1:Option Addr) (c1:Nat)=>True) (fun(A1:Option Addr) (c1:Nat)=>[(3,.slice A1 (hdB m++pO m++pR m++pG m++pS m).length c1)]) (fun(A1:Option Addr) (c1:Nat)=>[rowOf A1 c1 (hdB m++pO m++pR m++pG m++pS m)]) (fun(A1:Option Addr) (c1:Nat)=>[]) rfl rfl rfl ?_ ?_
 ·refine AV 1 ?_;refine AO rfl (O8 rfl rfl (by decide) (quo_b8 _ _ _ _)) ?_;refine AO rfl (Pn rfl rfl (by decide) (kL _ _ _ _)) ?_;refine AL 1 ?_;refine Af ?_ ?_
  ·intro h4;try simp only[D6,Ul] at h4
   refine AB ?_
   by_cases hsl:(JR m.stt).length<=33554432
   ·skip
    refine GC.region ?_;refine AA 1 ?_;refine Az 2 7 ?_;refine Ah Tryz.call133 [] [6,7,8] rfl rfl rfl (by exact fD m.stt _ _ _ _ _ _ hm.s (hr.stt (by assumption)) hsl) ?_
    rintro _ _ _ ⟨A98,cp98,l98,k98,rfl,rfl,rfl⟩
    refine AA 5 ?_
    refine Ac (?_:GC _ _ _ _)
    refine AB ?_;refine AP 2 ?_;refine AY rfl ?_
    refine GC.skip (?_:GC _ _ _ _)
    refine GC.region ?_;refine AA 2 ?_;refine GL.EN (i:=0) rfl ?_;refine GL.step rfl (Ep (i:=0) (k:=0) rfl Fv rfl rfl rfl rfl (by(try simp only[List.length_append,List.length_cons,List.length_nil,List.length_map,List.length_take,EL,EG,D_]);first|omega|(have:=IB (hr.op (by assumption));omega)|(have:=Hq (hr.res (by assumption));omega)|(have:=Fp (hr.grp (by assumption));omega)|(have:=H7 (hr.stt (by assumption));omega)|(have:=Ij hr k;have:=Ht (hr.log _ (Ec (l:=m.log) (k:=k) (by omega)));have:k * 400000<=100000 * 400000:=Nat.mul_le_mul_right _ (by omega);omega)) (λ_=>rfl)) (Aa λv106=>?_)
    refine GL.rowIs (i:=0) (m':=((hdB m++pO m++pR m++pG m++JR m.stt)).length) (cs':=((hdB m++pO m++pR m++pG m++JR m.stt)).map JE) rfl (by first|(simp only[List.length_append,List.length_cons,List.length_nil,List.append_assoc];done)|(simp only[List.length_append,List.length_cons,List.length_nil,List.append_assoc];omega)|(simp[D_,EG,hdB];done)|(simp[D_,EG,hdB];omega)|rfl) (by first|(simp only[List.map_append,List.map_cons,List.map_nil,List.append_assoc];done)|(simp[D_,EG,hdB];done)|rfl) rfl ?_
    refine GL.shape (i:=0) rfl (λSm SS Oz Ue Uf=>?_)
    subst Oz
    refine AA 1 ?_;refine Ac ?_
    exact zq64_
   skip
   refine GC.region ?_;refine AA 1 ?_;refine Az 2 7 ?_;refine Ah Tryz.call133 [] [6,7,8] rfl rfl rfl (by exact YO m.stt _ _ _ _ _ _ hm.s (hr.stt (by assumption)) (by omega)) ?_
   rintro _ _ _ ⟨rfl,rfl,rfl⟩
   refine AA 5 ?_
   refine Ac (?_:GC _ _ _ _)
   refine AB ?_;refine AP 2 ?_;refine AU rfl ?_;refine AX ?_;refine GL.step rfl (VJ rfl Fv rfl rfl (by omega) (by omega)) (Aa λb_t103=>?_)
   rw[YN]
   refine AL 1 ?_;refine GC.FD (enc:=JE) (xs:=List.replicate (Int.toNat 16777217) 0) (h1:=λ_=>rfl) (i:=0) rfl ?_;refine GC.ret (AQ 2 [] [0] ?_)
   have e:pS m=JR m.stt:=if_neg (by assumption)
   rw[e] at lS
   exact⟨_,List.replicate (Int.toNat 16777217) 0,_,λh=>by omega,λ_=>by rw[List.length_replicate];omega,by rw[List.length_replicate];rfl,rfl,rfl⟩
  intro h4;try simp only[D6,Ul] at h4
  refine GC.skip ?_
  exact zq111_
 intro A1 c1 hj13
 try dsimp only[List.cons_append,List.nil_append] at hj13 ⊢
 refine AV 2 ?_;refine Ad 2 ?_;refine AA 1 ?_;refine AO rfl (EO (t:=3) (r:=((m.log.length:Nat):Int)) (by rw[Tryz.underlying3];simp) Tryz.underlying45 rfl (bn (by omega) (by omega))) ?_
 refine GL.EN (i:=0) rfl ?_;refine Ah Tryz.call125 [] [0] rfl rfl rfl (by exact ND _ (hdB m++pO m++pR m++pG m++pS m) _ m.log.length 4 (by omega) (by omega) (by simp only[List.length_append];omega) (by rw[Gn];omega)) ?_
 rintro _ _ _ ⟨A113,cp113,l113,k113,rfl,rfl,rfl⟩
 refine AL 4 ?_;refine AB ?_;refine AP 1 ?_;refine GC.block ?_;refine Bv (ks:=[1]) (is:=[1,2]) (js:=(up 0 11)) (fun(k:Nat) (A1:Option Addr) (c1:Nat)=>k<=m.log.length/\(preB m++(m.log.take k).flatMap He).length<=c1/\c1<=9223372036854775807) (fun(k:Nat) (A1:Option Addr) (c1:Nat)=>[(3,.slice A1 (preB m++(m.log.take k).flatMap He).length c1),(11,.int .i64 (k:Int))]) (fun(k:Nat) (A1:Option Addr) (c1:Nat)=>[rowOf A1 c1 (preB m++(m.log.take k).flatMap He)]) (fun(k:Nat) (A1:Option Addr) (c1:Nat)=>[]) (fun(k:Nat) (A1:Option Addr) (c1:Nat)=>m.log.length - k) (0) (_) (_) rfl rfl rfl (λa w h=>⟨⟨by omega,by simp only[List.take_zero,List.flatMap_nil,List.append_nil];exact l113,k113⟩,by simp only[List.take_zero,List.flatMap_nil,List.append_nil];exact h.Hf (is:=[0,0,0]) (js:=(up 0 11)) (ks:=[1]) ⟨rfl,rfl,trivial⟩ rfl rfl rfl⟩) ?_
 intro k A1 c1 hk
 try dsimp only[List.cons_append,List.nil_append] at hk ⊢
 obtain⟨hk,hc1,hc2⟩:=hk
 refine AB ?_;refine AV 2 ?_;refine Ad 2 ?_;refine AA 3 ?_;refine Ak 121 ?_ ?_
 ·intro h5;try simp only[D6,Ul] at h5
  refine AL 4 ?_;refine Af ?_ ?_
  ·intro h6;try simp only[D6,Ul] at h6
   refine GC.skip (?_:GC _ _ _ _)
   refine AB ?_;refine GC.block ?_;refine AB ?_
   have hel:=hm.e _ (Ec (l:=m.log) (k:=k) (by omega))
   refine GC.region ?_;refine AA 1 ?_;refine Ad 2 ?_;refine AA 1 ?_;refine GL.step rfl (Ej (i:=10) rfl rfl rfl rfl Tryz.underlying62 F9 (by omega) (EW (by omega) (by omega))) (Aa λp_x132=>Aa λr_x132=>GL.and λok_x132=>?_)
   rcases r_x132 with⟨_,⟨_,⟨_,⟨_,⟨_,⟨⟨_,⟨_,⟨_,⟨⟨Ax132_0,cpx132_0⟩,⟨Ax132_1,cpx132_1⟩⟩⟩⟩⟩,⟨_,⟨Ax132_2,cpx132_2⟩⟩⟩⟩⟩⟩⟩⟩
   refine GL.step rfl (Ed rfl (FX (i:=0) rfl rfl Ku (vs:=[_,_,_,_,_,_,_,_,_,_,_,_]) F9 ⟨rfl,rfl,rfl,rfl,rfl,rfl,rfl,rfl,rfl,rfl,rfl,rfl,trivial⟩)) ?_;refine Ah Tryz.call134 [] [1,2,3] rfl rfl rfl (by exact fE (gt m.log (k:Int)) _ _ _ _ _ _ (hr.log _ (Ec (by omega))) hel) ?_
   rintro _ _ _ ⟨A134,cp134,l134,k134,rfl,rfl,rfl⟩
   refine AA 5 ?_
   refine Ac (?_:GC _ _ _ _)
   refine GC.region ?_;refine AA 2 ?_;refine GL.EN (i:=0) rfl ?_;refine GL.step rfl (Ep (i:=0) (k:=0) rfl Fv rfl rfl rfl rfl (by(try simp only[List.length_append,List.length_cons,List.length_nil,List.length_map,List.length_take,EL,EG,D_]);first|omega|(have:=IB (hr.op (by assumption));omega)|(have:=Hq (hr.res (by assumption));omega)|(have:=Fp (hr.grp (by assumption));omega)|(have:=H7 (hr.stt (by assumption));omega)|(have:=Ij hr k;have:=Ht (hr.log _ (Ec (l:=m.log) (k:=k) (by omega)));have:k * 400000<=100000 * 400000:=Nat.mul_le_mul_right _ (by omega);omega)) (λ_=>rfl)) (Aa λv139=>?_)
   refine GL.rowIs (i:=0) (m':=((preB m++(m.log.take k).flatMap He++He (gt m.log (k:Int)))).length) (cs':=((preB m++(m.log.take k).flatMap He++He (gt m.log (k:Int)))).map JE) rfl (by first|(simp only[List.length_append,List.length_cons,List.length_nil,List.append_assoc];done)|(simp only[List.length_append,List.length_cons,List.length_nil,List.append_assoc];omega)|(simp[D_,EG,hdB];done)|(simp[D_,EG,hdB];omega)|rfl) (by first|(simp only[List.map_append,List.map_cons,List.map_nil,List.append_assoc];done)|(simp[D_,EG,hdB];done)|rfl) rfl ?_
   refine GL.shape (i:=0) rfl (λSm SS Oz Ue Uf=>?_)
   subst Oz
   refine AA 1 ?_
   refine Ac (?_:GC _ _ _ _)
   refine GC.region ?_;refine AA 1 ?_;refine AO rfl (EU rfl rfl (Fh (by omega) (by omega))) ?_;refine AA 1 ?_;refine Ac ?_
   exact zq112_
  intro h6;try simp only[D6,Ul] at h6
  refine GC.exit (?_:GC _ _ _ _)
  refine AB ?_
  by_cases hfit:(FC m).length<=16777216
  ·skip
   refine GC.region ?_;refine AA 2 ?_
   refine Ac (?_:GC _ _ _ _)
   refine GC.EN (i:=0) rfl ?_;refine GC.ret (AQ 2 [] [0] ?_)
   have hge:=Y9 (m:=m) (k:=k) hk
   have hpl:(preB m++(m.log.take k).flatMap He).length=(preB m).length+((m.log.take k).flatMap He).length:=List.length_append
   obtain rfl:k=m.log.length:=by omega
   have hbe:preB m++m.log.flatMap He=FC m:=rfl
   rw[List.take_length,hbe] at hc1
   rw[List.take_length,hbe]
   exact⟨_,_,_,λ_=>rfl,λh=>by omega,rfl,rfl,rfl⟩
  skip
  refine GC.region ?_;refine AA 2 ?_
  refine Ac (?_:GC _ _ _ _)
  refine GC.EN (i:=0) rfl ?_;refine GC.ret (AQ 2 [] [0] ?_)
  refine⟨A1,(preB m++(m.log.take k).flatMap He),c1,λh=>by omega,λ_=>?_,rfl,rfl,rfl⟩
  by_cases hkl:k=m.log.length
  ·subst hkl
   rw[List.take_length]
   exact Nat.lt_of_not_le hfit
  omega
 intro h5;try simp only[D6,Ul] at h5
 refine AL 4 ?_;refine AY rfl ?_
 refine GC.exit (?_:GC _ _ _ _)
 refine AB ?_
 by_cases hfit:(FC m).length<=16777216
 ·skip
  refine GC.region ?_;refine AA 2 ?_
  refine Ac (?_:GC _ _ _ _)
  refine GC.EN (i:=0) rfl ?_;refine GC.ret (AQ 2 [] [0] ?_)
  have hge:=Y9 (m:=m) (k:=k) hk
  have hpl:(preB m++(m.log.take k).flatMap He).length=(preB m).length+((m.log.take k).flatMap He).length:=List.length_append
  obtain rfl:k=m.log.length:=by omega
  have hbe:preB m++m.log.flatMap He=FC m:=rfl
  rw[List.take_length,hbe] at hc1
  rw[List.take_length,hbe]
  exact⟨_,_,_,λ_=>rfl,λh=>by omega,rfl,rfl,rfl⟩
 skip
 refine GC.region ?_;refine AA 2 ?_
 refine Ac (?_:GC _ _ _ _)
 refine GC.EN (i:=0) rfl ?_;refine GC.ret (AQ 2 [] [0] ?_)
 refine⟨A1,(preB m++(m.log.take k).flatMap He),c1,λh=>by omega,λ_=>?_,rfl,rfl,rfl⟩
 by_cases hkl:k=m.log.length
 ·subst hkl
  rw[List.take_length]
  exact Nat.lt_of_not_le hfit
 omega
theorem oP{β:Type}(L:List UInt8)(f:LM->J4->Ld->I4->List Entry->β):((Kt L).bind λx=>(Hl 4 x.2).bind λn=>(Fq went n.2 n.1.toNat).map λr=>(f x.1.1 x.1.2.1 x.1.2.2.1 x.1.2.2.2 r.1,r.2))=(ZP L).map λy=>(f y.1.1 y.1.2.1 y.1.2.2.1 y.1.2.2.2.1 y.1.2.2.2.2,y.2):=by
 unfold ZP
 cases Kt L with
 |none=>rfl
 |some x =>
  simp only[Option.bind_some]
  cases Hl 4 x.2 with
  |none=>rfl
  |some n =>
   simp only[Option.bind_some]
   cases Fq went n.2 n.1.toNat<;>rfl
theorem msg_rd{B L1 L2 L3 L4 L5 L6 L7 L8 L9 dO L11 L12:List UInt8}{k1 k2 k3 k4 k5 k6 k7 k8 k9 k10 k11 k12 v1 v2 v3 v4 v5 v6 v7 v8 v9 v10 v11:Int}{o:LM}{r:J4}{g:Ld}{s:I4}{es:List Entry}
  (h1:Rd 0 k1 (Hl 1 B) (v1,L1)) (h2:Rd k1 k2 (Hl 8 L1) (v2,L2)) (h3:Rd k2 k3 (Hl 8 L2) (v3,L3)) (h4:Rd k3 k4 (Jf L3) (v4,L4)) (h5:Rd k4 k5 (Jf L4) (v5,L5)) (h6:Rd k5 k6 (Jf L5) (v6,L6)) (h7:Rd k6 k7 (Jf L6) (v7,L7)) (h8:Rd k7 k8 (Jf L7) (v8,L8)) (h9:Rd k8 k9 (Hl 8 L8) (v9,L9)) (h10:Rd k9 k10 (Jf L9) (v10,dO)) (h11:Rd k10 k11 (Jf dO) (v11,L11)) (h12:Rd k11 k12 (ZP L11) ((o,r,g,s,es),L12)) :
  Rd 0 k12 (Hz B) ((⟨v1,IntKind.i64.wrap v2,IntKind.i64.wrap v3,v4,v5,v6,v7,v8,v9,v10,v11,o,r,g,s,es⟩:GZ),L12):=by
 unfold Hz
 refine Rd.bind h1 (Rd.bind h2 (Rd.bind h3 (Rd.bind h4 (Rd.bind h5 (Rd.bind h6 (Rd.bind h7 (Rd.bind h8 (Rd.bind h9 (Rd.bind h10 (Rd.bind h11 ?_))))))))))
 have:=oP L11 (λo r g s es=>(⟨v1,IntKind.i64.wrap v2,IntKind.i64.wrap v3,v4,v5,v6,v7,v8,v9,v10,v11,o,r,g,s,es⟩:GZ))
 show Rd k11 k12 ((Kt L11).bind λx=>(Hl 4 x.2).bind λn=>(Fq went n.2 n.1.toNat).map λr=>((⟨v1,IntKind.i64.wrap v2,IntKind.i64.wrap v3,v4,v5,v6,v7,v8,v9,v10,v11,x.1.1,x.1.2.1,x.1.2.2.1,x.1.2.2.2,r.1⟩:GZ),r.2)) _
 rw[this]
 exact Rd.map (λy:(LM×J4×Ld×I4×List Entry)×List UInt8=>((⟨v1,IntKind.i64.wrap v2,IntKind.i64.wrap v3,v4,v5,v6,v7,v8,v9,v10,v11,y.1.1,y.1.2.1,y.1.2.2.1,y.1.2.2.2.1,y.1.2.2.2.2⟩:GZ),y.2)) h12
theorem dec_none{B:List UInt8}{m:GZ}{L:List UInt8}{z:Bool}(hm:Rd 0 (bI z) (Hz B) (m,L))(h:z=true\/0<(L.length:Int)\/¬aN m=0\/¬FC m=B):MV B=none:=by
 cases z with
 |true=>rw[MV,(hm.2 (by decide)).resolve_left (λh=>h rfl)];rfl
 |false =>
  rw[MV,(hm.1 rfl).2,Option.bind_some]
  refine if_neg λhh=>?_
  rcases h with h|h|h|h
  ·cases h
  ·have h0:=congrArg List.length hh.1
   simp only[List.length_nil] at h0
   omega
  ·exact h (OV hh.2.1)
  ·exact h hh.2.2
theorem dec_some{B:List UInt8}{m:GZ}{L:List UInt8}(hm:Hz B=some (m,L))(h1:(L.length:Int)<=0)(h2:aN m=0)(h3:FC m=B):MV B=some m:=by
 rw[MV,hm,Option.bind_some]
 exact if_pos ⟨List.eq_nil_of_length_eq_zero (by dsimp only;omega),by rw[<-Ru];exact h2,h3⟩
theorem ba_eq{a b:List UInt8}:((⟨a.toArray⟩:ByteArray)=⟨b.toArray⟩)↔a=b:=by simp
theorem nV{B bs:List UInt8}{m:GZ}(hB:B.length<=16777216)(hi:(FC m).length<=16777216->bs=FC m)(hj:16777216<(FC m).length->16777216<bs.length):bs=B↔FC m=B:=by
 by_cases h:(FC m).length<=16777216
 ·rw[hi h]
 ·refine⟨λe=>?_,λe=>?_⟩
  ·have:=hj (by omega);rw[e] at this;omega
  ·rw[e] at h;omega
theorem YB{X:Prop}(h:X:=by(exact⟨UW,lie0,160,⟨λh=>absurd h (by decide),λ_=>⟨dec_none hmsg (by first|(exact .inl (by assumption))|(exact .inr (.inl (by assumption)))|(exact .inr (.inr (.inl (by assumption))))|exact .inr (.inr (.inr (λh=>absurd (ba_eq.2 ((nV hB hi96 hj96).2 h)) (by assumption))))),rfl,rfl⟩⟩,rfl,rfl,rfl⟩)):X:=h
end Go.Proofs.YtliacpkblicnhaaGreat
