/- Texts of this claim, in one: what the law leans on (part 3). -/
import Derived.Test.YtliacpkblicnhaaGreatK2
set_option linter.unusedVariables false
set_option linter.unusedSimpArgs false
set_option maxRecDepth 100000
namespace Go.Proofs.YtliacpkblicnhaaGreat
open Go Go.Sx Go.Proofs
theorem Ns(e:Entry)(A:Option Addr)(cp:Nat)(B:Option Addr)(cq:Nat)(C:Option Addr)(cr:Nat)(hl:e.grp.members.length<=140737488355328):Ct Tryz.prog 101 [Wj e A cp B cq C cr] [] (Wn e A B C) (λu G Q=>u=.int .i64 (Oy e)/\G=[]/\Q=[]):=by
 refine Ct.intro Tryz.func101 rfl rfl rfl (λc hc=>?_)
 refine AX ?_;refine GL.step rfl (Ee rfl rfl rfl) (Aa λIJ=>?_);refine AL 1 ?_;refine Bh (ks:=[1,2]) (is:=[0]) (js:=[0,1,2]) (fun(u_:Unit)=>True) (fun(u_:Unit)=>[(3,.bool (decide (JY e)))]) (fun(u_:Unit)=>[]) (fun(u_:Unit)=>[]) rfl rfl rfl ?_ ?_
 ·refine GC.region ?_;refine AA 1 ?_;refine Ad 0 ?_;refine Ah Tryz.call156 [] [] rfl rfl rfl (by exact Yl _) ?_
  rintro _ _ _ ⟨rfl,rfl,rfl⟩
  refine AA 1 ?_;refine Ak 7 ?_ ?_
  ·intro h1;try simp only[D6,D8,D9] at h1
   refine AA 1 ?_;refine Aj 0 ?_;refine Au rfl (s:=7) rfl rfl (EI rfl Tryz.call156 rfl (is:=[]) (js:=[]) rfl rfl (by exact Yl _)) (GL.ret ?_)
   rintro _ _ _ ⟨rfl,rfl,rfl⟩
   refine AA 2 ?_;refine Ak 12 ?_ ?_
   ·intro h2;try simp only[D6,D8,D9] at h2
    refine AA 1 ?_;refine Aj 0 ?_;refine Au rfl (s:=12) rfl rfl (EI rfl Tryz.call156 rfl (is:=[]) (js:=[]) rfl rfl (by exact Yl _)) (GL.ret ?_)
    rintro _ _ _ ⟨rfl,rfl,rfl⟩
    refine AA 2 ?_;refine Ak 17 ?_ ?_
    ·intro h3;try simp only[D6,D8,D9] at h3
     refine AA 1 ?_;refine Aj 0 ?_;refine AA 3 ?_;refine Ak 22 ?_ ?_
     ·intro h4;try simp only[D6,D8,D9] at h4
      refine AA 1 ?_;refine Aj 0 ?_;refine AA 3 ?_;refine Ak 3 ?_ ?_
      ·intro h5;try simp only[D6,D8,D9] at h5
       refine Ac ?_
       exact λa w h=>⟨(()),trivial,by rw[decide_eq_true (show JY e by simp only[JY,JD];simp_all;try omega)];exact h.ct [0] [0,1,2]⟩
      intro h5;try simp only[D6,D8,D9] at h5
      refine Ac ?_
      exact ZK
     intro h4;try simp only[D6,D8,D9] at h4
     refine AA 5 ?_;refine Ac ?_
     exact ZK
    intro h3;try simp only[D6,D8,D9] at h3
    refine AA 10 ?_;refine Ac ?_
    exact ZK
   intro h2;try simp only[D6,D8,D9] at h2
   refine AA 15 ?_;refine Ac ?_
   exact ZK
  intro h1;try simp only[D6,D8,D9] at h1
  refine AA 20 ?_;refine Ac ?_
  exact ZK
 intro u_ hj1
 try dsimp only[List.cons_append,List.nil_append] at hj1 ⊢
 refine Bh (ks:=[2]) (is:=[0]) (js:=[0,1,2]) (fun(u_:Unit)=>True) (fun(u_:Unit)=>[(3,.bool (decide (JY e/\KU e)))]) (fun(u_:Unit)=>[]) (fun(u_:Unit)=>[]) rfl rfl rfl ?_ ?_
 ·refine AV 1 ?_;refine Ad 0 ?_;refine Ap ?_;refine GC.block ?_;refine AP 2 ?_;refine Af ?_ ?_
  ·intro h6;try simp only[D6,D8,D9] at h6
   refine GC.region ?_;refine AA 2 ?_;refine Ak 32 ?_ ?_
   ·intro h7;try simp only[D6,D8,D9] at h7
    refine AA 1 ?_;refine BX 0 5 ?_;refine Au rfl (s:=32) rfl rfl (EI rfl Tryz.call87 rfl (is:=[]) (js:=[]) rfl rfl (by exact Oq e.op.kind e.op.at_ e.op.n _ e.op.data.length _ _ e.op.old.length _)) (GL.ret ?_)
    rintro _ _ _ ⟨rfl,rfl,rfl⟩
    refine AA 3 ?_;refine Ak 38 ?_ ?_
    ·intro h8;try simp only[D6,D8,D9] at h8
     refine AA 2 ?_;refine Aj 0 ?_;refine AA 3 ?_;refine Ak 44 ?_ ?_
     ·intro h9;try simp only[D6,D8,D9] at h9
      refine AA 2 ?_;refine Aj 0 ?_;refine AA 4 ?_;refine Ak 3 ?_ ?_
      ·intro h10;try simp only[D6,D8,D9] at h10
       refine Ac ?_
       exact zq24_
      intro h10;try simp only[D6,D8,D9] at h10
      refine Ac ?_
      exact RJ
     intro h9;try simp only[D6,D8,D9] at h9
     refine AA 7 ?_;refine Ac ?_
     exact RJ
    intro h8;try simp only[D6,D8,D9] at h8
    refine AA 13 ?_;refine Ac ?_
    exact RJ
   intro h7;try simp only[D6,D8,D9] at h7
   refine AA 19 ?_;refine Ac ?_
   exact RJ
  intro h6;try simp only[D6,D8,D9] at h6
  refine AP 2 ?_;refine Af ?_ ?_
  ·intro h11;try simp only[D6,D8,D9] at h11
   refine GC.region ?_;refine AA 2 ?_;refine Ak 54 ?_ ?_
   ·intro h12;try simp only[D6,D8,D9] at h12
    refine AA 1 ?_;refine BX 0 5 ?_;refine Ba (s:=54) rfl rfl rfl (ED Hy KO rfl rfl) ?_;refine Au rfl (s:=54) rfl rfl (EI rfl Tryz.call92 rfl (is:=[]) (js:=[0,1]) rfl rfl (by exact dD e.op _ _ _ _)) (GL.ret ?_)
    rintro _ _ _ ⟨rfl,rfl,rfl⟩
    refine AA 2 ?_;refine Ak 60 ?_ ?_
    ·intro h13;try simp only[D6,D8,D9] at h13
     refine AA 1 ?_;refine BX 0 2 ?_;refine Au rfl (s:=60) rfl rfl (EI rfl Tryz.call89 rfl (is:=[]) (js:=[2]) rfl rfl (by exact MP e.grp.epoch _ e.grp.members _ (by first|assumption|omega))) (GL.ret ?_)
     rintro _ _ _ ⟨rfl,rfl,rfl⟩
     refine AA 3 ?_;refine Ak 66 ?_ ?_
     ·intro Nb;try simp only[D6,D8,D9] at Nb
      refine AA 1 ?_;refine Aj 0 ?_;refine AA 3 ?_;refine Ak 3 ?_ ?_
      ·intro h15;try simp only[D6,D8,D9] at h15
       refine Ac ?_
       exact zq24_
      intro h15;try simp only[D6,D8,D9] at h15
      refine Ac ?_
      exact RJ
     intro Nb;try simp only[D6,D8,D9] at Nb
     refine AA 5 ?_;refine Ac ?_
     exact RJ
    intro h13;try simp only[D6,D8,D9] at h13
    refine AA 11 ?_;refine Ac ?_
    exact RJ
   intro h12;try simp only[D6,D8,D9] at h12
   refine AA 17 ?_;refine Ac ?_
   exact RJ
  intro h11;try simp only[D6,D8,D9] at h11
  refine GC.region ?_;refine AA 1 ?_;refine Ac ?_
  exact RJ
 intro u_ hj2
 try dsimp only[List.cons_append,List.nil_append] at hj2 ⊢
 refine AB ?_;refine AP 2 ?_;refine Af ?_ ?_
 ·intro h16;try simp only[D6,D8,D9] at h16
  refine AP 1 ?_;refine GC.ret (AQ 2 [] [] ?_)
  exact zq26_
 intro h16;try simp only[D6,D8,D9] at h16
 refine GC.skip (?_:GC _ _ _ _)
 refine AP 1 ?_;refine GC.ret (AQ 2 [] [] ?_)
 exact zq26_
theorem ET{n:Int}(h:isNum n=true):1<=n/\n<=4611686018427387904:=by simp[isNum] at h;exact h
theorem RI{X:Prop}(h:X:=by(exact⟨congrArg Value.bool (decide_eq_false λH=>by first|exact absurd (H 0 (by omega)).1 (by assumption)|exact absurd (H (k+1) (by omega)).1 (by assumption)|exact absurd ((H (k+1) (by omega)).2 (by omega)) (by assumption)).symm,rfl,rfl⟩)):X:=h
theorem zq28_{X:Prop}(h:X:=by(exact λa w h=>⟨(_+1),(by omega),⟨by omega,λj hj=>(Nat.lt_succ_iff_lt_or_eq.1 hj).elim (hall j) (λe=>by subst e;exact⟨by assumption,λ_=>by first|omega|assumption⟩)⟩,h.cut (is:=[]) (js:=[4]) ⟨rfl,rfl,rfl,rfl,trivial⟩ rfl rfl⟩)):X:=h
theorem zq29_{X:Prop}(h:X:=by(exact λa w h=>⟨(_+1),(by omega),⟨by omega,λj hj=>(Nat.lt_succ_iff_lt_or_eq.1 hj).elim (hall j) (λe=>by subst e;exact⟨by assumption,λ_=>by first|omega|assumption⟩)⟩,h.cut (is:=[]) (js:=[8]) ⟨rfl,rfl,rfl,rfl,trivial⟩ rfl rfl⟩)):X:=h
theorem zq30_{X:Prop}(h:X:=by(exact⟨congrArg Value.bool (decide_eq_true λj hj=>hall j (by omega)).symm,rfl,rfl⟩)):X:=h
theorem lrow_ct(A:Option Addr)(l:List Entry)(cp:Nat)(hl:l.length<=140737488355328)(hm:∀e∈l,Lp e):Ct Tryz.prog 145 [.slice A l.length cp] [] [D7.row JV A l] (λu G Q=>u=.bool (decide (Oi l))/\G=[]/\Q=[]):=by
 refine Ct.intro Tryz.func145 rfl rfl rfl (λc hc=>?_)
 refine AP 1 ?_;refine AB ?_;refine AP 3 ?_;refine GC.block ?_;refine Bd (ks:=[0,5,6]) (is:=[]) (js:=[0]) (fun(k:Nat)=>k<=l.length/\∀j:Nat,j<k->Eo (gt l (j:Int))/\(0<j->(gt l (j:Int)).num - 1=(gt l ((j:Int) - 1)).num)) (fun(k:Nat)=>[(7,.int .i64 (k:Int))]) (fun(k:Nat)=>[]) (fun(k:Nat)=>[]) (fun(k:Nat)=>l.length - k) (0) rfl rfl rfl (λa w h=>⟨⟨by omega,λj hj=>by omega⟩,h.Hf (is:=[]) (js:=[0]) (ks:=[0,5,6]) ⟨rfl,trivial⟩ rfl rfl rfl⟩) ?_
 intro k hk
 try dsimp only[List.cons_append,List.nil_append] at hk ⊢
 obtain⟨hk,hall⟩:=hk
 refine AP 1 ?_;refine AB ?_;refine Af ?_ ?_
 ·intro h1;try simp only[D6,E_] at h1
  refine GC.skip (?_:GC _ _ _ _)
  refine AB ?_;refine GC.block ?_;refine AV 1 ?_;refine GL.step rfl (Ej (i:=0) rfl rfl rfl rfl Tryz.underlying62 F9 (by first|omega|(have:=ET (show Eo (gt l ((k+1:Nat):Int)) from by assumption).1;dsimp only;omega)) (EW (by first|omega|(have:=ET (show Eo (gt l ((k+1:Nat):Int)) from by assumption).1;dsimp only;omega)) (by first|omega|(have:=ET (show Eo (gt l ((k+1:Nat):Int)) from by assumption).1;dsimp only;omega)))) (Aa λp_x10=>Aa λZt=>GL.and λok_x10=>?_)
  rcases Zt with⟨_,⟨_,⟨_,⟨_,⟨_,⟨⟨_,⟨_,⟨_,⟨⟨Ax10_0,nS⟩,⟨Ax10_1,cpx10_1⟩⟩⟩⟩⟩,⟨_,⟨Ax10_2,cpx10_2⟩⟩⟩⟩⟩⟩⟩⟩
  refine GL.step rfl (Ed rfl (FX (i:=0) rfl rfl Ku (vs:=[_,_,_,_,_,_,_,_,_,_,_,_]) F9 ⟨rfl,rfl,rfl,rfl,rfl,rfl,rfl,rfl,rfl,rfl,rfl,rfl,trivial⟩)) ?_;refine GL.step rfl (EH rfl Ia) (Aa λKZ=>?_)
  refine AA 1 ?_;refine Ar 0 ?_;refine Ap ?_;refine AB ?_
  have hme:=(hm _ (Ec (l:=l) (k:=k) (by omega))).m
  have hml:(gt l (k:Int)).grp.members.length<=140737488355328:=by omega
  rcases k with _|k
  ·skip
   refine BP Ef (by kernel_rfl) ?_;refine GQ.step rfl (Ea (G7 (i:=0) rfl rfl Ku (vs:=[_,_,_,_,_,_,_,_,_,_,_,_]) F9 ⟨rfl,rfl,rfl,rfl,rfl,rfl,rfl,rfl,rfl,rfl,rfl,rfl,trivial⟩)) ?_
   refine GQ.step rfl (JU Tryz.call101 rfl (js:=[1,2,3]) rfl (by exact Ns (gt l (_:Int)) _ _ _ _ _ _ (by first|assumption|omega))) ?_;refine Am 2 ?_;refine BJ (i:=15) rfl (λh2=>?_) (λh2=>?_)
   ·try simp only[D6,E_] at h2
    refine Am 3 ?_
    iterate 10 refine Bo (s:=18) rfl rfl rfl ?_
    refine Am 2 ?_
    refine BO (?_:GC _ _ _ _)
    refine AU rfl ?_;refine AP 1 ?_;refine GC.ret (AQ 2 [] [] ?_)
    exact RI
   try simp only[D6,E_] at h2
   refine Am 3 ?_;refine BJ (i:=18) rfl (λh3=>?_) (λh3=>?_)
   ·try simp only[D6,E_] at h3
    exfalso;omega
   try simp only[D6,E_] at h3
   refine Am 12 ?_
   refine BO (?_:GC _ _ _ _)
   refine AY rfl ?_
   refine GC.skip (?_:GC _ _ _ _)
   refine GC.region ?_;refine AO rfl (EU rfl rfl (Fh (by first|omega|(have:=ET (show Eo (gt l ((k+1:Nat):Int)) from by assumption).1;dsimp only;omega)) (by first|omega|(have:=ET (show Eo (gt l ((k+1:Nat):Int)) from by assumption).1;dsimp only;omega)))) ?_
   refine AA 1 ?_;refine Ac ?_
   exact zq28_
  skip
  refine Di (x:=.const (.slice A l.length cp)) (y:=.const (.int .i64 (((k+1:Nat):Int) - 1))) (j:=4) rfl rfl rfl (by first|omega|(have:=ET (show Eo (gt l ((k+1:Nat):Int)) from by assumption).1;dsimp only;omega)) (EW (by first|omega|(have:=ET (show Eo (gt l ((k+1:Nat):Int)) from by assumption).1;dsimp only;omega)) (by first|omega|(have:=ET (show Eo (gt l ((k+1:Nat):Int)) from by assumption).1;dsimp only;omega))) (λp_xp Ve P6 aC=>?_)
  rcases Ve with⟨_,⟨_,⟨_,⟨_,⟨_,⟨⟨_,⟨_,⟨_,⟨⟨oH,Y5⟩,⟨Axp_1,cpxp_1⟩⟩⟩⟩⟩,⟨_,⟨Axp_2,cpxp_2⟩⟩⟩⟩⟩⟩⟩⟩
  refine BP Ef (by kernel_rfl) ?_;refine GQ.step rfl (Ea (G7 (i:=0) rfl rfl Ku (vs:=[_,_,_,_,_,_,_,_,_,_,_,_]) F9 ⟨rfl,rfl,rfl,rfl,rfl,rfl,rfl,rfl,rfl,rfl,rfl,rfl,trivial⟩)) ?_
  refine GQ.step rfl (JU Tryz.call101 rfl (js:=[5,6,7]) rfl (by exact Ns (gt l (_:Int)) _ _ _ _ _ _ (by first|assumption|omega))) ?_;refine Am 2 ?_;refine BJ (i:=15) rfl (λh4=>?_) (λh4=>?_)
  ·try simp only[D6,E_] at h4
   refine Am 3 ?_
   iterate 10 refine Bo (s:=18) rfl rfl rfl ?_
   refine Am 2 ?_
   refine BO (?_:GC _ _ _ _)
   refine AU rfl ?_;refine AP 1 ?_;refine GC.ret (AQ 2 [] [] ?_)
   exact RI
  try simp only[D6,E_] at h4
  refine Am 3 ?_;refine BJ (i:=18) rfl (λh5=>?_) (λh5=>?_)
  ·try simp only[D6,E_] at h5
   refine Am 1 ?_;refine Ai (s:=18) rfl rfl rfl (Ea (EF (i:=0) rfl rfl Ei rfl)) ?_;refine Ai (s:=18) rfl rfl rfl (EP (Jv rfl rfl (Fh (by first|omega|(have:=ET (show Eo (gt l ((k+1:Nat):Int)) from by assumption).1;dsimp only;omega)) (by first|omega|(have:=ET (show Eo (gt l ((k+1:Nat):Int)) from by assumption).1;dsimp only;omega))))) ?_
   refine Am 2 ?_;refine Ai (s:=18) rfl rfl rfl (EP (Jv rfl rfl (Fh (by first|omega|(have:=ET (show Eo (gt l ((k+1:Nat):Int)) from by assumption).1;dsimp only;omega)) (by first|omega|(have:=ET (show Eo (gt l ((k+1:Nat):Int)) from by assumption).1;dsimp only;omega))))) ?_
   refine Ai (s:=18) rfl rfl rfl (EP (Eb P6 rfl rfl Tryz.underlying62 F9 (by first|omega|(have:=ET (show Eo (gt l ((k+1:Nat):Int)) from by assumption).1;dsimp only;omega)) (by first|omega|(have:=ET (show Eo (gt l ((k+1:Nat):Int)) from by assumption).1;dsimp only;omega)))) ?_
   refine Ai (s:=18) rfl rfl rfl (EP (EM U2 rfl)) ?_;refine Ai (s:=18) rfl rfl rfl (Ea (ES (i:=0) rfl rfl Ei rfl)) ?_;refine Am 3 ?_
   refine BO (?_:GC _ _ _ _)
   refine Af ?_ ?_
   ·intro h6;try simp only[D6,E_] at h6
    refine AP 1 ?_;refine GC.ret (AQ 2 [] [] ?_)
    exact RI
   intro h6;try simp only[D6,E_] at h6
   refine GC.skip (?_:GC _ _ _ _)
   refine GC.region ?_;refine AO rfl (EU rfl rfl (Fh (by first|omega|(have:=ET (show Eo (gt l ((k+1:Nat):Int)) from by assumption).1;dsimp only;omega)) (by first|omega|(have:=ET (show Eo (gt l ((k+1:Nat):Int)) from by assumption).1;dsimp only;omega)))) ?_
   refine AA 1 ?_;refine Ac ?_
   exact zq29_
  try simp only[D6,E_] at h5
  exfalso;omega
 intro h1;try simp only[D6,E_] at h1
 refine GC.exit (?_:GC _ _ _ _)
 refine AP 1 ?_;refine GC.ret (AQ 2 [] [] ?_)
 exact zq30_
theorem wrow_ct(A:Option Addr)(l:List Entry)(cp:Nat)(hl:l.length<=140737488355328)(hm:∀e∈l,Lp e):Ct Tryz.prog 91 [.slice A l.length cp] [] [D7.row JV A l] (λu G Q=>u=.bool (decide (Oi l))/\G=[]/\Q=[]):=by
 refine Ct.intro Tryz.func91 rfl rfl rfl (λc hc=>?_)
 refine AP 1 ?_;refine AB ?_;refine AP 3 ?_;refine GC.block ?_;refine Bd (ks:=[0,5,6]) (is:=[]) (js:=[0]) (fun(k:Nat)=>k<=l.length/\∀j:Nat,j<k->Eo (gt l (j:Int))/\(0<j->(gt l (j:Int)).num - 1=(gt l ((j:Int) - 1)).num)) (fun(k:Nat)=>[(7,.int .i64 (k:Int))]) (fun(k:Nat)=>[]) (fun(k:Nat)=>[]) (fun(k:Nat)=>l.length - k) (0) rfl rfl rfl (λa w h=>⟨⟨by omega,λj hj=>by omega⟩,h.Hf (is:=[]) (js:=[0]) (ks:=[0,5,6]) ⟨rfl,trivial⟩ rfl rfl rfl⟩) ?_
 intro k hk
 try dsimp only[List.cons_append,List.nil_append] at hk ⊢
 obtain⟨hk,hall⟩:=hk
 refine AP 1 ?_;refine AB ?_;refine Af ?_ ?_
 ·intro h1;try simp only[D6,E_] at h1
  refine GC.skip (?_:GC _ _ _ _)
  refine AB ?_;refine GC.block ?_;refine AV 1 ?_;refine GL.step rfl (Ej (i:=0) rfl rfl rfl rfl Tryz.underlying62 F9 (by first|omega|(have:=ET (show Eo (gt l ((k+1:Nat):Int)) from by assumption).1;dsimp only;omega)) (EW (by first|omega|(have:=ET (show Eo (gt l ((k+1:Nat):Int)) from by assumption).1;dsimp only;omega)) (by first|omega|(have:=ET (show Eo (gt l ((k+1:Nat):Int)) from by assumption).1;dsimp only;omega)))) (Aa λp_x10=>Aa λZt=>GL.and λok_x10=>?_)
  rcases Zt with⟨_,⟨_,⟨_,⟨_,⟨_,⟨⟨_,⟨_,⟨_,⟨⟨Ax10_0,nS⟩,⟨Ax10_1,cpx10_1⟩⟩⟩⟩⟩,⟨_,⟨Ax10_2,cpx10_2⟩⟩⟩⟩⟩⟩⟩⟩
  refine GL.step rfl (Ed rfl (FX (i:=0) rfl rfl Ku (vs:=[_,_,_,_,_,_,_,_,_,_,_,_]) F9 ⟨rfl,rfl,rfl,rfl,rfl,rfl,rfl,rfl,rfl,rfl,rfl,rfl,trivial⟩)) ?_;refine GL.step rfl (EH rfl Ia) (Aa λKZ=>?_)
  refine AA 1 ?_;refine Ar 0 ?_;refine Ap ?_;refine AB ?_
  have hme:=(hm _ (Ec (l:=l) (k:=k) (by omega))).m
  have hml:(gt l (k:Int)).grp.members.length<=140737488355328:=by omega
  rcases k with _|k
  ·skip
   refine BP Ef (by kernel_rfl) ?_;refine GQ.step rfl (Ea (G7 (i:=0) rfl rfl Ku (vs:=[_,_,_,_,_,_,_,_,_,_,_,_]) F9 ⟨rfl,rfl,rfl,rfl,rfl,rfl,rfl,rfl,rfl,rfl,rfl,rfl,trivial⟩)) ?_
   refine GQ.step rfl (JU Tryz.call101 rfl (js:=[1,2,3]) rfl (by exact Ns (gt l (_:Int)) _ _ _ _ _ _ (by first|assumption|omega))) ?_;refine Am 2 ?_;refine BJ (i:=15) rfl (λh2=>?_) (λh2=>?_)
   ·try simp only[D6,E_] at h2
    refine Am 3 ?_
    iterate 10 refine Bo (s:=18) rfl rfl rfl ?_
    refine Am 2 ?_
    refine BO (?_:GC _ _ _ _)
    refine AU rfl ?_;refine AP 1 ?_;refine GC.ret (AQ 2 [] [] ?_)
    exact RI
   try simp only[D6,E_] at h2
   refine Am 3 ?_;refine BJ (i:=18) rfl (λh3=>?_) (λh3=>?_)
   ·try simp only[D6,E_] at h3
    exfalso;omega
   try simp only[D6,E_] at h3
   refine Am 12 ?_
   refine BO (?_:GC _ _ _ _)
   refine AY rfl ?_
   refine GC.skip (?_:GC _ _ _ _)
   refine GC.region ?_;refine AO rfl (EU rfl rfl (Fh (by first|omega|(have:=ET (show Eo (gt l ((k+1:Nat):Int)) from by assumption).1;dsimp only;omega)) (by first|omega|(have:=ET (show Eo (gt l ((k+1:Nat):Int)) from by assumption).1;dsimp only;omega)))) ?_
   refine AA 1 ?_;refine Ac ?_
   exact zq28_
  skip
  refine Di (x:=.const (.slice A l.length cp)) (y:=.const (.int .i64 (((k+1:Nat):Int) - 1))) (j:=4) rfl rfl rfl (by first|omega|(have:=ET (show Eo (gt l ((k+1:Nat):Int)) from by assumption).1;dsimp only;omega)) (EW (by first|omega|(have:=ET (show Eo (gt l ((k+1:Nat):Int)) from by assumption).1;dsimp only;omega)) (by first|omega|(have:=ET (show Eo (gt l ((k+1:Nat):Int)) from by assumption).1;dsimp only;omega))) (λp_xp Ve P6 aC=>?_)
  rcases Ve with⟨_,⟨_,⟨_,⟨_,⟨_,⟨⟨_,⟨_,⟨_,⟨⟨oH,Y5⟩,⟨Axp_1,cpxp_1⟩⟩⟩⟩⟩,⟨_,⟨Axp_2,cpxp_2⟩⟩⟩⟩⟩⟩⟩⟩
  refine BP Ef (by kernel_rfl) ?_;refine GQ.step rfl (Ea (G7 (i:=0) rfl rfl Ku (vs:=[_,_,_,_,_,_,_,_,_,_,_,_]) F9 ⟨rfl,rfl,rfl,rfl,rfl,rfl,rfl,rfl,rfl,rfl,rfl,rfl,trivial⟩)) ?_
  refine GQ.step rfl (JU Tryz.call101 rfl (js:=[5,6,7]) rfl (by exact Ns (gt l (_:Int)) _ _ _ _ _ _ (by first|assumption|omega))) ?_;refine Am 2 ?_;refine BJ (i:=15) rfl (λh4=>?_) (λh4=>?_)
  ·try simp only[D6,E_] at h4
   refine Am 3 ?_
   iterate 10 refine Bo (s:=18) rfl rfl rfl ?_
   refine Am 2 ?_
   refine BO (?_:GC _ _ _ _)
   refine AU rfl ?_;refine AP 1 ?_;refine GC.ret (AQ 2 [] [] ?_)
   exact RI
  try simp only[D6,E_] at h4
  refine Am 3 ?_;refine BJ (i:=18) rfl (λh5=>?_) (λh5=>?_)
  ·try simp only[D6,E_] at h5
   refine Am 1 ?_;refine Ai (s:=18) rfl rfl rfl (Ea (EF (i:=0) rfl rfl Ei rfl)) ?_;refine Ai (s:=18) rfl rfl rfl (EP (Jv rfl rfl (Fh (by first|omega|(have:=ET (show Eo (gt l ((k+1:Nat):Int)) from by assumption).1;dsimp only;omega)) (by first|omega|(have:=ET (show Eo (gt l ((k+1:Nat):Int)) from by assumption).1;dsimp only;omega))))) ?_
   refine Am 2 ?_;refine Ai (s:=18) rfl rfl rfl (EP (Jv rfl rfl (Fh (by first|omega|(have:=ET (show Eo (gt l ((k+1:Nat):Int)) from by assumption).1;dsimp only;omega)) (by first|omega|(have:=ET (show Eo (gt l ((k+1:Nat):Int)) from by assumption).1;dsimp only;omega))))) ?_
   refine Ai (s:=18) rfl rfl rfl (EP (Eb P6 rfl rfl Tryz.underlying62 F9 (by first|omega|(have:=ET (show Eo (gt l ((k+1:Nat):Int)) from by assumption).1;dsimp only;omega)) (by first|omega|(have:=ET (show Eo (gt l ((k+1:Nat):Int)) from by assumption).1;dsimp only;omega)))) ?_
   refine Ai (s:=18) rfl rfl rfl (EP (EM U2 rfl)) ?_;refine Ai (s:=18) rfl rfl rfl (Ea (ES (i:=0) rfl rfl Ei rfl)) ?_;refine Am 3 ?_
   refine BO (?_:GC _ _ _ _)
   refine Af ?_ ?_
   ·intro h6;try simp only[D6,E_] at h6
    refine AP 1 ?_;refine GC.ret (AQ 2 [] [] ?_)
    exact RI
   intro h6;try simp only[D6,E_] at h6
   refine GC.skip (?_:GC _ _ _ _)
   refine GC.region ?_;refine AO rfl (EU rfl rfl (Fh (by first|omega|(have:=ET (show Eo (gt l ((k+1:Nat):Int)) from by assumption).1;dsimp only;omega)) (by first|omega|(have:=ET (show Eo (gt l ((k+1:Nat):Int)) from by assumption).1;dsimp only;omega)))) ?_
   refine AA 1 ?_;refine Ac ?_
   exact zq29_
  try simp only[D6,E_] at h5
  exfalso;omega
 intro h1;try simp only[D6,E_] at h1
 refine GC.exit (?_:GC _ _ _ _)
 refine AP 1 ?_;refine GC.ret (AQ 2 [] [] ?_)
 exact zq30_
theorem qc(n:Int)(cp:Nat)(A:Option Addr):Ct Tryz.prog 146 [.int .i64 n,.slice A 0 cp] [] [] (λu G Q=>u=.bool true/\G=[]/\Q=[]):=by
 refine Ct.intro Tryz.func146 rfl rfl rfl (λc hc=>?_)
 refine AP 1 ?_;refine AV 4 ?_;refine Ak 8 ?_ ?_
 ·intro h1;try simp only[D6] at h1
  refine AL 9 ?_;refine GC.ret (AQ 4 [] [] ?_)
  exact⟨rfl,rfl,rfl⟩
 intro h1;try simp only[D6] at h1
 exfalso;omega
theorem vload_ct(bl sz:Int)(A:Option Addr)(l:List F5)(cp:Nat)(hl:l.length<=140737488355328):Ct Tryz.prog 151 [Ua bl sz,.slice A l.length cp] [] [D7.row GR A l] (λv G Q=>(∃x e,v=.tuple #[.pointer x,.int .i64 e]/\(e=0↔(G5 bl sz/\IC bl sz (-1) l=true)))/\G=[]/\Q=[]):=by
 by_cases h:G5 bl sz
 ·cases hb:IC bl sz (-1) l
  ·exact Ct.drop (load_no bl sz A l cp h hl hb) λv G Q h=>⟨_,_,h.1,by simp⟩
  ·exact Ct.drop (load_ok bl sz A l cp h hl hb) λv G Q ⟨p,pb,pv,h1,_⟩=>⟨_,_,h1,by simp[h]⟩
 ·exact Ct.drop (load_bad bl sz A l cp h) λv G Q h1=>⟨_,_,h1.1,by simp[h]⟩
theorem tload_ct(A:Option Addr)(l:List Row)(cp:Nat)(hl:l.length<=140737488355328):Ct Tryz.prog 152 [.slice A l.length cp] [] [D7.row Jz A l] (λv G Q=>(∃x e,v=.tuple #[.pointer x,.int .i64 e]/\(e=0↔Ie l=true))/\G=[]/\Q=[]):=by
 cases hb:Ie l
 ·exact Ct.drop (oW A l cp hl hb) λv G Q h=>⟨_,_,h.1,by simp⟩
 ·exact Ct.drop (tload_ok A l cp hl hb) λv G Q h=>by
   obtain⟨_,_,_,_,h1,_⟩:=h
   exact⟨_,_,h1,by simp⟩
theorem mown_ct(e:Int)(A:Option Addr)(l:List Int)(cp:Nat)(hl:l.length<=17592186044416):Ct Tryz.prog 155 [Qj e A l.length cp] [] [D7.row kI A l] (λu G Q=>∃A' cp',u=Qj e A' l.length cp'/\G=[]/\Q=[]):=by
 refine Ct.intro Tryz.func155 rfl rfl rfl (λc hc=>?_)
 refine AX ?_;refine GL.step rfl (Ee rfl rfl rfl) (Aa λIJ=>?_);refine GL.step rfl (EH rfl OG) (Aa λGm=>?_);refine BL 1 ?_;refine Ad 1 ?_;refine Ah Tryz.call195 [] [0] rfl rfl rfl (by exact clone_i _ _ _ (by first|assumption|omega)) ?_
 rintro _ _ _ ⟨A5,cp5,l5,k5,rfl,rfl,rfl⟩
 refine AA 1 ?_;refine BI 2 ?_;refine Ap ?_;refine AX ?_;refine Az 2 2 ?_;refine Ar 1 ?_;refine Ap ?_;refine GC.ret (DC 2 55 1 2 [] [] ?_)
 exact⟨_,_,rfl,rfl,rfl⟩
abbrev og(s:I4)(A:Option Addr)(cp:Nat)(B:Option Addr)(cq:Nat)(C:Option Addr)(cr:Nat):List Value:=[.int .i64 s.num,.int .i64 s.Jo.bl,.int .i64 s.Jo.sz,.slice A s.pages.length cp,.slice B s.rows.length cq,.int .i64 s.grp.epoch,.slice C s.grp.members.length cr]
theorem heldc_ct(b:Nat)(s:I4)(A:Option Addr)(cp:Nat)(B:Option Addr)(cq:Nat)(C:Option Addr)(cr:Nat)(pg:F5)(D:Option Addr)(cd:Nat):Ct Tryz.prog 154 [kW pg D cd,.pointer (some ⟨b,0,none⟩)] [.cells b (og s A cp B cq C cr) 61] []
    (λu G Q=>u=.bool (decide (s.num<pg.ver))/\G=[.cells b (og s A cp B cq C cr) 61]/\Q=[]):=by
 refine Ct.intro Tryz.func154 rfl rfl rfl (λc hc=>?_)
 refine AX ?_;refine GL.step rfl (Ee rfl rfl rfl) (Aa λGm=>?_);refine AL 1 ?_;refine AV 1 ?_;refine Ad 0 ?_;refine AA 1 ?_;refine Ad 1 ?_;refine AL 2 ?_;refine GC.ret (AQ 3 [1] [] ?_)
 exact⟨rfl,rfl,rfl⟩
theorem zq31_{X:Prop}(h:X:=by(exact⟨_,⟨λg=>by omega,λg=>absurd (λp hp=>by obtain⟨j,hj,rfl⟩:=Yo hp;exact hall j (by omega)) g⟩,rfl,rfl,rfl⟩)):X:=h
theorem hidx_ct(b:Nat)(s:I4)(A:Option Addr)(cp:Nat)(B:Option Addr)(cq:Nat)(C:Option Addr)(cr:Nat)(D:Option Addr)(l:List F5)(cd:Nat)(hl:l.length<=140737488355328):Ct Tryz.prog 194 [.slice D l.length cd,.func (.func 154) #[] #[.pointer (some ⟨b,0,none⟩)]] [.cells b (og s A cp B cq C cr) 61] [D7.row GR D l]
    (λu G Q=>∃i:Int,(0<=i↔¬∀p∈l,p.ver<=s.num)/\u=.int .i64 i/\G=[.cells b (og s A cp B cq C cr) 61]/\Q=[]):=by
 refine Ct.intro Tryz.func194 rfl rfl rfl (λc hc=>?_)
 refine AP 1 ?_;refine AB ?_;refine AP 3 ?_;refine GC.block ?_;refine Bd (ks:=[0,1,7]) (is:=[0]) (js:=[0]) (fun(k:Nat)=>k<=l.length/\∀j:Nat,j<k->(gt l (j:Int)).ver<=s.num) (fun(k:Nat)=>[(8,.int .i64 (k:Int))]) (fun(k:Nat)=>[]) (fun(k:Nat)=>[]) (fun(k:Nat)=>l.length - k) (0) rfl rfl rfl (λa w h=>⟨⟨by omega,λj hj=>by omega⟩,h.Hf (is:=[0]) (js:=[0]) (ks:=[0,1,7]) ⟨rfl,trivial⟩ rfl rfl rfl⟩) ?_
 intro k hk
 try dsimp only[List.cons_append,List.nil_append] at hk ⊢
 obtain⟨hk,hall⟩:=hk
 refine AP 1 ?_;refine AB ?_;refine Af ?_ ?_
 ·intro h1;try simp only[D6] at h1
  refine GC.skip (?_:GC _ _ _ _)
  refine AB ?_;refine GC.block ?_;refine AP 2 ?_;refine AV 3 ?_;refine GL.step rfl (Ej (i:=0) rfl rfl rfl rfl Tryz.underlying58 Gs (by omega) (EW (by omega) (by omega))) (Aa λp_x14=>Aa λVk=>GL.and λgV=>?_)
  rcases Vk with⟨_,⟨_,⟨Ax14_0,cpx14_0⟩⟩⟩
  refine GL.step rfl (Ed rfl (FX (i:=0) rfl rfl RF (vs:=[_,_,_]) Gs ⟨rfl,rfl,rfl,trivial⟩)) ?_;refine GL.step rfl (QG rfl Tryz.call154 rfl rfl (is:=[0]) (js:=[]) rfl rfl (by exact heldc_ct _ s _ _ _ _ _ _ (gt l (k:Int)) _ _)) (GL.ret ?_)
  rintro _ _ _ ⟨rfl,rfl,rfl⟩
  refine Ap ?_;refine Af ?_ ?_
  ·intro h2;try simp only[D6] at h2
   refine AP 2 ?_;refine GC.ret (AQ 4 [0] [] ?_)
   exact⟨_,⟨λ_ H=>by have:=H _ (Ec (l:=l) (k:=k) (by omega));omega,λ_=>by omega⟩,rfl,rfl,rfl⟩
  intro h2;try simp only[D6] at h2
  refine GC.skip (?_:GC _ _ _ _)
  refine GC.region ?_;refine AO rfl (EU rfl rfl (Fh (by omega) (by omega))) ?_;refine AA 1 ?_;refine Ac ?_
  exact λa w h=>⟨(k+1),(by omega),⟨by omega,λj hj=>(Nat.lt_succ_iff_lt_or_eq.1 hj).elim (hall j) (λe=>by subst e;omega)⟩,h.ct [0] [2]⟩
 intro h1;try simp only[D6] at h1
 refine GC.exit (?_:GC _ _ _ _)
 refine AP 1 ?_;refine GC.ret (AQ 4 [0] [] ?_)
 exact zq31_
theorem hcon_ct(b:Nat)(s:I4)(A:Option Addr)(cp:Nat)(B:Option Addr)(cq:Nat)(C:Option Addr)(cr:Nat)(D:Option Addr)(l:List F5)(cd:Nat)(hl:l.length<=140737488355328):Ct Tryz.prog 153 [.slice D l.length cd,.func (.func 154) #[] #[.pointer (some ⟨b,0,none⟩)]] [.cells b (og s A cp B cq C cr) 61] [D7.row GR D l]
    (λu G Q=>u=.bool (decide (¬∀p∈l,p.ver<=s.num))/\G=[.cells b (og s A cp B cq C cr) 61]/\Q=[]):=by
 refine Ct.intro Tryz.func153 rfl rfl rfl (λc hc=>?_)
 refine AP 1 ?_;refine AV 2 ?_;refine Ah Tryz.call194 [0] [0] rfl rfl rfl (by exact hidx_ct _ s _ _ _ _ _ _ _ _ _ hl) ?_
 rintro _ _ _ ⟨i7,hi7,rfl,rfl,rfl⟩
 refine AL 2 ?_;refine GC.ret (AQ 4 [0] [] ?_)
 exact⟨congrArg Value.bool (decide_eq_decide.2 hi7),rfl,rfl⟩
theorem VB{X:Prop}(h:X:=by(first|exact⟨_,congrArg (λb=>Value.tuple #[.pointer _,.bool b]) (decide_eq_false (λH=>by obtain⟨⟨g1,g2⟩,g3,g4,g5,g6,g7⟩:=H;first|omega|contradiction|simp_all)).symm,rfl,rfl⟩|exact⟨_,congrArg (λb=>Value.tuple #[.pointer _,.bool b]) (decide_eq_true (⟨⟨by omega,by omega⟩,by assumption,(he27.1 (by assumption)).1,(he27.1 (by assumption)).2,he33.1 (by assumption),by simp_all⟩)).symm,rfl,rfl⟩)):X:=h
theorem Yx(s:I4)(A:Option Addr)(cp:Nat)(B:Option Addr)(cq:Nat)(C:Option Addr)(cr:Nat)(hs:IU s):Ct Tryz.prog 98 [Nw s A cp B cq C cr] [] (NW s A B C) (λu G Q=>∃x,u=.tuple #[.pointer x,.bool (decide (Gj s))]/\G=[]/\Q=[]):=by
 obtain⟨hp_,hr_,hm_,_,_⟩:=hs
 refine Ct.intro Tryz.func98 rfl rfl rfl (λc hc=>?_)
 refine AX ?_;refine GL.step rfl (Ee rfl rfl rfl) (Aa λIJ=>?_);refine AL 2 ?_;refine AB ?_;refine AV 1 ?_;refine Ad 0 ?_;refine AA 2 ?_;refine Ak 11 ?_ ?_
 ·intro h1;try simp only[D6,D9] at h1
  refine AL 10 ?_;refine AU rfl ?_;refine AP 2 ?_;refine GC.ret (BR 2 3 [] [] ?_)
  exact VB
 intro h1;try simp only[D6,D9] at h1
 refine AA 1 ?_;refine Aj 0 ?_;refine AA 3 ?_;refine Ak 16 ?_ ?_
 ·intro h2;try simp only[D6,D9] at h2
  refine AL 5 ?_;refine AU rfl ?_;refine AP 2 ?_;refine GC.ret (BR 2 3 [] [] ?_)
  exact VB
 intro h2;try simp only[D6,D9] at h2
 refine AA 1 ?_;refine BX 0 2 ?_;refine Au rfl (s:=16) rfl rfl (EI rfl Tryz.call89 rfl (is:=[]) (js:=[2]) rfl rfl (by exact MP s.grp.epoch _ s.grp.members _ (by omega))) (GL.ret ?_)
 rintro _ _ _ ⟨rfl,rfl,rfl⟩
 refine AL 2 ?_;refine Af ?_ ?_
 ·intro h3;try simp only[D6,D9] at h3
  refine AP 2 ?_;refine GC.ret (BR 2 3 [] [] ?_)
  exact VB
 intro h3;try simp only[D6,D9] at h3
 refine GC.skip (?_:GC _ _ _ _)
 refine AV 1 ?_;refine Az 0 2 ?_;refine AA 1 ?_;refine Ad 0 ?_;refine Ah Tryz.call151 [] [0] rfl rfl rfl (by exact vload_ct s.Jo.bl s.Jo.sz _ s.pages _ (by omega)) ?_
 rintro _ _ _ ⟨⟨x27,e27,rfl,he27⟩,rfl,rfl⟩
 refine AL 5 ?_;refine AV 1 ?_;refine Ad 0 ?_;refine Ah Tryz.call152 [] [1] rfl rfl rfl (by exact tload_ct _ s.rows _ (by omega)) ?_
 rintro _ _ _ ⟨⟨x33,e33,rfl,he33⟩,rfl,rfl⟩
 refine AL 5 ?_;refine AB ?_;refine AV 3 ?_;refine Ak 38 ?_ ?_
 ·intro h4;try simp only[D6,D9] at h4
  refine AL 9 ?_;refine AU rfl ?_;refine AP 2 ?_;refine GC.ret (BR 2 3 [] [] ?_)
  exact VB
 intro h4;try simp only[D6,D9] at h4
 refine AA 4 ?_;refine Ak 42 ?_ ?_
 ·intro h5;try simp only[D6,D9] at h5
  refine AL 5 ?_;refine AU rfl ?_;refine AP 2 ?_;refine GC.ret (BR 2 3 [] [] ?_)
  exact VB
 intro h5;try simp only[D6,D9] at h5
 refine AA 1 ?_;refine Aj 0 ?_;refine Ba (s:=42) rfl rfl rfl (J5 rfl rfl) ?_;refine Au rfl (s:=42) rfl rfl (EI rfl Tryz.call153 rfl (is:=[0]) (js:=[0]) rfl rfl (by exact hcon_ct _ s _ _ _ _ _ _ _ s.pages _ (by omega))) (GL.ret ?_)
 rintro _ _ _ ⟨rfl,rfl,rfl⟩
 refine AL 1 ?_;refine Af ?_ ?_
 ·intro h6;try simp only[D6,D9] at h6
  refine AP 2 ?_;refine GC.ret (BR 2 3 [] [] ?_)
  exact VB
 intro h6;try simp only[D6,D9] at h6
 refine GC.skip (?_:GC _ _ _ _)
 refine AB ?_;refine BF (m:=11) (is:=[0]) (js:=[0,1,2]) Ef rfl rfl rfl ?_;refine AZ 0 [0] [0,1,2] ?_;refine BA 1 rfl [0] [0,1,2] (i_mem (EF (i:=0) rfl rfl Ei rfl)) ?_;refine AZ 2 [0] [0,1,2] ?_
 refine AZ 3 [0] [0,1,2] ?_;refine AZ 4 [0] [0,1,2] ?_;refine BA 5 rfl [0] [0,1,2] (i_mem (G7 (i:=0) rfl rfl ag_55 (vs:=[_,_]) sz_55 ⟨rfl,rfl,trivial⟩)) ?_;refine Aw [6] ?_
 refine E8.cons (i:=6) rfl rfl (EI rfl Tryz.call155 rfl (is:=[]) (js:=[2]) rfl rfl (by exact mown_ct s.grp.epoch _ s.grp.members _ (by omega))) (by rintro a w ⟨_,_,_,⟨A54,cp54,rfl,rfl,rfl⟩,h⟩;exact h.me [0] [0,1,2]) (GA.ret ?_) Ag
 rintro _ _ _ ⟨A54,cp54,rfl,rfl,rfl⟩
 refine BA 7 rfl [0] [0,1,2] (EK (ED ze_229 of_229 rfl rfl)) ?_;refine Aw [8] ?_
 refine E8.cons (i:=8) rfl rfl (Ee rfl rfl rfl) (by rintro a w ⟨_,h⟩;exact h.me [1] [0,1,2]) (BZ λnY=>?_) Ag
 refine AZ 9 [1] [0,1,2] ?_;refine AZ 10 [1] [0,1,2] ?_
 refine BG (by kernel_rfl) (?_:GC _ _ _ _)
 refine GC.ret (BR 2 3 [] [] ?_)
 exact VB
theorem zq33_{X:Prop}(h:X:=by(first|(rw[if_pos (show Gj s by assumption)];exact⟨_,rfl,rfl,rfl⟩)|(rw[if_neg (show ¬Gj s by assumption)];exact⟨_,rfl,rfl,rfl⟩))):X:=h
theorem mload_ct(s:I4)(A:Option Addr)(cp:Nat)(B:Option Addr)(cq:Nat)(C:Option Addr)(cr:Nat)(hs:IU s):Ct Tryz.prog 144 [Nw s A cp B cq C cr] [] (NW s A B C) (λu G Q=>∃x,u=.tuple #[.pointer x,.int .i64 (if Gj s then 0 else 72)]/\G=[]/\Q=[]):=by
 refine Ct.intro Tryz.func144 rfl rfl rfl (λc hc=>?_)
 refine AX ?_;refine GL.step rfl (Ee rfl rfl rfl) (Aa λIJ=>?_);refine AL 2 ?_;refine AX ?_;refine Az 0 7 ?_;refine Ah Tryz.call98 [] [0,1,2] rfl rfl rfl (by exact Yx s _ _ _ _ _ _ hs) ?_
 rintro _ _ _ ⟨x8,rfl,rfl,rfl⟩
 refine AL 5 ?_;refine AB ?_;refine AP 2 ?_;refine Af ?_ ?_
 ·intro h1;try simp only[D6] at h1
  refine AP 2 ?_;refine GC.ret (BR 2 3 [] [] ?_)
  exact zq33_
 intro h1;try simp only[D6] at h1
 refine GC.skip (?_:GC _ _ _ _)
 refine AP 3 ?_;refine GC.ret (BR 2 3 [] [] ?_)
 exact zq33_
theorem lrow_nil:Ct Tryz.prog 145 [.slice none 0 0] [] [] (λu G Q=>u=.bool true/\G=[]/\Q=[]) :=
 Ct.free (q:=D7.row JV none []) (Ct.mono (lrow_ct none [] 0 (by simp) (by simp)) λu G Q h=>⟨h.1.trans (congrArg Value.bool (decide_eq_true (λk hk=>by simp at hk))),h.2⟩) (λ_ _=>.inl rfl)
theorem mO(s:I4):((if Gj s then (0:Int) else 72)=0)=Gj s:=by split<;>simp_all
theorem zq34_{X:Prop}(h:X:=by(first|exact⟨by rw[if_pos (show Gj s by assumption)];rfl,rfl,rfl⟩|exact⟨by rw[if_neg (show ¬Gj s by assumption)];rfl,rfl,rfl⟩)):X:=h
theorem lchk_ct(s:I4)(A:Option Addr)(cp:Nat)(B:Option Addr)(cq:Nat)(C:Option Addr)(cr:Nat)(hs:IU s):Ct Tryz.prog 90 [.agg #[.int .i64 s.num,.int .i64 s.Jo.bl,.int .i64 s.Jo.sz,.slice A s.pages.length cp,.slice B s.rows.length cq,.int .i64 s.grp.epoch,.slice C s.grp.members.length cr,.slice none 0 0]] [] (NW s A B C) (λu G Q=>u=.int .i64 (if Gj s then 0 else 150)/\G=[]/\Q=[]):=by
 refine Ct.intro Tryz.func90 rfl rfl rfl (λc hc=>?_)
 refine AX ?_;refine GL.step rfl (Ee rfl rfl rfl) (Aa λIJ=>?_);refine AL 1 ?_;refine AV 1 ?_;refine Az 0 7 ?_;refine Ah Tryz.call144 [] [0,1,2] rfl rfl rfl (by exact mload_ct s _ _ _ _ _ _ hs) ?_
 rintro _ _ _ ⟨x8,rfl,rfl,rfl⟩
 refine AL 5 ?_;refine AB ?_;refine AV 3 ?_;refine Ak 13 ?_ ?_
 ·intro h1;try simp only[D6,mO] at h1
  refine AL 14 ?_;refine AU rfl ?_;refine AP 1 ?_;refine GC.ret (AQ 2 [] [] ?_)
  exact zq34_
 intro h1;try simp only[D6,mO] at h1
 refine AA 1 ?_;refine Aj 0 ?_;refine Au rfl (s:=13) rfl rfl (EI rfl Tryz.call145 rfl (is:=[]) (js:=[]) rfl rfl (by exact lrow_nil)) (GL.ret ?_)
 rintro _ _ _ ⟨rfl,rfl,rfl⟩
 refine AA 5 ?_;refine Aj 0 ?_;refine AA 1 ?_;refine Aj 0 ?_;refine Au rfl (s:=19) rfl rfl (EI rfl Tryz.call146 rfl (is:=[]) (js:=[]) rfl rfl (by exact qc _ _ _)) (GL.ret ?_)
 rintro _ _ _ ⟨rfl,rfl,rfl⟩
 refine AL 2 ?_;refine AY rfl ?_
 refine GC.skip (?_:GC _ _ _ _)
 refine AP 1 ?_;refine GC.ret (AQ 2 [] [] ?_)
 exact zq34_
theorem Fg(s:I4):((if Gj s then (0:Int) else 150)=0)=Gj s:=by split<;>simp_all
def Jr(a b c d:Bool):Int:=(if a=true then 1 else 0)+(if b=true then 2 else 0)+(if c=true then 4 else 0)+(if d=true then 8 else 0)
theorem or_b1:IntKind.u8.wrap ((BitVec.ofInt IntKind.u8.bits 0 ||| BitVec.ofInt IntKind.u8.bits 1).toNat:Int)=Jr true false false false:=by decide
theorem or_b2(a:Bool):IntKind.u8.wrap ((BitVec.ofInt IntKind.u8.bits (Jr a false false false) ||| BitVec.ofInt IntKind.u8.bits 2).toNat:Int)=Jr a true false false:=by cases a<;>decide
theorem or_b4(a b:Bool):IntKind.u8.wrap ((BitVec.ofInt IntKind.u8.bits (Jr a b false false) ||| BitVec.ofInt IntKind.u8.bits 4).toNat:Int)=Jr a b true false:=by cases a<;>cases b<;>decide
theorem or_b8(a b c:Bool):IntKind.u8.wrap ((BitVec.ofInt IntKind.u8.bits (Jr a b c false) ||| BitVec.ofInt IntKind.u8.bits 8).toNat:Int)=Jr a b c true:=by cases a<;>cases b<;>cases c<;>decide
def bi(a:Bool)(n:Int):Int:=if a=true then n else 0
theorem Y_(a:Bool)(n:Int)(h:n≠0):(bi a n=0)=(a=false):=by cases a<;>simp[bi,h]
theorem MJ(a:Bool):(bi a 1=0)=(a=false):=Y_ a 1 (by decide)
theorem MI(a:Bool):(bi a 2=0)=(a=false):=Y_ a 2 (by decide)
theorem MH(a:Bool):(bi a 4=0)=(a=false):=Y_ a 4 (by decide)
theorem MG(a:Bool):(bi a 8=0)=(a=false):=Y_ a 8 (by decide)
theorem jL(a b c d:Bool):IntKind.u8.wrap ((BitVec.ofInt IntKind.u8.bits (Jr a b c d) &&& BitVec.ofInt IntKind.u8.bits 1).toNat:Int)=bi a 1:=by revert a b c d;decide
theorem ZC(a b c d:Bool):IntKind.u8.wrap ((BitVec.ofInt IntKind.u8.bits (Jr a b c d) &&& BitVec.ofInt IntKind.u8.bits 2).toNat:Int)=bi b 2:=by revert a b c d;decide
theorem UA(a b c d:Bool):IntKind.u8.wrap ((BitVec.ofInt IntKind.u8.bits (Jr a b c d) &&& BitVec.ofInt IntKind.u8.bits 4).toNat:Int)=bi c 4:=by revert a b c d;decide
theorem jK(a b c d:Bool):IntKind.u8.wrap ((BitVec.ofInt IntKind.u8.bits (Jr a b c d) &&& BitVec.ofInt IntKind.u8.bits 8).toNat:Int)=bi d 8:=by revert a b c d;decide
def IL(m:GZ):Int:=Jr (decide (¬m.op=Iw)) (decide (¬m.res=rz)) (decide (¬m.grp=Le)) (decide (¬m.stt=PI))
theorem rz_iff(r:J4):(r=rz)↔(r.code=0/\(r.data.length:Int)<=0):=by
 rw[TB];simp only[rz]
 constructor
 ·rintro⟨h1,h2⟩;rw[h2];exact⟨h1,by simp⟩
 ·rintro⟨h1,h2⟩;exact⟨h1,List.length_eq_zero_iff.1 (by omega)⟩
theorem jh(r:Ld):(r=Le)↔(r.epoch=0/\(r.members.length:Int)<=0):=by
 rw[Oo];simp only[Le]
 constructor
 ·rintro⟨h1,h2⟩;rw[h2];exact⟨h1,by simp⟩
 ·rintro⟨h1,h2⟩;exact⟨h1,List.length_eq_zero_iff.1 (by omega)⟩
theorem zq35_{X:Prop}(h:X:=by(exact λa w h=>⟨(()),trivial,by rw[decide_eq_true (show ¬m.op=Iw by simp_all)];exact h.ct [0] (up 0 8)⟩)):X:=h
theorem zq36_{X:Prop}(h:X:=by(exact λa w h=>⟨(()),trivial,by rw[decide_eq_false (show ¬¬m.op=Iw by simp_all)];exact h.ct [0] (up 0 8)⟩)):X:=h
theorem zq37_{X:Prop}(h:X:=by(exact λa w h=>⟨(()),trivial,by rw[decide_eq_true (show ¬m.res=rz by rw[rz_iff];omega)];exact h.ct [0] (up 0 8)⟩)):X:=h
theorem zq38_{X:Prop}(h:X:=by(exact λa w h=>⟨(()),trivial,by rw[decide_eq_true (show ¬m.grp=Le by rw[jh];omega)];exact h.ct [0] (up 0 8)⟩)):X:=h
theorem zq39_{X:Prop}(h:X:=by(exact λa w h=>⟨(()),trivial,by rw[IL,decide_eq_true (show ¬m.stt=PI by simp_all)];exact h.ct [0] (up 0 8)⟩)):X:=h
theorem zq40_{X:Prop}(h:X:=by(exact λa w h=>⟨(()),trivial,by rw[IL,decide_eq_false (show ¬¬m.stt=PI by simp_all)];exact h.ct [0] (up 0 8)⟩)):X:=h
theorem Zz(m:GZ)(s:Lie)(hm:FT m):Ct Tryz.prog 61 [Ip m s] [] (H9 m s) (λu G Q=>u=.int .u8 (IL m)/\G=[]/\Q=[]):=by
 refine Ct.intro Tryz.func61 rfl rfl rfl (λc hc=>?_)
 refine AX ?_;refine GL.step rfl (Ee rfl rfl rfl) (Aa λIJ=>?_);refine AL 1 ?_;refine AP 1 ?_;refine Bh (ks:=[1,2]) (is:=[0]) (js:=(up 0 8)) (fun(u_:Unit)=>True) (fun(u_:Unit)=>[(3,.int .u8 (Jr (decide (¬m.op=Iw)) false false false))]) (fun(u_:Unit)=>[]) (fun(u_:Unit)=>[]) rfl rfl rfl ?_ ?_
 ·refine AV 1 ?_;refine Az 0 5 ?_;refine AO rfl (ED Hy KO rfl rfl) ?_;refine Ah Tryz.call92 [] [0,1] rfl rfl rfl (by exact dD m.op _ _ _ _) ?_
  rintro _ _ _ ⟨rfl,rfl,rfl⟩
  refine AL 1 ?_;refine Af ?_ ?_
  ·intro h1;try simp only[D6] at h1
   refine GC.region ?_;refine AA 1 ?_;refine AO rfl (Vq rfl rfl or_b1) ?_;refine AA 1 ?_;refine Ac ?_
   exact zq35_
  intro h1;try simp only[D6] at h1
  refine GC.skip ?_
  exact zq36_
 intro u_ hj2
 try dsimp only[List.cons_append,List.nil_append] at hj2 ⊢
 refine Bh (ks:=[1,2]) (is:=[0]) (js:=(up 0 8)) (fun(u_:Unit)=>True) (fun(u_:Unit)=>[(3,.int .u8 (Jr (decide (¬m.op=Iw)) (decide (¬m.res=rz)) false false))]) (fun(u_:Unit)=>[]) (fun(u_:Unit)=>[]) rfl rfl rfl ?_ ?_
 ·refine AV 2 ?_;refine Ad 0 ?_;refine AA 2 ?_;refine Ak 15 ?_ ?_
  ·intro h2;try simp only[D6] at h2
   refine AL 6 ?_;refine AU rfl ?_;refine GC.region ?_;refine AA 1 ?_;refine AO rfl (Vq rfl rfl (or_b2 _)) ?_;refine AA 1 ?_;refine Ac ?_
   exact zq37_
  intro h2;try simp only[D6] at h2
  refine AA 2 ?_;refine Aj 0 ?_;refine AL 3 ?_;refine Af ?_ ?_
  ·intro h3;try simp only[D6] at h3
   refine GC.region ?_;refine AA 1 ?_;refine AO rfl (Vq rfl rfl (or_b2 _)) ?_;refine AA 1 ?_;refine Ac ?_
   exact zq37_
  intro h3;try simp only[D6] at h3
  refine GC.skip ?_
  exact λa w h=>⟨(()),trivial,by rw[decide_eq_false (show ¬¬m.res=rz by rw[rz_iff];omega)];exact h.ct [0] (up 0 8)⟩
 intro u_ hj4
 try dsimp only[List.cons_append,List.nil_append] at hj4 ⊢
 refine Bh (ks:=[1,2]) (is:=[0]) (js:=(up 0 8)) (fun(u_:Unit)=>True) (fun(u_:Unit)=>[(3,.int .u8 (Jr (decide (¬m.op=Iw)) (decide (¬m.res=rz)) (decide (¬m.grp=Le)) false))]) (fun(u_:Unit)=>[]) (fun(u_:Unit)=>[]) rfl rfl rfl ?_ ?_
 ·refine AV 2 ?_;refine Ad 0 ?_;refine AA 2 ?_;refine Ak 28 ?_ ?_
  ·intro h4;try simp only[D6] at h4
   refine AL 6 ?_;refine AU rfl ?_;refine GC.region ?_;refine AA 1 ?_;refine AO rfl (Vq rfl rfl (or_b4 _ _)) ?_;refine AA 1 ?_;refine Ac ?_
   exact zq38_
  intro h4;try simp only[D6] at h4
  refine AA 2 ?_;refine Aj 0 ?_;refine AL 3 ?_;refine Af ?_ ?_
  ·intro h5;try simp only[D6] at h5
   refine GC.region ?_;refine AA 1 ?_;refine AO rfl (Vq rfl rfl (or_b4 _ _)) ?_;refine AA 1 ?_;refine Ac ?_
   exact zq38_
  intro h5;try simp only[D6] at h5
  refine GC.skip ?_
  exact λa w h=>⟨(()),trivial,by rw[decide_eq_false (show ¬¬m.grp=Le by rw[jh];omega)];exact h.ct [0] (up 0 8)⟩
 intro u_ hj6
 try dsimp only[List.cons_append,List.nil_append] at hj6 ⊢
 refine Bh (ks:=[2]) (is:=[0]) (js:=(up 0 8)) (fun(u_:Unit)=>True) (fun(u_:Unit)=>[(3,.int .u8 (IL m))]) (fun(u_:Unit)=>[]) (fun(u_:Unit)=>[]) rfl rfl rfl ?_ ?_
 ·refine AV 1 ?_;refine Az 0 7 ?_;refine AO rfl (ED I5 Nq rfl rfl) ?_;refine Ah Tryz.call93 [] [4,5,6] rfl rfl rfl (by exact mzst_ct m.stt _ _ _ _ _ _ (by have:=hm.s.p;omega) (by have:=hm.s.r;omega) (by have:=hm.s.m;omega)) ?_
  rintro _ _ _ ⟨rfl,rfl,rfl⟩
  refine AL 1 ?_;refine Af ?_ ?_
  ·intro h6;try simp only[D6] at h6
   refine GC.region ?_;refine AA 1 ?_;refine AO rfl (Vq rfl rfl (or_b8 _ _ _)) ?_;refine AA 1 ?_;refine Ac ?_
   exact zq39_
  intro h6;try simp only[D6] at h6
  refine GC.skip ?_
  exact zq40_
 intro u_ tJ
 try dsimp only[List.cons_append,List.nil_append] at tJ ⊢
 refine AP 2 ?_;refine GC.ret (AQ 2 [] [] ?_)
 exact⟨rfl,rfl,rfl⟩
def pOp(m:GZ):Prop:=m.op=Iw\/Jp m.op
def Yb(m:GZ):Prop:=m.res=rz\/Ic m.res.code m.res.data.length=true
def Yc(m:GZ):Prop:=m.grp=Le\/FP m.grp.epoch m.grp.members=true
def XO(m:GZ):Prop:=m.stt=PI\/Gj m.stt
theorem VA{X:Prop}(h:X:=by(exact⟨congrArg Value.bool (decide_eq_false λH=>by obtain⟨⟨g1,g2,g3,g4⟩,_⟩:=H;simp only[Jp] at g1;simp_all).symm,rfl,rfl⟩)):X:=h
theorem UE{X:Prop}(h:X:=by(exact λa w h=>⟨(()),(by simp only[pOp,Yb,Yc,Jp];simp_all),h.ct [0] (up 0 8)⟩)):X:=h
theorem oO(m:GZ)(s:Lie)(hm:FT m):Ct Tryz.prog 60 [Ip m s] [] (H9 m s) (λu G Q=>u=.bool (decide (QV m/\Oi m.log))/\G=[]/\Q=[]):=by
 refine Ct.intro Tryz.func60 rfl rfl rfl (λc hc=>?_)
 refine AX ?_;refine GL.step rfl (Ee rfl rfl rfl) (Aa λIJ=>?_);refine AL 1 ?_;refine AX ?_;refine Az 0 28 ?_;refine Ah Tryz.call61 [] (up 0 8) rfl rfl rfl (by exact Zz m s hm) ?_
 rintro _ _ _ ⟨rfl,rfl,rfl⟩
 refine AL 1 ?_;refine Bh (ks:=[1,3]) (is:=[0]) (js:=(up 0 8)) (fun(u_:Unit)=>pOp m/\Yb m/\Yc m) (fun(u_:Unit)=>[]) (fun(u_:Unit)=>[]) (fun(u_:Unit)=>[]) rfl rfl rfl ?_ ?_
 ·refine AV 1 ?_;refine AO rfl (Js rfl rfl (jL _ _ _ _)) ?_;refine AA 2 ?_;refine Ak 9 ?_ ?_
  ·intro h1;try simp only[D6,MJ,MI,MH,MG,D8,EJ,D9,Fg] at h1
   refine AA 1 ?_;refine BX 0 5 ?_;refine Au rfl (s:=9) rfl rfl (EI rfl Tryz.call87 rfl (is:=[]) (js:=[]) rfl rfl (by exact Oq m.op.kind m.op.at_ m.op.n _ m.op.data.length _ _ m.op.old.length _)) (GL.ret ?_)
   rintro _ _ _ ⟨rfl,rfl,rfl⟩
   refine AA 3 ?_;refine Ak 15 ?_ ?_
   ·intro h2;try simp only[D6,MJ,MI,MH,MG,D8,EJ,D9,Fg] at h2
    refine AA 4 ?_
    iterate 4 refine Dl (s:=19) rfl rfl rfl ?_
    refine AA 7 ?_
    iterate 4 refine Dl (s:=30) rfl rfl rfl ?_
    refine AL 2 ?_;refine AU rfl ?_;refine AP 1 ?_;refine GC.ret (AQ 2 [] [] ?_)
    exact VA
   intro h2;try simp only[D6,MJ,MI,MH,MG,D8,EJ,D9,Fg] at h2
   refine AA 1 ?_;refine Ba (s:=15) rfl rfl rfl (Js rfl rfl (ZC _ _ _ _)) ?_;refine AA 2 ?_;refine Ak 19 ?_ ?_
   ·intro h3;try simp only[D6,MJ,MI,MH,MG,D8,EJ,D9,Fg] at h3
    refine AA 1 ?_;refine BX 0 2 ?_;refine Au rfl (s:=19) rfl rfl (EI rfl Tryz.call88 rfl (is:=[]) (js:=[]) rfl rfl (by exact SV m.res.code _ m.res.data.length _)) (GL.ret ?_)
    rintro _ _ _ ⟨rfl,rfl,rfl⟩
    refine AA 4 ?_;refine Ak 26 ?_ ?_
    ·intro h4;try simp only[D6,MJ,MI,MH,MG,D8,EJ,D9,Fg] at h4
     refine AA 4 ?_
     iterate 4 refine Dl (s:=30) rfl rfl rfl ?_
     refine AL 2 ?_;refine AU rfl ?_;refine AP 1 ?_;refine GC.ret (AQ 2 [] [] ?_)
     exact VA
    intro h4;try simp only[D6,MJ,MI,MH,MG,D8,EJ,D9,Fg] at h4
    refine AA 1 ?_;refine Ba (s:=26) rfl rfl rfl (Js rfl rfl (UA _ _ _ _)) ?_;refine AA 2 ?_;refine Ak 30 ?_ ?_
    ·intro h5;try simp only[D6,MJ,MI,MH,MG,D8,EJ,D9,Fg] at h5
     refine AA 1 ?_;refine BX 0 2 ?_;refine Au rfl (s:=30) rfl rfl (EI rfl Tryz.call89 rfl (is:=[]) (js:=[3]) rfl rfl (by exact MP m.grp.epoch _ m.grp.members _ (by have:=hm.g;omega))) (GL.ret ?_)
     rintro _ _ _ ⟨rfl,rfl,rfl⟩
     refine AL 3 ?_;refine Af ?_ ?_
     ·intro h6;try simp only[D6,MJ,MI,MH,MG,D8,EJ,D9,Fg] at h6
      refine AP 1 ?_;refine GC.ret (AQ 2 [] [] ?_)
      exact VA
     intro h6;try simp only[D6,MJ,MI,MH,MG,D8,EJ,D9,Fg] at h6
     refine GC.skip ?_
     exact UE
    intro h5;try simp only[D6,MJ,MI,MH,MG,D8,EJ,D9,Fg] at h5
    refine AL 6 ?_;refine AY rfl ?_;refine GC.skip ?_
    exact UE
   intro h3;try simp only[D6,MJ,MI,MH,MG,D8,EJ,D9,Fg] at h3
   refine AA 8 ?_;refine Ba (s:=26) rfl rfl rfl (Js rfl rfl (UA _ _ _ _)) ?_;refine AA 2 ?_;refine Ak 30 ?_ ?_
   ·intro h7;try simp only[D6,MJ,MI,MH,MG,D8,EJ,D9,Fg] at h7
    refine AA 1 ?_;refine BX 0 2 ?_;refine Au rfl (s:=30) rfl rfl (EI rfl Tryz.call89 rfl (is:=[]) (js:=[3]) rfl rfl (by exact MP m.grp.epoch _ m.grp.members _ (by have:=hm.g;omega))) (GL.ret ?_)
    rintro _ _ _ ⟨rfl,rfl,rfl⟩
    refine AL 3 ?_;refine Af ?_ ?_
    ·intro h8;try simp only[D6,MJ,MI,MH,MG,D8,EJ,D9,Fg] at h8
     refine AP 1 ?_;refine GC.ret (AQ 2 [] [] ?_)
     exact VA
    intro h8;try simp only[D6,MJ,MI,MH,MG,D8,EJ,D9,Fg] at h8
    refine GC.skip ?_
    exact UE
   intro h7;try simp only[D6,MJ,MI,MH,MG,D8,EJ,D9,Fg] at h7
   refine AL 6 ?_;refine AY rfl ?_;refine GC.skip ?_
   exact UE
  intro h1;try simp only[D6,MJ,MI,MH,MG,D8,EJ,D9,Fg] at h1
  refine AA 7 ?_;refine Ba (s:=15) rfl rfl rfl (Js rfl rfl (ZC _ _ _ _)) ?_;refine AA 2 ?_;refine Ak 19 ?_ ?_
  ·intro h9;try simp only[D6,MJ,MI,MH,MG,D8,EJ,D9,Fg] at h9
   refine AA 1 ?_;refine BX 0 2 ?_;refine Au rfl (s:=19) rfl rfl (EI rfl Tryz.call88 rfl (is:=[]) (js:=[]) rfl rfl (by exact SV m.res.code _ m.res.data.length _)) (GL.ret ?_)
   rintro _ _ _ ⟨rfl,rfl,rfl⟩
   refine AA 4 ?_;refine Ak 26 ?_ ?_
   ·intro h10;try simp only[D6,MJ,MI,MH,MG,D8,EJ,D9,Fg] at h10
    refine AA 4 ?_
    iterate 4 refine Dl (s:=30) rfl rfl rfl ?_
    refine AL 2 ?_;refine AU rfl ?_;refine AP 1 ?_;refine GC.ret (AQ 2 [] [] ?_)
    exact VA
   intro h10;try simp only[D6,MJ,MI,MH,MG,D8,EJ,D9,Fg] at h10
   refine AA 1 ?_;refine Ba (s:=26) rfl rfl rfl (Js rfl rfl (UA _ _ _ _)) ?_;refine AA 2 ?_;refine Ak 30 ?_ ?_
   ·intro h11;try simp only[D6,MJ,MI,MH,MG,D8,EJ,D9,Fg] at h11
    refine AA 1 ?_;refine BX 0 2 ?_;refine Au rfl (s:=30) rfl rfl (EI rfl Tryz.call89 rfl (is:=[]) (js:=[3]) rfl rfl (by exact MP m.grp.epoch _ m.grp.members _ (by have:=hm.g;omega))) (GL.ret ?_)
    rintro _ _ _ ⟨rfl,rfl,rfl⟩
    refine AL 3 ?_;refine Af ?_ ?_
    ·intro h12;try simp only[D6,MJ,MI,MH,MG,D8,EJ,D9,Fg] at h12
     refine AP 1 ?_;refine GC.ret (AQ 2 [] [] ?_)
     exact VA
    intro h12;try simp only[D6,MJ,MI,MH,MG,D8,EJ,D9,Fg] at h12
    refine GC.skip ?_
    exact UE
   intro h11;try simp only[D6,MJ,MI,MH,MG,D8,EJ,D9,Fg] at h11
   refine AL 6 ?_;refine AY rfl ?_;refine GC.skip ?_
   exact UE
  intro h9;try simp only[D6,MJ,MI,MH,MG,D8,EJ,D9,Fg] at h9
  refine AA 8 ?_;refine Ba (s:=26) rfl rfl rfl (Js rfl rfl (UA _ _ _ _)) ?_;refine AA 2 ?_;refine Ak 30 ?_ ?_
  ·intro h13;try simp only[D6,MJ,MI,MH,MG,D8,EJ,D9,Fg] at h13
   refine AA 1 ?_;refine BX 0 2 ?_;refine Au rfl (s:=30) rfl rfl (EI rfl Tryz.call89 rfl (is:=[]) (js:=[3]) rfl rfl (by exact MP m.grp.epoch _ m.grp.members _ (by have:=hm.g;omega))) (GL.ret ?_)
   rintro _ _ _ ⟨rfl,rfl,rfl⟩
   refine AL 3 ?_;refine Af ?_ ?_
   ·intro Nb;try simp only[D6,MJ,MI,MH,MG,D8,EJ,D9,Fg] at Nb
    refine AP 1 ?_;refine GC.ret (AQ 2 [] [] ?_)
    exact VA
   intro Nb;try simp only[D6,MJ,MI,MH,MG,D8,EJ,D9,Fg] at Nb
   refine GC.skip ?_
   exact UE
  intro h13;try simp only[D6,MJ,MI,MH,MG,D8,EJ,D9,Fg] at h13
  refine AL 6 ?_;refine AY rfl ?_;refine GC.skip ?_
  exact UE
 intro u_ hj2
 try dsimp only[List.cons_append,List.nil_append] at hj2 ⊢
 refine Bh (ks:=[1]) (is:=[0]) (js:=(up 0 8)) (fun(u_:Unit)=>XO m) (fun(u_:Unit)=>[]) (fun(u_:Unit)=>[]) (fun(u_:Unit)=>[]) rfl rfl rfl ?_ ?_
 ·refine AV 1 ?_;refine AO rfl (Js rfl rfl (jK _ _ _ _)) ?_;refine AA 2 ?_;refine Ak 40 ?_ ?_
  ·intro h15;try simp only[D6,MJ,MI,MH,MG,D8,EJ,D9,Fg] at h15
   refine AA 1 ?_;refine BX 0 7 ?_;refine Ba (s:=40) rfl rfl rfl (ED ze_178 of_178 rfl rfl) ?_;refine Au rfl (s:=40) rfl rfl (EI rfl Tryz.call90 rfl (is:=[]) (js:=[4,5,6]) rfl rfl (by exact lchk_ct m.stt _ _ _ _ _ _ hm.s)) (GL.ret ?_)
   rintro _ _ _ ⟨rfl,rfl,rfl⟩
   refine AL 2 ?_;refine Af ?_ ?_
   ·intro h16;try simp only[D6,MJ,MI,MH,MG,D8,EJ,D9,Fg] at h16
    refine AP 1 ?_;refine GC.ret (AQ 2 [] [] ?_)
    exact⟨congrArg Value.bool (decide_eq_false λH=>by obtain⟨⟨g1,g2,g3,g4⟩,_⟩:=H;simp_all).symm,rfl,rfl⟩
   intro h16;try simp only[D6,MJ,MI,MH,MG,D8,EJ,D9,Fg] at h16
   refine GC.skip ?_
   exact λa w h=>⟨(()),(by simp only[XO];simp_all),h.ct [0] (up 0 8)⟩
  intro h15;try simp only[D6,MJ,MI,MH,MG,D8,EJ,D9,Fg] at h15
  refine AL 6 ?_;refine AY rfl ?_;refine GC.skip ?_
  exact λa w h=>⟨(()),(by simp only[XO];simp_all),h.ct [0] (up 0 8)⟩
 intro u_ hj4
 try dsimp only[List.cons_append,List.nil_append] at hj4 ⊢
 refine AV 1 ?_;refine Ad 0 ?_;refine Ah Tryz.call91 [] [7] rfl rfl rfl (by exact wrow_ct _ m.log _ (by have:=hm.l;omega) hm.e) ?_
 rintro _ _ _ ⟨rfl,rfl,rfl⟩
 refine AL 1 ?_;refine GC.ret (AQ 2 [] [] ?_)
 exact⟨congrArg Value.bool (decide_eq_decide.2 ⟨λg=>⟨⟨hj2.1,hj2.2.1,hj2.2.2,hj4⟩,g⟩,λg=>g.2⟩),rfl,rfl⟩
theorem iidx_ct(A:Option Addr)(l:List Int)(cp:Nat)(hl:l.length<=140737488355328):Ct Tryz.prog 86 [.slice A l.length cp,.func (.func 58) #[] #[]] [] [D7.row kI A l]
    (λu G Q=>∃i:Int,(0<=i↔¬∀x∈l,JD x)/\u=.int .i64 i/\G=[]/\Q=[]):=by
 refine Ct.intro Tryz.func86 rfl rfl rfl (λc hc=>?_)
 refine AP 1 ?_;refine AB ?_;refine AP 3 ?_;refine GC.block ?_;refine Bd (ks:=[0,1,7]) (is:=[]) (js:=[0]) (fun(k:Nat)=>k<=l.length/\∀j:Nat,j<k->JD (gt l (j:Int))) (fun(k:Nat)=>[(8,.int .i64 (k:Int))]) (fun(k:Nat)=>[]) (fun(k:Nat)=>[]) (fun(k:Nat)=>l.length - k) (0) rfl rfl rfl (λa w h=>⟨⟨by omega,λj hj=>by omega⟩,h.Hf (is:=[]) (js:=[0]) (ks:=[0,1,7]) ⟨rfl,trivial⟩ rfl rfl rfl⟩) ?_
 intro k hk
 try dsimp only[List.cons_append,List.nil_append] at hk ⊢
 obtain⟨hk,hall⟩:=hk
 refine AP 1 ?_;refine AB ?_;refine Af ?_ ?_
 ·intro h1;try simp only[D6] at h1
  refine GC.skip (?_:GC _ _ _ _)
  refine AB ?_;refine GC.block ?_;refine AP 2 ?_;refine AV 3 ?_;refine GL.step rfl (Ej (i:=0) rfl rfl rfl rfl Tryz.underlying53 GV (by omega) (EW (by omega) (by omega))) (Aa λp_x14=>Aa λVk=>GL.and λgV=>?_)
  rcases Vk with _
  refine GL.step rfl (Ed rfl (ES (i:=0) rfl rfl Ei rfl)) ?_;refine GL.step rfl (QG rfl Tryz.call58 rfl rfl (is:=[]) (js:=[]) rfl rfl (by exact chk1_ct (gt l (k:Int)))) (GL.ret ?_)
  rintro _ _ _ ⟨rfl,rfl,rfl⟩
  refine Ap ?_;refine Af ?_ ?_
  ·intro h2;try simp only[D6] at h2
   refine AP 2 ?_;refine GC.ret (AQ 4 [] [] ?_)
   exact⟨_,⟨λ_ H=>absurd (H _ (Ec (l:=l) (k:=k) (by omega))) (by assumption),λ_=>by omega⟩,rfl,rfl,rfl⟩
  intro h2;try simp only[D6] at h2
  refine GC.skip (?_:GC _ _ _ _)
  refine GC.region ?_;refine AO rfl (EU rfl rfl (Fh (by omega) (by omega))) ?_;refine AA 1 ?_;refine Ac ?_
  exact λa w h=>⟨(k+1),(by omega),⟨by omega,λj hj=>(Nat.lt_succ_iff_lt_or_eq.1 hj).elim (hall j) (λe=>by subst e;assumption)⟩,h.ct [] [1]⟩
 intro h1;try simp only[D6] at h1
 refine GC.exit (?_:GC _ _ _ _)
 refine AP 1 ?_;refine GC.ret (AQ 4 [] [] ?_)
 exact zq31_
theorem icon_ct(A:Option Addr)(l:List Int)(cp:Nat)(hl:l.length<=140737488355328):Ct Tryz.prog 57 [.slice A l.length cp,.func (.func 58) #[] #[]] [] [D7.row kI A l]
    (λu G Q=>u=.bool (decide (¬∀x∈l,JD x))/\G=[]/\Q=[]):=by
 refine Ct.intro Tryz.func57 rfl rfl rfl (λc hc=>?_)
 refine AP 1 ?_;refine AV 2 ?_;refine Ah Tryz.call86 [] [0] rfl rfl rfl (by exact iidx_ct _ l _ hl) ?_
 rintro _ _ _ ⟨i7,hi7,rfl,rfl,rfl⟩
 refine AL 2 ?_;refine GC.ret (AQ 4 [] [] ?_)
 exact⟨congrArg Value.bool (decide_eq_decide.2 hi7),rfl,rfl⟩
theorem JJ(m:GZ):(∀x∈[m.epoch,m.view,m.num,m.commit,m.normal,m.client,m.serial],JD x)↔Vy m:=by simp[Vy]
theorem OV{m:GZ}(h:IX m):aN m=0:=if_pos h
theorem QX{m:GZ}(h:¬IX m):aN m=160:=if_neg h
theorem U_{X:Prop}(h:X:=by(first|exact⟨by rw[QX (λH=>by obtain⟨g1,g2,g3,g4,g5,g6,g7⟩:=H;first|omega|contradiction|(simp_all;done))];rfl,rfl,rfl⟩|exact⟨by rw[OV ⟨by assumption,by omega,by omega,by assumption,by assumption,(by assumption:QV m/\Oi m.log).1,(by assumption:QV m/\Oi m.log).2⟩];rfl,rfl,rfl⟩)):X:=h
theorem YF(m:GZ)(s:Lie)(hm:FT m):Ct Tryz.prog 41 [Ip m s] [] (H9 m s) (λu G Q=>u=.int .i64 (aN m)/\G=[]/\Q=[]):=by
 refine Ct.intro Tryz.func41 rfl rfl rfl (λc hc=>?_)
 refine AX ?_;refine GL.step rfl (Ee rfl rfl rfl) (Aa λIJ=>?_);refine AL 1 ?_;refine AV 1 ?_;refine Ad 0 ?_;refine AA 1 ?_;refine Ad 0 ?_;refine AA 1 ?_;refine Ad 0 ?_;refine AA 1 ?_
 refine Ad 0 ?_;refine AA 1 ?_;refine Ad 0 ?_;refine AA 1 ?_;refine Ad 0 ?_;refine AA 1 ?_;refine Ad 0 ?_;refine GL.step rfl (EC rfl Tryz.underlying53 GV Ja rfl rfl rfl rfl rfl rfl) (Aa λXD=>?_)
 refine AL 1 ?_;refine AX ?_;refine GL.FD (enc:=Value.int .i64) (xs:=[m.epoch,m.view,m.num,m.commit,m.normal,m.client,m.serial]) (h1:=λ_=>rfl) (i:=0) rfl ?_;refine AA 1 ?_;refine Ah Tryz.call57 [] [0] rfl rfl rfl (by exact icon_ct _ [m.epoch,m.view,m.num,m.commit,m.normal,m.client,m.serial] _ (by simp)) ?_
 rintro _ _ _ ⟨rfl,rfl,rfl⟩
 refine AL 1 ?_;refine AB ?_;refine AV 2 ?_;refine Ak 23 ?_ ?_
 ·intro h1;try simp only[D6,JJ] at h1
  refine AL 26 ?_;refine AU rfl ?_;refine AP 1 ?_;refine GC.ret (AQ 2 [] [] ?_)
  exact U_
 intro h1;try simp only[D6,JJ] at h1
 refine AA 1 ?_;refine Aj 0 ?_;refine AA 3 ?_;refine Ak 28 ?_ ?_
 ·intro h2;try simp only[D6,JJ] at h2
  refine AL 21 ?_;refine AU rfl ?_;refine AP 1 ?_;refine GC.ret (AQ 2 [] [] ?_)
  exact U_
 intro h2;try simp only[D6,JJ] at h2
 refine AA 1 ?_;refine Aj 0 ?_;refine AA 3 ?_;refine Ak 33 ?_ ?_
 ·intro h3;try simp only[D6,JJ] at h3
  refine AL 16 ?_;refine AU rfl ?_;refine AP 1 ?_;refine GC.ret (AQ 2 [] [] ?_)
  exact U_
 intro h3;try simp only[D6,JJ] at h3
 refine AA 1 ?_;refine Aj 0 ?_;refine Au rfl (s:=33) rfl rfl (EI rfl Tryz.call59 rfl (is:=[]) (js:=[]) rfl rfl (by exact who_ct _)) (GL.ret ?_)
 rintro _ _ _ ⟨rfl,rfl,rfl⟩
 refine AA 3 ?_;refine Ak 39 ?_ ?_
 ·intro h4;try simp only[D6,JJ] at h4
  refine AL 10 ?_;refine AU rfl ?_;refine AP 1 ?_;refine GC.ret (AQ 2 [] [] ?_)
  exact U_
 intro h4;try simp only[D6,JJ] at h4
 refine AA 1 ?_;refine Aj 0 ?_;refine Au rfl (s:=39) rfl rfl (EI rfl Tryz.call59 rfl (is:=[]) (js:=[]) rfl rfl (by exact who_ct _)) (GL.ret ?_)
 rintro _ _ _ ⟨rfl,rfl,rfl⟩
 refine AA 3 ?_;refine Ak 45 ?_ ?_
 ·intro h5;try simp only[D6,JJ] at h5
  refine AL 4 ?_;refine AU rfl ?_;refine AP 1 ?_;refine GC.ret (AQ 2 [] [] ?_)
  exact U_
 intro h5;try simp only[D6,JJ] at h5
 refine BX 0 28 ?_;refine Au rfl (s:=45) rfl rfl (EI rfl Tryz.call60 rfl (is:=[]) (js:=(up 1 8)) rfl rfl (by exact oO m s hm)) (GL.ret ?_)
 rintro _ _ _ ⟨rfl,rfl,rfl⟩
 refine AL 2 ?_;refine Af ?_ ?_
 ·intro h6;try simp only[D6,JJ] at h6
  refine AP 1 ?_;refine GC.ret (AQ 2 [] [] ?_)
  exact U_
 intro h6;try simp only[D6,JJ] at h6
 refine GC.skip (?_:GC _ _ _ _)
 refine AP 1 ?_;refine GC.ret (AQ 2 [] [] ?_)
 exact U_
theorem isNum_no{n:Int}(h:n<1\/4611686018427387904<n):¬isNum n=true:=by simp[isNum];omega
theorem isNum_ok{n:Int}(h:1<=n)(h':n<=4611686018427387904):isNum n=true:=by simp[isNum];omega
theorem gt3_no{a b c:Int}{k:Nat}(hk:k<3)(h:¬isNum (gt [a,b,c] (k:Int))=true):¬(isNum a=true/\isNum b=true/\isNum c=true):=by
 rintro⟨h1,h2,h3⟩
 rcases k with _|_|_|k
 ·exact h h1
 ·exact h h2
 ·exact h h3
 ·omega
theorem WQ{a b c:Int}(h:∀j:Nat,j<3->isNum (gt [a,b,c] (j:Int))=true):isNum a=true/\isNum b=true/\isNum c=true:=⟨h 0 (by omega),h 1 (by omega),h 2 (by omega)⟩
theorem zq44_{X:Prop}(h:X:=by(exact⟨by rw[U4 (λH=>gt3_no (k:=k) (by omega) (isNum_no (by omega)) ⟨H.1.1,H.1.2.1,H.1.2.2.1⟩)];rfl,rfl,rfl⟩)):X:=h
theorem zq45_{X:Prop}(h:X:=by(exact⟨by rw[U4 (λH=>by have:=H.1.2.2.2.1;have:=H.1.2.2.2.2;omega)];rfl,rfl,rfl⟩)):X:=h
theorem jZ{X:Prop}(h:X:=by(exact⟨by rw[Wp ⟨⟨g.1,g.2.1,g.2.2,by omega,by omega⟩,.inr ⟨by assumption,by assumption,by assumption,by omega⟩⟩];rfl,rfl,rfl⟩)):X:=h
theorem Lr{X:Prop}(h:X:=by(exact⟨by rw[U4 (λH=>by rcases H.2 with⟨g1,g2,g3,g4⟩|⟨g1,g2,g3,g4⟩<;>first|omega|contradiction)];rfl,rfl,rfl⟩)):X:=h
theorem Ut(e:Entry)(A:Option Addr)(cp:Nat)(B:Option Addr)(cq:Nat)(C:Option Addr)(cr:Nat)(he_:Lp e):Ct Tryz.prog 172 [Wj e A cp B cq C cr] [] (Wn e A B C) (λu G Q=>u=.int .i64 (Oy e)/\G=[]/\Q=[]):=by
 obtain⟨hd_,ho_,hm_⟩:=he_
 refine Ct.intro Tryz.func172 rfl rfl rfl (λc hc=>?_)
 refine AX ?_;refine GL.step rfl (Ee rfl rfl rfl) (Aa λIJ=>?_);refine AL 1 ?_;refine AB ?_;refine AV 1 ?_;refine Ad 0 ?_;refine AA 1 ?_;refine Ad 0 ?_;refine AA 1 ?_;refine Ad 0 ?_
 refine GL.step rfl (EC rfl Tryz.underlying53 GV Ja rfl rfl rfl rfl rfl rfl) (Aa λn_=>?_);refine GL.FD (enc:=Value.int .i64) (xs:=[e.num,e.client,e.serial]) (h1:=λ_=>rfl) (i:=0) rfl ?_
 refine AL 2 ?_;refine GC.block ?_;refine Bd (ks:=[1,11,12]) (is:=[0]) (js:=[0,1,2,3]) (fun(k:Nat)=>k<=3/\∀j:Nat,j<k->isNum (gt [e.num,e.client,e.serial] (j:Int))=true) (fun(k:Nat)=>[(13,.int .i64 (k:Int))]) (fun(k:Nat)=>[]) (fun(k:Nat)=>[]) (fun(k:Nat)=>3 - k) (0) rfl rfl rfl (λa w h=>⟨⟨by omega,λj hj=>by omega⟩,h.Hf (is:=[0]) (js:=[0,1,2,3]) (ks:=[1,11,12]) ⟨rfl,trivial⟩ rfl rfl rfl⟩) ?_
 intro k hk
 try dsimp only[List.cons_append,List.nil_append] at hk ⊢
 obtain⟨hk,hall⟩:=hk
 refine AP 1 ?_;refine AB ?_;refine Af ?_ ?_
 ·intro h1;try simp only[D6,D8,D9,List.length_cons,List.length_nil] at h1
  refine GC.skip (?_:GC _ _ _ _)
  refine AB ?_;refine GC.block ?_;refine AX ?_;refine GL.step rfl (Ej (i:=0) rfl rfl rfl rfl Tryz.underlying53 GV (by omega) (EW (by omega) (by omega))) (Aa λp_x15=>Aa λVj=>GL.and λgU=>?_)
  rcases Vj with _
  refine GL.step rfl (Ed rfl (ES (i:=0) rfl rfl Ei rfl)) ?_;refine AL 1 ?_;refine AV 3 ?_;refine Ak 19 ?_ ?_
  ·intro h2;try simp only[D6,D8,D9,List.length_cons,List.length_nil] at h2
   refine AL 3 ?_;refine AU rfl ?_;refine AP 1 ?_;refine GC.ret (AQ 2 [] [] ?_)
   exact zq44_
  intro h2;try simp only[D6,D8,D9,List.length_cons,List.length_nil] at h2
  refine AL 3 ?_;refine Af ?_ ?_
  ·intro h3;try simp only[D6,D8,D9,List.length_cons,List.length_nil] at h3
   refine AP 1 ?_;refine GC.ret (AQ 2 [] [] ?_)
   exact zq44_
  intro h3;try simp only[D6,D8,D9,List.length_cons,List.length_nil] at h3
  refine GC.skip (?_:GC _ _ _ _)
  refine GC.region ?_;refine AO rfl (EU rfl rfl (Fh (by omega) (by omega))) ?_;refine AA 1 ?_;refine Ac ?_
  exact λa w h=>⟨(k+1),(by omega),⟨by omega,λj hj=>(Nat.lt_succ_iff_lt_or_eq.1 hj).elim (hall j) (λe=>by subst e;exact isNum_ok (by assumption) (by assumption))⟩,h.ct [0] [1,2,3,4]⟩
 intro h1;try simp only[D6,D8,D9,List.length_cons,List.length_nil] at h1
 refine GC.exit (?_:GC _ _ _ _)
 refine AB ?_;refine AV 1 ?_;refine Ad 0 ?_;refine AA 2 ?_;refine Ak 27 ?_ ?_
 ·intro h4;try simp only[D6,D8,D9,List.length_cons,List.length_nil] at h4
  refine AL 4 ?_;refine AU rfl ?_;refine AP 1 ?_;refine GC.ret (AQ 2 [] [] ?_)
  exact zq45_
 intro h4;try simp only[D6,D8,D9,List.length_cons,List.length_nil] at h4
 refine AA 1 ?_;refine Aj 0 ?_;refine AL 2 ?_;refine Af ?_ ?_
 ·intro h5;try simp only[D6,D8,D9,List.length_cons,List.length_nil] at h5
  refine AP 1 ?_;refine GC.ret (AQ 2 [] [] ?_)
  exact zq45_
 intro h5;try simp only[D6,D8,D9,List.length_cons,List.length_nil] at h5
 refine GC.skip (?_:GC _ _ _ _)
 refine AB ?_;refine GC.block ?_;refine AV 1 ?_;refine Ad 0 ?_;refine AA 2 ?_;refine Ak 36 ?_ ?_
 ·intro h6;try simp only[D6,D8,D9,List.length_cons,List.length_nil] at h6
  refine AA 1 ?_;refine BX 0 5 ?_;refine Au rfl (s:=36) rfl rfl (EI rfl Tryz.call118 rfl (is:=[]) (js:=[]) rfl rfl (by exact SC e.op.kind e.op.at_ e.op.n _ e.op.data.length _ _ e.op.old.length _ (by omega) (by omega))) (GL.ret ?_)
  rintro _ _ _ ⟨rfl,rfl,rfl⟩
  refine AA 3 ?_;refine Ak 42 ?_ ?_
  ·intro h7;try simp only[D6,D8,D9,List.length_cons,List.length_nil] at h7
   refine AA 2 ?_;refine Aj 0 ?_;refine AA 3 ?_;refine Ak 48 ?_ ?_
   ·intro h8;try simp only[D6,D8,D9,List.length_cons,List.length_nil] at h8
    refine AA 2 ?_;refine Aj 0 ?_;refine AL 4 ?_;refine Af ?_ ?_
    ·intro h9;try simp only[D6,D8,D9,List.length_cons,List.length_nil] at h9
     refine AP 1 ?_;refine GC.ret (AQ 2 [] [] ?_)
     obtain rfl:k=3:=by omega
     have g:=WQ hall
     exact⟨by rw[Wp ⟨⟨g.1,g.2.1,g.2.2,by omega,by omega⟩,.inl ⟨by assumption,by assumption,by assumption,by omega⟩⟩];rfl,rfl,rfl⟩
    intro h9;try simp only[D6,D8,D9,List.length_cons,List.length_nil] at h9
    refine AV 1 ?_;refine Ad 0 ?_;refine AA 2 ?_;refine Ak 59 ?_ ?_
    ·intro h10;try simp only[D6,D8,D9,List.length_cons,List.length_nil] at h10
     refine AA 1 ?_;refine BX 0 5 ?_;refine Au rfl (s:=59) rfl rfl (EI rfl Tryz.call208 rfl (is:=[]) (js:=[1,2]) rfl rfl (by exact SY e.op _ _ _ _)) (GL.ret ?_)
     rintro _ _ _ ⟨rfl,rfl,rfl⟩
     refine AA 2 ?_;refine Ak 64 ?_ ?_
     ·intro h11;try simp only[D6,D8,D9,List.length_cons,List.length_nil] at h11
      refine AA 1 ?_;refine BX 0 2 ?_;refine Au rfl (s:=64) rfl rfl (EI rfl Tryz.call122 rfl (is:=[]) (js:=[3]) rfl rfl (by exact MN e.grp.epoch _ e.grp.members _ (by omega))) (GL.ret ?_)
      rintro _ _ _ ⟨rfl,rfl,rfl⟩
      refine AA 3 ?_;refine Ak 70 ?_ ?_
      ·intro h12;try simp only[D6,D8,D9,List.length_cons,List.length_nil] at h12
       refine AA 1 ?_;refine Aj 0 ?_;refine AL 3 ?_;refine Af ?_ ?_
       ·intro h13;try simp only[D6,D8,D9,List.length_cons,List.length_nil] at h13
        refine AP 1 ?_;refine GC.ret (AQ 2 [] [] ?_)
        obtain rfl:k=3:=by omega
        have g:=WQ hall
        exact jZ
       intro h13;try simp only[D6,D8,D9,List.length_cons,List.length_nil] at h13
       refine GC.skip (?_:GC _ _ _ _)
       refine AP 1 ?_;refine GC.ret (AQ 2 [] [] ?_)
       exact Lr
      intro h12;try simp only[D6,D8,D9,List.length_cons,List.length_nil] at h12
      refine AL 5 ?_;refine AY rfl ?_
      refine GC.skip (?_:GC _ _ _ _)
      refine AP 1 ?_;refine GC.ret (AQ 2 [] [] ?_)
      exact Lr
     intro h11;try simp only[D6,D8,D9,List.length_cons,List.length_nil] at h11
     refine AL 11 ?_;refine AY rfl ?_
     refine GC.skip (?_:GC _ _ _ _)
     refine AP 1 ?_;refine GC.ret (AQ 2 [] [] ?_)
     exact Lr
    intro h10;try simp only[D6,D8,D9,List.length_cons,List.length_nil] at h10
    refine AL 16 ?_;refine AY rfl ?_
    refine GC.skip (?_:GC _ _ _ _)
    refine AP 1 ?_;refine GC.ret (AQ 2 [] [] ?_)
    exact Lr
   intro h8;try simp only[D6,D8,D9,List.length_cons,List.length_nil] at h8
   refine AL 7 ?_;refine AY rfl ?_;refine AV 1 ?_;refine Ad 0 ?_;refine AA 2 ?_;refine Ak 59 ?_ ?_
   ·intro Nb;try simp only[D6,D8,D9,List.length_cons,List.length_nil] at Nb
    refine AA 1 ?_;refine BX 0 5 ?_;refine Au rfl (s:=59) rfl rfl (EI rfl Tryz.call208 rfl (is:=[]) (js:=[1,2]) rfl rfl (by exact SY e.op _ _ _ _)) (GL.ret ?_)
    rintro _ _ _ ⟨rfl,rfl,rfl⟩
    refine AA 2 ?_;refine Ak 64 ?_ ?_
    ·intro h15;try simp only[D6,D8,D9,List.length_cons,List.length_nil] at h15
     refine AA 1 ?_;refine BX 0 2 ?_;refine Au rfl (s:=64) rfl rfl (EI rfl Tryz.call122 rfl (is:=[]) (js:=[3]) rfl rfl (by exact MN e.grp.epoch _ e.grp.members _ (by omega))) (GL.ret ?_)
     rintro _ _ _ ⟨rfl,rfl,rfl⟩
     refine AA 3 ?_;refine Ak 70 ?_ ?_
     ·intro h16;try simp only[D6,D8,D9,List.length_cons,List.length_nil] at h16
      refine AA 1 ?_;refine Aj 0 ?_;refine AL 3 ?_;refine Af ?_ ?_
      ·intro h17;try simp only[D6,D8,D9,List.length_cons,List.length_nil] at h17
       refine AP 1 ?_;refine GC.ret (AQ 2 [] [] ?_)
       obtain rfl:k=3:=by omega
       have g:=WQ hall
       exact jZ
      intro h17;try simp only[D6,D8,D9,List.length_cons,List.length_nil] at h17
      refine GC.skip (?_:GC _ _ _ _)
      refine AP 1 ?_;refine GC.ret (AQ 2 [] [] ?_)
      exact Lr
     intro h16;try simp only[D6,D8,D9,List.length_cons,List.length_nil] at h16
     refine AL 5 ?_;refine AY rfl ?_
     refine GC.skip (?_:GC _ _ _ _)
     refine AP 1 ?_;refine GC.ret (AQ 2 [] [] ?_)
     exact Lr
    intro h15;try simp only[D6,D8,D9,List.length_cons,List.length_nil] at h15
    refine AL 11 ?_;refine AY rfl ?_
    refine GC.skip (?_:GC _ _ _ _)
    refine AP 1 ?_;refine GC.ret (AQ 2 [] [] ?_)
    exact Lr
   intro Nb;try simp only[D6,D8,D9,List.length_cons,List.length_nil] at Nb
   refine AL 16 ?_;refine AY rfl ?_
   refine GC.skip (?_:GC _ _ _ _)
   refine AP 1 ?_;refine GC.ret (AQ 2 [] [] ?_)
   exact Lr
  intro h7;try simp only[D6,D8,D9,List.length_cons,List.length_nil] at h7
  refine AL 13 ?_;refine AY rfl ?_;refine AV 1 ?_;refine Ad 0 ?_;refine AA 2 ?_;refine Ak 59 ?_ ?_
  ·intro h18;try simp only[D6,D8,D9,List.length_cons,List.length_nil] at h18
   refine AA 1 ?_;refine BX 0 5 ?_;refine Au rfl (s:=59) rfl rfl (EI rfl Tryz.call208 rfl (is:=[]) (js:=[1,2]) rfl rfl (by exact SY e.op _ _ _ _)) (GL.ret ?_)
   rintro _ _ _ ⟨rfl,rfl,rfl⟩
   refine AA 2 ?_;refine Ak 64 ?_ ?_
   ·intro h19;try simp only[D6,D8,D9,List.length_cons,List.length_nil] at h19
    refine AA 1 ?_;refine BX 0 2 ?_;refine Au rfl (s:=64) rfl rfl (EI rfl Tryz.call122 rfl (is:=[]) (js:=[3]) rfl rfl (by exact MN e.grp.epoch _ e.grp.members _ (by omega))) (GL.ret ?_)
    rintro _ _ _ ⟨rfl,rfl,rfl⟩
    refine AA 3 ?_;refine Ak 70 ?_ ?_
    ·intro h20;try simp only[D6,D8,D9,List.length_cons,List.length_nil] at h20
     refine AA 1 ?_;refine Aj 0 ?_;refine AL 3 ?_;refine Af ?_ ?_
     ·intro h21;try simp only[D6,D8,D9,List.length_cons,List.length_nil] at h21
      refine AP 1 ?_;refine GC.ret (AQ 2 [] [] ?_)
      obtain rfl:k=3:=by omega
      have g:=WQ hall
      exact jZ
     intro h21;try simp only[D6,D8,D9,List.length_cons,List.length_nil] at h21
     refine GC.skip (?_:GC _ _ _ _)
     refine AP 1 ?_;refine GC.ret (AQ 2 [] [] ?_)
     exact Lr
    intro h20;try simp only[D6,D8,D9,List.length_cons,List.length_nil] at h20
    refine AL 5 ?_;refine AY rfl ?_
    refine GC.skip (?_:GC _ _ _ _)
    refine AP 1 ?_;refine GC.ret (AQ 2 [] [] ?_)
    exact Lr
   intro h19;try simp only[D6,D8,D9,List.length_cons,List.length_nil] at h19
   refine AL 11 ?_;refine AY rfl ?_
   refine GC.skip (?_:GC _ _ _ _)
   refine AP 1 ?_;refine GC.ret (AQ 2 [] [] ?_)
   exact Lr
  intro h18;try simp only[D6,D8,D9,List.length_cons,List.length_nil] at h18
  refine AL 16 ?_;refine AY rfl ?_
  refine GC.skip (?_:GC _ _ _ _)
  refine AP 1 ?_;refine GC.ret (AQ 2 [] [] ?_)
  exact Lr
 intro h6;try simp only[D6,D8,D9,List.length_cons,List.length_nil] at h6
 refine AL 19 ?_;refine AY rfl ?_;refine AV 1 ?_;refine Ad 0 ?_;refine AA 2 ?_;refine Ak 59 ?_ ?_
 ·intro h22;try simp only[D6,D8,D9,List.length_cons,List.length_nil] at h22
  refine AA 1 ?_;refine BX 0 5 ?_;refine Au rfl (s:=59) rfl rfl (EI rfl Tryz.call208 rfl (is:=[]) (js:=[1,2]) rfl rfl (by exact SY e.op _ _ _ _)) (GL.ret ?_)
  rintro _ _ _ ⟨rfl,rfl,rfl⟩
  refine AA 2 ?_;refine Ak 64 ?_ ?_
  ·intro h23;try simp only[D6,D8,D9,List.length_cons,List.length_nil] at h23
   refine AA 1 ?_;refine BX 0 2 ?_;refine Au rfl (s:=64) rfl rfl (EI rfl Tryz.call122 rfl (is:=[]) (js:=[3]) rfl rfl (by exact MN e.grp.epoch _ e.grp.members _ (by omega))) (GL.ret ?_)
   rintro _ _ _ ⟨rfl,rfl,rfl⟩
   refine AA 3 ?_;refine Ak 70 ?_ ?_
   ·intro h24;try simp only[D6,D8,D9,List.length_cons,List.length_nil] at h24
    refine AA 1 ?_;refine Aj 0 ?_;refine AL 3 ?_;refine Af ?_ ?_
    ·intro h25;try simp only[D6,D8,D9,List.length_cons,List.length_nil] at h25
     refine AP 1 ?_;refine GC.ret (AQ 2 [] [] ?_)
     obtain rfl:k=3:=by omega
     have g:=WQ hall
     exact jZ
    intro h25;try simp only[D6,D8,D9,List.length_cons,List.length_nil] at h25
    refine GC.skip (?_:GC _ _ _ _)
    refine AP 1 ?_;refine GC.ret (AQ 2 [] [] ?_)
    exact Lr
   intro h24;try simp only[D6,D8,D9,List.length_cons,List.length_nil] at h24
   refine AL 5 ?_;refine AY rfl ?_
   refine GC.skip (?_:GC _ _ _ _)
   refine AP 1 ?_;refine GC.ret (AQ 2 [] [] ?_)
   exact Lr
  intro h23;try simp only[D6,D8,D9,List.length_cons,List.length_nil] at h23
  refine AL 11 ?_;refine AY rfl ?_
  refine GC.skip (?_:GC _ _ _ _)
  refine AP 1 ?_;refine GC.ret (AQ 2 [] [] ?_)
  exact Lr
 intro h22;try simp only[D6,D8,D9,List.length_cons,List.length_nil] at h22
 refine AL 16 ?_;refine AY rfl ?_
 refine GC.skip (?_:GC _ _ _ _)
 refine AP 1 ?_;refine GC.ret (AQ 2 [] [] ?_)
 exact Lr
theorem rrow_ct(A:Option Addr)(l:List Entry)(cp:Nat)(hl:l.length<=140737488355328)(hm:∀e∈l,Lp e):Ct Tryz.prog 117 [.slice A l.length cp] [] [D7.row JV A l] (λu G Q=>u=.bool (decide (Oi l))/\G=[]/\Q=[]):=by
 refine Ct.intro Tryz.func117 rfl rfl rfl (λc hc=>?_)
 refine AP 1 ?_;refine AB ?_;refine AP 1 ?_;refine GC.block ?_;refine Bd (ks:=[0]) (is:=[]) (js:=[0]) (fun(k:Nat)=>k<=l.length/\∀j:Nat,j<k->Eo (gt l (j:Int))/\(0<j->(gt l (j:Int)).num - 1=(gt l ((j:Int) - 1)).num)) (fun(k:Nat)=>[(3,.int .i64 (k:Int))]) (fun(k:Nat)=>[]) (fun(k:Nat)=>[]) (fun(k:Nat)=>l.length - k) (0) rfl rfl rfl (λa w h=>⟨⟨by omega,λj hj=>by omega⟩,h.Hf (is:=[]) (js:=[0]) (ks:=[0]) ⟨rfl,trivial⟩ rfl rfl rfl⟩) ?_
 intro k hk
 try dsimp only[List.cons_append,List.nil_append] at hk ⊢
 obtain⟨hk,hall⟩:=hk
 refine AB ?_;refine AP 4 ?_;refine Af ?_ ?_
 ·intro h1;try simp only[D6,E_] at h1
  refine GC.skip (?_:GC _ _ _ _)
  refine AB ?_;refine GC.block ?_;refine AB ?_
  have hme:=hm _ (Ec (l:=l) (k:=k) (by omega))
  rcases k with _|k
  ·skip
   refine BM (y:=.tmp 3) (j:=0) rfl rfl (by first|omega|(have:=ET (show Eo (gt l ((k+1:Nat):Int)) from by assumption).1;dsimp only;omega)) (EW (by first|omega|(have:=ET (show Eo (gt l ((k+1:Nat):Int)) from by assumption).1;dsimp only;omega)) (by first|omega|(have:=ET (show Eo (gt l ((k+1:Nat):Int)) from by assumption).1;dsimp only;omega))) (λp_x12 r_x12 jA ok_x12=>?_)
   rcases r_x12 with⟨_,⟨_,⟨_,⟨_,⟨_,⟨⟨_,⟨_,⟨_,⟨⟨Ax12_0,cpx12_0⟩,⟨Ax12_1,cpx12_1⟩⟩⟩⟩⟩,⟨_,⟨Ax12_2,cpx12_2⟩⟩⟩⟩⟩⟩⟩⟩
   refine BM (y:=.tmp 3) (j:=4) rfl rfl (by first|omega|(have:=ET (show Eo (gt l ((k+1:Nat):Int)) from by assumption).1;dsimp only;omega)) (EW (by first|omega|(have:=ET (show Eo (gt l ((k+1:Nat):Int)) from by assumption).1;dsimp only;omega)) (by first|omega|(have:=ET (show Eo (gt l ((k+1:Nat):Int)) from by assumption).1;dsimp only;omega))) (λkY RZ Tj Yf=>?_)
   rcases RZ with⟨_,⟨_,⟨_,⟨_,⟨_,⟨⟨_,⟨_,⟨_,⟨⟨Ax22_0,cpx22_0⟩,⟨Ax22_1,cpx22_1⟩⟩⟩⟩⟩,⟨_,⟨Ax22_2,cpx22_2⟩⟩⟩⟩⟩⟩⟩⟩
   refine BP Ef (by kernel_rfl) ?_;refine Am 2 ?_;refine GQ.step rfl (EP (Eb jA rfl rfl Tryz.underlying62 F9 (by first|omega|(have:=ET (show Eo (gt l ((k+1:Nat):Int)) from by assumption).1;dsimp only;omega)) (by first|omega|(have:=ET (show Eo (gt l ((k+1:Nat):Int)) from by assumption).1;dsimp only;omega)))) ?_
   refine GQ.step rfl (Ea (FX (i:=4) rfl rfl Ku (vs:=[_,_,_,_,_,_,_,_,_,_,_,_]) F9 ⟨rfl,rfl,rfl,rfl,rfl,rfl,rfl,rfl,rfl,rfl,rfl,rfl,trivial⟩)) ?_;refine GQ.step rfl (JU Tryz.call172 rfl (js:=[5,6,7]) rfl (by exact Ut (gt l (_:Int)) _ _ _ _ _ _ (by assumption))) ?_
   refine Am 2 ?_;refine BJ (i:=16) rfl (λh2=>?_) (λh2=>?_)
   ·try simp only[D6,E_] at h2
    refine Am 3 ?_
    iterate 13 refine Bo (s:=19) rfl rfl rfl ?_
    refine Am 2 ?_
    refine BO (?_:GC _ _ _ _)
    refine AU rfl ?_;refine AP 1 ?_;refine GC.ret (AQ 2 [] [] ?_)
    exact RI
   try simp only[D6,E_] at h2
   refine Am 3 ?_;refine BJ (i:=19) rfl (λh3=>?_) (λh3=>?_)
   ·try simp only[D6,E_] at h3
    exfalso;omega
   try simp only[D6,E_] at h3
   refine Am 15 ?_
   refine BO (?_:GC _ _ _ _)
   refine AY rfl ?_
   refine GC.skip (?_:GC _ _ _ _)
   refine GC.region ?_;refine AA 1 ?_;refine AO rfl (EU rfl rfl (Fh (by first|omega|(have:=ET (show Eo (gt l ((k+1:Nat):Int)) from by assumption).1;dsimp only;omega)) (by first|omega|(have:=ET (show Eo (gt l ((k+1:Nat):Int)) from by assumption).1;dsimp only;omega)))) ?_
   refine AA 1 ?_;refine Ac ?_
   exact λa w h=>⟨(_+1),(by omega),⟨by omega,λj hj=>(Nat.lt_succ_iff_lt_or_eq.1 hj).elim (hall j) (λe=>by subst e;exact⟨by assumption,λ_=>by first|omega|assumption⟩)⟩,h.cut (is:=[]) (js:=[8]) ⟨rfl,rfl,trivial⟩ rfl rfl⟩
  skip
  refine Di (x:=.const (.slice A l.length cp)) (y:=.const (.int .i64 (((k+1:Nat):Int) - 1))) (j:=0) rfl rfl rfl (by first|omega|(have:=ET (show Eo (gt l ((k+1:Nat):Int)) from by assumption).1;dsimp only;omega)) (EW (by first|omega|(have:=ET (show Eo (gt l ((k+1:Nat):Int)) from by assumption).1;dsimp only;omega)) (by first|omega|(have:=ET (show Eo (gt l ((k+1:Nat):Int)) from by assumption).1;dsimp only;omega))) (λp_xp Ve P6 aC=>?_)
  rcases Ve with⟨_,⟨_,⟨_,⟨_,⟨_,⟨⟨_,⟨_,⟨_,⟨⟨oH,Y5⟩,⟨Axp_1,cpxp_1⟩⟩⟩⟩⟩,⟨_,⟨Axp_2,cpxp_2⟩⟩⟩⟩⟩⟩⟩⟩
  refine BM (y:=.tmp 3) (j:=4) rfl rfl (by first|omega|(have:=ET (show Eo (gt l ((k+1:Nat):Int)) from by assumption).1;dsimp only;omega)) (EW (by first|omega|(have:=ET (show Eo (gt l ((k+1:Nat):Int)) from by assumption).1;dsimp only;omega)) (by first|omega|(have:=ET (show Eo (gt l ((k+1:Nat):Int)) from by assumption).1;dsimp only;omega))) (λp_x12 r_x12 jA ok_x12=>?_)
  rcases r_x12 with⟨_,⟨_,⟨_,⟨_,⟨_,⟨⟨_,⟨_,⟨_,⟨⟨Ax12_0,cpx12_0⟩,⟨Ax12_1,cpx12_1⟩⟩⟩⟩⟩,⟨_,⟨Ax12_2,cpx12_2⟩⟩⟩⟩⟩⟩⟩⟩
  refine BM (y:=.tmp 3) (j:=8) rfl rfl (by first|omega|(have:=ET (show Eo (gt l ((k+1:Nat):Int)) from by assumption).1;dsimp only;omega)) (EW (by first|omega|(have:=ET (show Eo (gt l ((k+1:Nat):Int)) from by assumption).1;dsimp only;omega)) (by first|omega|(have:=ET (show Eo (gt l ((k+1:Nat):Int)) from by assumption).1;dsimp only;omega))) (λkY RZ Tj Yf=>?_)
  rcases RZ with⟨_,⟨_,⟨_,⟨_,⟨_,⟨⟨_,⟨_,⟨_,⟨⟨Ax22_0,cpx22_0⟩,⟨Ax22_1,cpx22_1⟩⟩⟩⟩⟩,⟨_,⟨Ax22_2,cpx22_2⟩⟩⟩⟩⟩⟩⟩⟩
  refine BP Ef (by kernel_rfl) ?_;refine Am 2 ?_;refine GQ.step rfl (EP (Eb jA rfl rfl Tryz.underlying62 F9 (by first|omega|(have:=ET (show Eo (gt l ((k+1:Nat):Int)) from by assumption).1;dsimp only;omega)) (by first|omega|(have:=ET (show Eo (gt l ((k+1:Nat):Int)) from by assumption).1;dsimp only;omega)))) ?_
  refine GQ.step rfl (Ea (FX (i:=4) rfl rfl Ku (vs:=[_,_,_,_,_,_,_,_,_,_,_,_]) F9 ⟨rfl,rfl,rfl,rfl,rfl,rfl,rfl,rfl,rfl,rfl,rfl,rfl,trivial⟩)) ?_;refine GQ.step rfl (JU Tryz.call172 rfl (js:=[5,6,7]) rfl (by exact Ut (gt l (_:Int)) _ _ _ _ _ _ (by assumption))) ?_
  refine Am 2 ?_;refine BJ (i:=16) rfl (λh4=>?_) (λh4=>?_)
  ·try simp only[D6,E_] at h4
   refine Am 3 ?_
   iterate 13 refine Bo (s:=19) rfl rfl rfl ?_
   refine Am 2 ?_
   refine BO (?_:GC _ _ _ _)
   refine AU rfl ?_;refine AP 1 ?_;refine GC.ret (AQ 2 [] [] ?_)
   exact RI
  try simp only[D6,E_] at h4
  refine Am 3 ?_;refine BJ (i:=19) rfl (λh5=>?_) (λh5=>?_)
  ·try simp only[D6,E_] at h5
   refine Am 2 ?_;refine Ai (s:=19) rfl rfl rfl (EP (Eb Tj rfl rfl Tryz.underlying62 F9 (by first|omega|(have:=ET (show Eo (gt l ((k+1:Nat):Int)) from by assumption).1;dsimp only;omega)) (by first|omega|(have:=ET (show Eo (gt l ((k+1:Nat):Int)) from by assumption).1;dsimp only;omega)))) ?_
   refine Ai (s:=19) rfl rfl rfl (EP (EM U2 rfl)) ?_;refine Ai (s:=19) rfl rfl rfl (Ea (ES (i:=0) rfl rfl Ei rfl)) ?_;refine Ai (s:=19) rfl rfl rfl (EP (Jv rfl rfl (Fh (by first|omega|(have:=ET (show Eo (gt l ((k+1:Nat):Int)) from by assumption).1;dsimp only;omega)) (by first|omega|(have:=ET (show Eo (gt l ((k+1:Nat):Int)) from by assumption).1;dsimp only;omega))))) ?_
   refine Am 2 ?_;refine Ai (s:=19) rfl rfl rfl (EP (Jv rfl rfl (Fh (by first|omega|(have:=ET (show Eo (gt l ((k+1:Nat):Int)) from by assumption).1;dsimp only;omega)) (by first|omega|(have:=ET (show Eo (gt l ((k+1:Nat):Int)) from by assumption).1;dsimp only;omega))))) ?_
   refine Ai (s:=19) rfl rfl rfl (EP (Eb P6 rfl rfl Tryz.underlying62 F9 (by first|omega|(have:=ET (show Eo (gt l ((k+1:Nat):Int)) from by assumption).1;dsimp only;omega)) (by first|omega|(have:=ET (show Eo (gt l ((k+1:Nat):Int)) from by assumption).1;dsimp only;omega)))) ?_
   refine Ai (s:=19) rfl rfl rfl (EP (EM U2 rfl)) ?_;refine Ai (s:=19) rfl rfl rfl (Ea (ES (i:=8) rfl rfl Ei rfl)) ?_;refine Am 3 ?_
   refine BO (?_:GC _ _ _ _)
   refine Af ?_ ?_
   ·intro h6;try simp only[D6,E_] at h6
    refine AP 1 ?_;refine GC.ret (AQ 2 [] [] ?_)
    exact RI
   intro h6;try simp only[D6,E_] at h6
   refine GC.skip (?_:GC _ _ _ _)
   refine GC.region ?_;refine AA 1 ?_;refine AO rfl (EU rfl rfl (Fh (by first|omega|(have:=ET (show Eo (gt l ((k+1:Nat):Int)) from by assumption).1;dsimp only;omega)) (by first|omega|(have:=ET (show Eo (gt l ((k+1:Nat):Int)) from by assumption).1;dsimp only;omega)))) ?_
   refine AA 1 ?_;refine Ac ?_
   exact λa w h=>⟨(_+1),(by omega),⟨by omega,λj hj=>(Nat.lt_succ_iff_lt_or_eq.1 hj).elim (hall j) (λe=>by subst e;exact⟨by assumption,λ_=>by first|omega|assumption⟩)⟩,h.cut (is:=[]) (js:=[12]) ⟨rfl,rfl,trivial⟩ rfl rfl⟩
  try simp only[D6,E_] at h5
  exfalso;omega
 intro h1;try simp only[D6,E_] at h1
 refine GC.exit (?_:GC _ _ _ _)
 refine AP 1 ?_;refine GC.ret (AQ 2 [] [] ?_)
 exact zq30_
def YJ(s:I4):Int:=if Gj s then 0 else 72
theorem Es(s:I4):(YJ s=0)=Gj s:=by unfold YJ;split<;>simp_all
theorem XY{X:Prop}(h:X:=by(exact⟨congrArg (Value.int .i64) (if_neg (λH=>by obtain⟨⟨g1,g2⟩,g3,g4,g5,g6,g7⟩:=H;first|omega|contradiction|simp_all)).symm,rfl,rfl⟩)):X:=h
theorem TA(s:I4)(A:Option Addr)(cp:Nat)(B:Option Addr)(cq:Nat)(C:Option Addr)(cr:Nat)(hs:IU s):Ct Tryz.prog 124 [Nw s A cp B cq C cr] [] (NW s A B C) (λu G Q=>u=.int .i64 (YJ s)/\G=[]/\Q=[]):=by
 obtain⟨hp_,hr_,hm_,hpd_,hrd_⟩:=hs
 refine Ct.intro Tryz.func124 rfl rfl rfl (λc hc=>?_)
 refine AX ?_;refine GL.step rfl (Ee rfl rfl rfl) (Aa λIJ=>?_);refine AL 1 ?_;refine AB ?_;refine AV 1 ?_;refine Ad 0 ?_;refine AA 2 ?_;refine Ak 7 ?_ ?_
 ·intro h1;try simp only[D6,D9,Gg] at h1
  refine AL 30 ?_;refine AU rfl ?_;refine AP 1 ?_;refine GC.ret (AQ 2 [] [] ?_)
  exact XY
 intro h1;try simp only[D6,D9,Gg] at h1
 refine AA 1 ?_;refine Aj 0 ?_;refine AA 3 ?_;refine Ak 12 ?_ ?_
 ·intro h2;try simp only[D6,D9,Gg] at h2
  refine AL 25 ?_;refine AU rfl ?_;refine AP 1 ?_;refine GC.ret (AQ 2 [] [] ?_)
  exact XY
 intro h2;try simp only[D6,D9,Gg] at h2
 refine AA 1 ?_;refine BX 0 2 ?_;refine Au rfl (s:=12) rfl rfl (EI rfl Tryz.call173 rfl (is:=[]) (js:=[]) rfl rfl (by exact oq s.Jo.bl s.Jo.sz)) (GL.ret ?_)
 rintro _ _ _ ⟨rfl,rfl,rfl⟩
 refine AA 3 ?_;refine Ak 18 ?_ ?_
 ·intro h3;try simp only[D6,D9,Gg] at h3
  refine AL 19 ?_;refine AU rfl ?_;refine AP 1 ?_;refine GC.ret (AQ 2 [] [] ?_)
  exact XY
 intro h3;try simp only[D6,D9,Gg] at h3
 refine AA 1 ?_;refine BX 0 2 ?_;refine AA 1 ?_;refine Aj 0 ?_;refine Au rfl (s:=18) rfl rfl (EI rfl Tryz.call174 rfl (is:=[]) (js:=[0]) rfl rfl (by exact rlaid_ct s.Jo.bl s.Jo.sz _ s.pages _ (by omega) (λx hx=>by have:=hpd_ x hx;omega))) (GL.ret ?_)
 rintro _ _ _ ⟨rfl,rfl,rfl⟩
 refine AA 3 ?_;refine Ak 26 ?_ ?_
 ·intro h4;try simp only[D6,D9,Gg] at h4
  refine AL 11 ?_;refine AU rfl ?_;refine AP 1 ?_;refine GC.ret (AQ 2 [] [] ?_)
  exact XY
 intro h4;try simp only[D6,D9,Gg] at h4
 refine AA 1 ?_;refine Aj 0 ?_;refine Au rfl (s:=26) rfl rfl (EI rfl Tryz.call175 rfl (is:=[]) (js:=[1]) rfl rfl (by exact right_ct _ s.rows _ (by omega))) (GL.ret ?_)
 rintro _ _ _ ⟨rfl,rfl,rfl⟩
 refine AA 3 ?_;refine Ak 32 ?_ ?_
 ·intro h5;try simp only[D6,D9,Gg] at h5
  refine AL 5 ?_;refine AU rfl ?_;refine AP 1 ?_;refine GC.ret (AQ 2 [] [] ?_)
  exact XY
 intro h5;try simp only[D6,D9,Gg] at h5
 refine AA 1 ?_;refine BX 0 2 ?_;refine Au rfl (s:=32) rfl rfl (EI rfl Tryz.call122 rfl (is:=[]) (js:=[2]) rfl rfl (by exact MN s.grp.epoch _ s.grp.members _ (by omega))) (GL.ret ?_)
 rintro _ _ _ ⟨rfl,rfl,rfl⟩
 refine AL 2 ?_;refine Af ?_ ?_
 ·intro h6;try simp only[D6,D9,Gg] at h6
  refine AP 1 ?_;refine GC.ret (AQ 2 [] [] ?_)
  exact XY
 intro h6;try simp only[D6,D9,Gg] at h6
 refine GC.skip (?_:GC _ _ _ _)
 refine AB ?_;refine AP 1 ?_;refine GC.block ?_;refine Bd (ks:=[1]) (is:=[0]) (js:=[0,1,2]) (fun(k:Nat)=>k<=s.pages.length/\∀j:Nat,j<k->(gt s.pages (j:Int)).ver<=s.num) (fun(k:Nat)=>[(3,.int .i64 (k:Int))]) (fun(k:Nat)=>[]) (fun(k:Nat)=>[]) (fun(k:Nat)=>s.pages.length - k) (0) rfl rfl rfl (λa w h=>⟨⟨by omega,λj hj=>by omega⟩,h.Hf (is:=[0]) (js:=[0,1,2]) (ks:=[1]) ⟨rfl,trivial⟩ rfl rfl rfl⟩) ?_
 intro k hk
 try dsimp only[List.cons_append,List.nil_append] at hk ⊢
 obtain⟨hk,hall⟩:=hk
 refine AB ?_;refine AV 2 ?_;refine Ad 0 ?_;refine AL 2 ?_;refine Af ?_ ?_
 ·intro h7;try simp only[D6,D9,Gg] at h7
  refine GC.skip (?_:GC _ _ _ _)
  refine AB ?_;refine GC.block ?_;refine AB ?_;refine BM (y:=.tmp 3) (j:=0) rfl rfl (by omega) (EW (by omega) (by omega)) (λp_x48 r_x48 hA_x48 ok_x48=>?_)
  rcases r_x48 with⟨_,⟨_,⟨Ax48_0,cpx48_0⟩⟩⟩
  refine BP Ef (by kernel_rfl) ?_;refine Am 1 ?_;refine GQ.step rfl (Ea (EF (i:=0) rfl rfl Qq rfl)) ?_;refine Am 1 ?_;refine GQ.step rfl (EP (Eb hA_x48 rfl rfl Tryz.underlying58 Gs (by omega) (by omega))) ?_
  refine GQ.step rfl (EP (EM SH rfl)) ?_;refine GQ.step rfl (Ea (ES (i:=0) rfl rfl Ei rfl)) ?_;refine Am 1 ?_;refine GQ.step rfl (Ea (EF (i:=0) rfl rfl Ei rfl)) ?_;refine Am 1 ?_
  refine BO (?_:GC _ _ _ _)
  refine Af ?_ ?_
  ·intro h8;try simp only[D6,D9,Gg] at h8
   refine AP 1 ?_;refine GC.ret (AQ 2 [] [] ?_)
   exact⟨congrArg (Value.int .i64) (if_neg (λH=>by have:=H.2.2.2.2.2 _ (Ec (l:=s.pages) (k:=k) (by omega));omega)).symm,rfl,rfl⟩
  intro h8;try simp only[D6,D9,Gg] at h8
  refine GC.skip (?_:GC _ _ _ _)
  refine GC.region ?_;refine AA 1 ?_;refine AO rfl (EU rfl rfl (Fh (by omega) (by omega))) ?_;refine AA 1 ?_;refine Ac ?_
  exact λa w h=>⟨(k+1),(by omega),⟨by omega,λj hj=>(Nat.lt_succ_iff_lt_or_eq.1 hj).elim (hall j) (λe=>by subst e;omega)⟩,h.ct [0] [2,3,4]⟩
 intro h7;try simp only[D6,D9,Gg] at h7
 refine GC.exit (?_:GC _ _ _ _)
 refine AP 1 ?_;refine GC.ret (AQ 2 [] [] ?_)
 exact⟨congrArg (Value.int .i64) (if_pos ⟨⟨by omega,by omega⟩,by assumption,by assumption,by assumption,by assumption,λp hp=>by obtain⟨j,hj,rfl⟩:=Yo hp;exact hall j (by omega)⟩).symm,rfl,rfl⟩
theorem Zd(s:I4)(A:Option Addr)(cp:Nat)(B:Option Addr)(cq:Nat)(C:Option Addr)(cr:Nat)(hs:IU s):Ct Tryz.prog 123 [Nw s A cp B cq C cr] [] (NW s A B C) (λu G Q=>u=.bool (decide (s=PI))/\G=[]/\Q=[]):=by
 obtain⟨hp_,hr_,hm_,hpd_,hrd_⟩:=hs
 refine Ct.intro Tryz.func123 rfl rfl rfl (λc hc=>?_)
 refine AX ?_;refine GL.step rfl (Ee rfl rfl rfl) (Aa λIJ=>?_);refine AL 1 ?_;refine AX ?_;refine Az 0 7 ?_;refine AO rfl (ED I5 Nq rfl rfl) ?_;refine Ah Tryz.call28 [] [0,1,2] rfl rfl rfl (by exact rzst_ct s _ _ _ _ _ _ (by omega) (by omega) (by omega)) ?_
 rintro _ _ _ ⟨rfl,rfl,rfl⟩
 refine AL 1 ?_;refine GC.ret (AQ 2 [] [] ?_)
 exact⟨rfl,rfl,rfl⟩
instance (m:GZ):Decidable (pOp m):=by unfold pOp;infer_instance
instance (m:GZ):Decidable (Yb m):=by unfold Yb;infer_instance
instance (m:GZ):Decidable (Yc m):=by unfold Yc;infer_instance
instance (m:GZ):Decidable (XO m):=by unfold XO;infer_instance
theorem gt7_no{a b c d e f g:Int}{k:Nat}(hk:k<7)(h:¬JD (gt [a,b,c,d,e,f,g] (k:Int))):¬(JD a/\JD b/\JD c/\JD d/\JD e/\JD f/\JD g):=by
 rintro⟨h1,h2,h3,h4,h5,h6,h7⟩
 rcases k with _|_|_|_|_|_|_|k
 ·exact h h1
 ·exact h h2
 ·exact h h3
 ·exact h h4
 ·exact h h5
 ·exact h h6
 ·exact h h7
 ·omega
theorem gt7_ok{a b c d e f g:Int}(h:∀j:Nat,j<7->JD (gt [a,b,c,d,e,f,g] (j:Int))):JD a/\JD b/\JD c/\JD d/\JD e/\JD f/\JD g:=⟨h 0 (by omega),h 1 (by omega),h 2 (by omega),h 3 (by omega),h 4 (by omega),h 5 (by omega),h 6 (by omega)⟩
theorem zq49_{X:Prop}(h:X:=by(exact⟨by rw[QX (λH=>gt7_no (k:=k) (by omega) (λg=>by have:=g.1;have:=g.2;omega) H.1)];rfl,rfl,rfl⟩)):X:=h
theorem ZJ{X:Prop}(h:X:=by(exact⟨by rw[QX (λH=>by obtain⟨g1,g2,g3,g4,g5,g6,g7⟩:=H;first|omega|contradiction)];rfl,rfl,rfl⟩)):X:=h
theorem zq51_{X:Prop}(h:X:=by(exact λa w h=>⟨(()),trivial,by rw[decide_eq_true (show pOp m by simp only[pOp,Jp];simp_all)];exact h.ct [0] (up 0 9)⟩)):X:=h
theorem zq52_{X:Prop}(h:X:=by(exact λa w h=>⟨(()),trivial,by rw[decide_eq_true (show Yb m by simp only[Yb];simp_all)];exact h.ct [0] (up 0 9)⟩)):X:=h
theorem zq53_{X:Prop}(h:X:=by(exact λa w h=>⟨(()),trivial,by rw[decide_eq_true (show Yc m by simp only[Yc];simp_all)];exact h.ct [0] (up 0 9)⟩)):X:=h
theorem zq54_{X:Prop}(h:X:=by(exact λa w h=>⟨(()),trivial,by rw[decide_eq_true (show XO m by simp only[XO];simp_all)];exact h.ct [0] (up 0 9)⟩)):X:=h
theorem jY{X:Prop}(h:X:=by(exact⟨by rw[QX (λH=>by obtain⟨g1,g2,g3,g4,g5,⟨g6,g7,g8,g9⟩,g0⟩:=H;first|exact absurd g6 (by assumption)|exact absurd g7 (by assumption)|exact absurd g8 (by assumption)|exact absurd g9 (by assumption))];rfl,rfl,rfl⟩)):X:=h
theorem YP(m:GZ)(s:Lie)(hm:FT m):Ct Tryz.prog 79 [Ip m s] [] (H9 m s) (λu G Q=>u=.int .i64 (aN m)/\G=[]/\Q=[]):=by
 refine Ct.intro Tryz.func79 rfl rfl rfl (λc hc=>?_)
 refine AX ?_;refine GL.step rfl (Ee rfl rfl rfl) (Aa λIJ=>?_);refine AL 1 ?_;refine AB ?_;refine AV 1 ?_;refine Ad 0 ?_;refine AA 1 ?_;refine Ad 0 ?_;refine AA 1 ?_;refine Ad 0 ?_
 refine AA 1 ?_;refine Ad 0 ?_;refine AA 1 ?_;refine Ad 0 ?_;refine AA 1 ?_;refine Ad 0 ?_;refine AA 1 ?_;refine Ad 0 ?_;refine GL.step rfl (EC rfl Tryz.underlying53 GV Ja rfl rfl rfl rfl rfl rfl) (Aa λb_t23=>?_)
 refine GL.FD (enc:=Value.int .i64) (xs:=[m.epoch,m.view,m.num,m.commit,m.normal,m.client,m.serial]) (h1:=λ_=>rfl) (i:=0) rfl ?_;refine AL 2 ?_;refine GC.block ?_;refine Bd (ks:=[1,23,24]) (is:=[0]) (js:=(up 0 9)) (fun(k:Nat)=>k<=7/\∀j:Nat,j<k->JD (gt [m.epoch,m.view,m.num,m.commit,m.normal,m.client,m.serial] (j:Int))) (fun(k:Nat)=>[(25,.int .i64 (k:Int))]) (fun(k:Nat)=>[]) (fun(k:Nat)=>[]) (fun(k:Nat)=>7 - k) (0) rfl rfl rfl (λa w h=>⟨⟨by omega,λj hj=>by omega⟩,h.Hf (is:=[0]) (js:=(up 0 9)) (ks:=[1,23,24]) ⟨rfl,trivial⟩ rfl rfl rfl⟩) ?_
 intro k hk
 try dsimp only[List.cons_append,List.nil_append] at hk ⊢
 obtain⟨hk,hall⟩:=hk
 refine AP 1 ?_;refine AB ?_;refine Af ?_ ?_
 ·intro h1;try simp only[D6,D8,EJ,D9,Es,List.length_cons,List.length_nil] at h1
  refine GC.skip (?_:GC _ _ _ _)
  refine AB ?_;refine GC.block ?_;refine AX ?_;refine GL.step rfl (Ej (i:=0) rfl rfl rfl rfl Tryz.underlying53 GV (by omega) (EW (by omega) (by omega))) (Aa λp_x27=>Aa λr_x27=>GL.and λok_x27=>?_)
  rcases r_x27 with _
  refine GL.step rfl (Ed rfl (ES (i:=0) rfl rfl Ei rfl)) ?_;refine AL 1 ?_;refine AV 3 ?_;refine Ak 31 ?_ ?_
  ·intro h2;try simp only[D6,D8,EJ,D9,Es,List.length_cons,List.length_nil] at h2
   refine AL 3 ?_;refine AU rfl ?_;refine AP 1 ?_;refine GC.ret (AQ 2 [] [] ?_)
   exact zq49_
  intro h2;try simp only[D6,D8,EJ,D9,Es,List.length_cons,List.length_nil] at h2
  refine AL 3 ?_;refine Af ?_ ?_
  ·intro h3;try simp only[D6,D8,EJ,D9,Es,List.length_cons,List.length_nil] at h3
   refine AP 1 ?_;refine GC.ret (AQ 2 [] [] ?_)
   exact zq49_
  intro h3;try simp only[D6,D8,EJ,D9,Es,List.length_cons,List.length_nil] at h3
  refine GC.skip (?_:GC _ _ _ _)
  refine GC.region ?_;refine AO rfl (EU rfl rfl (Fh (by omega) (by omega))) ?_;refine AA 1 ?_;refine Ac ?_
  exact λa w h=>⟨(k+1),(by omega),⟨by omega,λj hj=>(Nat.lt_succ_iff_lt_or_eq.1 hj).elim (hall j) (λe=>by subst e;exact⟨by assumption,by assumption⟩)⟩,h.ct [0] (up 1 9)⟩
 intro h1;try simp only[D6,D8,EJ,D9,Es,List.length_cons,List.length_nil] at h1
 refine GC.exit (?_:GC _ _ _ _)
 refine AB ?_;refine AV 1 ?_;refine Ad 0 ?_;refine AA 2 ?_;refine Ak 39 ?_ ?_
 ·intro h4;try simp only[D6,D8,EJ,D9,Es,List.length_cons,List.length_nil] at h4
  refine AL 22 ?_;refine AU rfl ?_;refine AP 1 ?_;refine GC.ret (AQ 2 [] [] ?_)
  exact ZJ
 intro h4;try simp only[D6,D8,EJ,D9,Es,List.length_cons,List.length_nil] at h4
 refine AA 1 ?_;refine Aj 0 ?_;refine AA 3 ?_;refine Ak 44 ?_ ?_
 ·intro h5;try simp only[D6,D8,EJ,D9,Es,List.length_cons,List.length_nil] at h5
  refine AL 17 ?_;refine AU rfl ?_;refine AP 1 ?_;refine GC.ret (AQ 2 [] [] ?_)
  exact ZJ
 intro h5;try simp only[D6,D8,EJ,D9,Es,List.length_cons,List.length_nil] at h5
 refine AA 1 ?_;refine Aj 0 ?_;refine Au rfl (s:=44) rfl rfl (EI rfl Tryz.call116 rfl (is:=[]) (js:=[]) rfl rfl (by exact kH _)) (GL.ret ?_)
 rintro _ _ _ ⟨rfl,rfl,rfl⟩
 refine AA 3 ?_;refine Ak 50 ?_ ?_
 ·intro h6;try simp only[D6,D8,EJ,D9,Es,List.length_cons,List.length_nil] at h6
  refine AL 11 ?_;refine AU rfl ?_;refine AP 1 ?_;refine GC.ret (AQ 2 [] [] ?_)
  exact ZJ
 intro h6;try simp only[D6,D8,EJ,D9,Es,List.length_cons,List.length_nil] at h6
 refine AA 1 ?_;refine Aj 0 ?_;refine Au rfl (s:=50) rfl rfl (EI rfl Tryz.call116 rfl (is:=[]) (js:=[]) rfl rfl (by exact kH _)) (GL.ret ?_)
 rintro _ _ _ ⟨rfl,rfl,rfl⟩
 refine AA 3 ?_;refine Ak 56 ?_ ?_
 ·intro h7;try simp only[D6,D8,EJ,D9,Es,List.length_cons,List.length_nil] at h7
  refine AL 5 ?_;refine AU rfl ?_;refine AP 1 ?_;refine GC.ret (AQ 2 [] [] ?_)
  exact ZJ
 intro h7;try simp only[D6,D8,EJ,D9,Es,List.length_cons,List.length_nil] at h7
 refine AA 1 ?_;refine Aj 0 ?_;refine Au rfl (s:=56) rfl rfl (EI rfl Tryz.call117 rfl (is:=[]) (js:=[8]) rfl rfl (by exact rrow_ct _ m.log _ (by have:=hm.l;omega) hm.e)) (GL.ret ?_)
 rintro _ _ _ ⟨rfl,rfl,rfl⟩
 refine AL 2 ?_;refine Af ?_ ?_
 ·intro h8;try simp only[D6,D8,EJ,D9,Es,List.length_cons,List.length_nil] at h8
  refine AP 1 ?_;refine GC.ret (AQ 2 [] [] ?_)
  exact ZJ
 intro h8;try simp only[D6,D8,EJ,D9,Es,List.length_cons,List.length_nil] at h8
 refine GC.skip (?_:GC _ _ _ _)
 refine Bh (ks:=[1]) (is:=[0]) (js:=(up 0 9)) (fun(u_:Unit)=>True) (fun(u_:Unit)=>[(5,.bool (decide (pOp m)))]) (fun(u_:Unit)=>[]) (fun(u_:Unit)=>[]) rfl rfl rfl ?_ ?_
 ·refine GC.region ?_;refine AA 1 ?_;refine Az 0 5 ?_;refine AO rfl (ED Hy KO rfl rfl) ?_;refine Ah Tryz.call25 [] [1,2] rfl rfl rfl (by exact TI m.op _ _ _ _) ?_
  rintro _ _ _ ⟨rfl,rfl,rfl⟩
  refine AA 1 ?_;refine Ak 66 ?_ ?_
  ·intro h9;try simp only[D6,D8,EJ,D9,Es,List.length_cons,List.length_nil] at h9
   refine AA 6 ?_;refine Ac ?_
   exact zq51_
  intro h9;try simp only[D6,D8,EJ,D9,Es,List.length_cons,List.length_nil] at h9
  refine AA 1 ?_;refine BX 0 5 ?_;refine Au rfl (s:=66) rfl rfl (EI rfl Tryz.call118 rfl (is:=[]) (js:=[]) rfl rfl (by exact SC m.op.kind m.op.at_ m.op.n _ m.op.data.length _ _ m.op.old.length _ (by have:=hm.d;omega) (by have:=hm.o;omega))) (GL.ret ?_)
  rintro _ _ _ ⟨rfl,rfl,rfl⟩
  refine AA 3 ?_;refine Ak 5 ?_ ?_
  ·intro h10;try simp only[D6,D8,EJ,D9,Es,List.length_cons,List.length_nil] at h10
   refine Ac ?_
   exact zq51_
  intro h10;try simp only[D6,D8,EJ,D9,Es,List.length_cons,List.length_nil] at h10
  refine Ac ?_
  exact λa w h=>⟨(()),trivial,by rw[decide_eq_false (show ¬(pOp m) by simp only[pOp,Jp];simp_all)];exact h.ct [0] (up 0 9)⟩
 intro u_ hj9
 try dsimp only[List.cons_append,List.nil_append] at hj9 ⊢
 refine Bh (ks:=[1,5]) (is:=[0]) (js:=(up 0 9)) (fun(u_:Unit)=>True) (fun(u_:Unit)=>[(6,.bool (decide (Yb m)))]) (fun(u_:Unit)=>[]) (fun(u_:Unit)=>[]) rfl rfl rfl ?_ ?_
 ·refine GC.region ?_;refine AA 1 ?_;refine Az 0 2 ?_;refine Ah Tryz.call119 [] [] rfl rfl rfl (by exact jU m.res _ _) ?_
  rintro _ _ _ ⟨rfl,rfl,rfl⟩
  refine AA 1 ?_;refine Ak 75 ?_ ?_
  ·intro h11;try simp only[D6,D8,EJ,D9,Es,List.length_cons,List.length_nil] at h11
   refine AA 6 ?_;refine Ac ?_
   exact zq52_
  intro h11;try simp only[D6,D8,EJ,D9,Es,List.length_cons,List.length_nil] at h11
  refine AA 1 ?_;refine BX 0 2 ?_;refine Au rfl (s:=75) rfl rfl (EI rfl Tryz.call120 rfl (is:=[]) (js:=[]) rfl rfl (by exact RU m.res.code _ m.res.data.length _)) (GL.ret ?_)
  rintro _ _ _ ⟨rfl,rfl,rfl⟩
  refine AA 3 ?_;refine Ak 6 ?_ ?_
  ·intro h12;try simp only[D6,D8,EJ,D9,Es,List.length_cons,List.length_nil] at h12
   refine Ac ?_
   exact zq52_
  intro h12;try simp only[D6,D8,EJ,D9,Es,List.length_cons,List.length_nil] at h12
  refine Ac ?_
  exact λa w h=>⟨(()),trivial,by rw[decide_eq_false (show ¬(Yb m) by simp only[Yb];simp_all)];exact h.ct [0] (up 0 9)⟩
 intro u_ hj10
 try dsimp only[List.cons_append,List.nil_append] at hj10 ⊢
 refine Bh (ks:=[1,5,6]) (is:=[0]) (js:=(up 0 9)) (fun(u_:Unit)=>True) (fun(u_:Unit)=>[(7,.bool (decide (Yc m)))]) (fun(u_:Unit)=>[]) (fun(u_:Unit)=>[]) rfl rfl rfl ?_ ?_
 ·refine GC.region ?_;refine AA 1 ?_;refine Az 0 2 ?_;refine Ah Tryz.call121 [] [] rfl rfl rfl (by exact jg m.grp _ _) ?_
  rintro _ _ _ ⟨rfl,rfl,rfl⟩
  refine AA 1 ?_;refine Ak 84 ?_ ?_
  ·intro h13;try simp only[D6,D8,EJ,D9,Es,List.length_cons,List.length_nil] at h13
   refine AA 6 ?_;refine Ac ?_
   exact zq53_
  intro h13;try simp only[D6,D8,EJ,D9,Es,List.length_cons,List.length_nil] at h13
  refine AA 1 ?_;refine BX 0 2 ?_;refine Au rfl (s:=84) rfl rfl (EI rfl Tryz.call122 rfl (is:=[]) (js:=[4]) rfl rfl (by exact MN m.grp.epoch _ m.grp.members _ (by have:=hm.g;omega))) (GL.ret ?_)
  rintro _ _ _ ⟨rfl,rfl,rfl⟩
  refine AA 3 ?_;refine Ak 7 ?_ ?_
  ·intro Nb;try simp only[D6,D8,EJ,D9,Es,List.length_cons,List.length_nil] at Nb
   refine Ac ?_
   exact zq53_
  intro Nb;try simp only[D6,D8,EJ,D9,Es,List.length_cons,List.length_nil] at Nb
  refine Ac ?_
  exact λa w h=>⟨(()),trivial,by rw[decide_eq_false (show ¬(Yc m) by simp only[Yc];simp_all)];exact h.ct [0] (up 0 9)⟩
 intro u_ hj11
 try dsimp only[List.cons_append,List.nil_append] at hj11 ⊢
 refine Bh (ks:=[5,6,7]) (is:=[0]) (js:=(up 0 9)) (fun(u_:Unit)=>True) (fun(u_:Unit)=>[(8,.bool (decide (XO m)))]) (fun(u_:Unit)=>[]) (fun(u_:Unit)=>[]) rfl rfl rfl ?_ ?_
 ·refine GC.region ?_;refine AA 1 ?_;refine Az 0 7 ?_;refine Ah Tryz.call123 [] [5,6,7] rfl rfl rfl (by exact Zd m.stt _ _ _ _ _ _ hm.s) ?_
  rintro _ _ _ ⟨rfl,rfl,rfl⟩
  refine AA 1 ?_;refine Ak 93 ?_ ?_
  ·intro h15;try simp only[D6,D8,EJ,D9,Es,List.length_cons,List.length_nil] at h15
   refine AA 6 ?_;refine Ac ?_
   exact zq54_
  intro h15;try simp only[D6,D8,EJ,D9,Es,List.length_cons,List.length_nil] at h15
  refine AA 1 ?_;refine BX 0 7 ?_;refine Au rfl (s:=93) rfl rfl (EI rfl Tryz.call124 rfl (is:=[]) (js:=[5,6,7]) rfl rfl (by exact TA m.stt _ _ _ _ _ _ hm.s)) (GL.ret ?_)
  rintro _ _ _ ⟨rfl,rfl,rfl⟩
  refine AA 3 ?_;refine Ak 8 ?_ ?_
  ·intro h16;try simp only[D6,D8,EJ,D9,Es,List.length_cons,List.length_nil] at h16
   refine Ac ?_
   exact zq54_
  intro h16;try simp only[D6,D8,EJ,D9,Es,List.length_cons,List.length_nil] at h16
  refine Ac ?_
  exact λa w h=>⟨(()),trivial,by rw[decide_eq_false (show ¬(XO m) by simp only[XO];simp_all)];exact h.ct [0] (up 0 9)⟩
 intro u_ hj12
 try dsimp only[List.cons_append,List.nil_append] at hj12 ⊢
 refine AB ?_;refine AV 3 ?_;refine Ak 101 ?_ ?_
 ·intro h17;try simp only[D6,D8,EJ,D9,Es,List.length_cons,List.length_nil] at h17
  refine AL 11 ?_;refine AU rfl ?_;refine AP 1 ?_;refine GC.ret (AQ 2 [] [] ?_)
  exact jY
 intro h17;try simp only[D6,D8,EJ,D9,Es,List.length_cons,List.length_nil] at h17
 refine AA 4 ?_;refine Ak 105 ?_ ?_
 ·intro h18;try simp only[D6,D8,EJ,D9,Es,List.length_cons,List.length_nil] at h18
  refine AL 7 ?_;refine AU rfl ?_;refine AP 1 ?_;refine GC.ret (AQ 2 [] [] ?_)
  exact jY
 intro h18;try simp only[D6,D8,EJ,D9,Es,List.length_cons,List.length_nil] at h18
 refine AA 4 ?_;refine Ak 109 ?_ ?_
 ·intro h19;try simp only[D6,D8,EJ,D9,Es,List.length_cons,List.length_nil] at h19
  refine AL 3 ?_;refine AU rfl ?_;refine AP 1 ?_;refine GC.ret (AQ 2 [] [] ?_)
  exact jY
 intro h19;try simp only[D6,D8,EJ,D9,Es,List.length_cons,List.length_nil] at h19
 refine AL 3 ?_;refine Af ?_ ?_
 ·intro h20;try simp only[D6,D8,EJ,D9,Es,List.length_cons,List.length_nil] at h20
  refine AP 1 ?_;refine GC.ret (AQ 2 [] [] ?_)
  exact jY
 intro h20;try simp only[D6,D8,EJ,D9,Es,List.length_cons,List.length_nil] at h20
 refine GC.skip (?_:GC _ _ _ _)
 refine AP 1 ?_;refine GC.ret (AQ 2 [] [] ?_)
 obtain rfl:k=7:=by omega
 exact⟨by rw[OV ⟨gt7_ok hall,by omega,by omega,by assumption,by assumption,⟨by assumption,by assumption,by assumption,by assumption⟩,by assumption⟩];rfl,rfl,rfl⟩
abbrev rowOf(A:Option Addr)(cp:Nat)(b:List UInt8):Own:=.row (.slice A b.length cp) 5 1 b.length (b.map JE)
theorem MS(A:Option Addr)(xs:List UInt8)(cp:Nat)(hx:xs.length<=140737488355328):Ct Tryz.prog 95 [.slice A xs.length cp] [] [D7.row Kd.u8 A xs]
    (λv G Q=>∃A' cp',xs.length<=cp'/\cp'<=9223372036854775807/\v=.slice A' xs.length cp'/\G=[.row (.slice A' xs.length cp') 5 1 xs.length (xs.map JE)]/\Q=[]):=by
 cases A with
 |none =>
   refine Ct.pure (λw S h=>VW (h.per _ (List.mem_singleton.2 rfl))) λhx0=>?_
   subst hx0
   refine Ct.intro Tryz.func95 rfl rfl rfl (λc hc=>?_)
   refine AP 1 ?_;refine AB ?_;refine AV 1 ?_;refine AO rfl (J9 Tryz.underlying47 rfl rfl) ?_;refine Ap ?_;refine AU rfl ?_;refine AP 1 ?_;refine GC.Hu 5 1 ?_;refine GC.ret (AQ 2 [0] [] ?_)
   exact⟨_,_,by simp,by simp,rfl,rfl,rfl⟩
 |some a =>
   refine Ct.intro Tryz.func95 rfl rfl rfl (λc hc=>?_)
   refine AP 1 ?_;refine AB ?_;refine AV 1 ?_;refine AO rfl (J9 Tryz.underlying47 rfl rfl) ?_;refine Ap ?_;refine AY rfl ?_
   refine GC.skip (?_:GC _ _ _ _)
   refine AX ?_;refine GL.step rfl (EC rfl Tryz.underlying47 Fa Jd rfl rfl rfl rfl rfl rfl) (Aa λRD=>?_);refine AA 1 ?_;refine Ci (i:=0) (m:=0) (sz:=1) rfl rfl (by decide) rfl ?_
   refine GL.step rfl (Ep (i:=0) (k:=0) rfl Fv rfl rfl rfl rfl (by simp;omega) (λ_=>rfl)) (Aa λv7=>?_);refine AL 1 ?_;refine GC.shape (i:=0) rfl (λA1 c1 e1 l1 l2=>?_)
   subst e1
   simp only[Nat.zero_add,List.nil_append] at l1 ⊢
   refine GC.ret (AQ 2 [0] [] ?_)
   exact⟨_,_,l1,l2,rfl,rfl,rfl⟩
theorem zq56_{X:Prop}(h:X:=by(refine⟨congrArg Value.bool ?_,rfl,rfl⟩;first|exact(decide_eq_true (by omega)).symm|exact(decide_eq_false (by omega)).symm|exact decide_eq_decide.2 (by omega))):X:=h
theorem sized_ct(n:Int):Ct Tryz.prog 94 [.int .i64 n] [] [] (λv G Q=>v=.bool (decide (1<=n/\n<=8))/\G=[]/\Q=[]):=by
 refine Ct.intro Tryz.func94 rfl rfl rfl (λc hc=>?_)
 refine AP 1 ?_;refine AV 3 ?_;refine Ak 5 ?_ ?_
 ·intro h1;try simp only[D6] at h1
  refine AL 4 ?_;refine GC.ret (AQ 2 [] [] ?_)
  exact zq56_
 intro h1;try simp only[D6] at h1
 refine AL 4 ?_;refine GC.ret (AQ 2 [] [] ?_)
 exact zq56_
theorem VO(n:Nat)(h:1<=n)(h':n<=8):Ct Tryz.prog 94 [.int .i64 (n:Int)] [] [] (λv G Q=>v=.bool true/\G=[]/\Q=[]):=by
 have:=sized_ct (n:Int)
 rw[decide_eq_true (by omega)] at this
 exact this
theorem div_lt_iff{v n:Nat}:v / 256 ^ n=0↔v<256 ^ n:=Nat.div_eq_zero_iff.trans ⟨λh=>h.resolve_left (by simp),.inr⟩
theorem zq57_{X:Prop}(h:X:=by(refine⟨congrArg Value.bool ?_,rfl,rfl⟩;first|(obtain rfl:n=8:=(by omega);exact(decide_eq_true (by omega)).symm)|exact decide_eq_decide.2 (by rw[<-div_lt_iff];norm_cast))):X:=h
theorem fits_ct(v n:Nat)(h:1<=n)(h':n<=8)(hv:v<18446744073709551616):Ct Tryz.prog 96 [.int .u64 (v:Int),.int .i64 (n:Int)] [] [] (λu G Q=>u=.bool (decide (v<256 ^ n))/\G=[]/\Q=[]):=by
 refine Ct.intro Tryz.func96 rfl rfl rfl (λc hc=>?_)
 refine AP 1 ?_;refine AV 3 ?_;refine Ak 7 ?_ ?_
 ·intro h1;try simp only[D6] at h1
  refine AL 8 ?_;refine GC.ret (AQ 4 [] [] ?_)
  exact zq57_
 intro h1;try simp only[D6] at h1
 refine AA 2 ?_;refine Ba (s:=7) rfl rfl rfl (Vr rfl rfl (Fh (by omega) (by omega))) ?_;refine Ba (s:=7) rfl rfl rfl (EO (t:=3) (r:=((8 * n:Nat):Int)) (by rw[Tryz.underlying3];simp) Tryz.underlying195 rfl (by rw[bn (by omega) (by omega)];omega)) ?_
 refine Ba (s:=7) rfl rfl rfl (Pj (r:=((v / 256 ^ n:Nat):Int)) rfl rfl (by omega) (shr8 h')) ?_;refine AL 3 ?_;refine GC.ret (AQ 4 [] [] ?_)
 exact zq57_
theorem kT(A:Option Addr)(cp:Nat)(b:List UInt8)(v n:Nat)(h':n<=8)(hb:b.length<=100000000000000):Ct Tryz.prog 97 [.slice A b.length cp,.int .u64 (v:Int),.int .i64 (n:Int)] [rowOf A cp b] []
    (λu G Q=>∃A' cp',(b++FK n v).length<=cp'/\cp'<=9223372036854775807/\u=.slice A' (b++FK n v).length cp'/\G=[rowOf A' cp' (b++FK n v)]/\Q=[]):=by
 refine Ct.intro Tryz.func97 rfl rfl rfl (λc hc=>?_)
 refine AP 1 ?_;refine AB ?_;refine AP 2 ?_;refine GC.block ?_;refine CV (ks:=[1,8]) (is:=[]) (js:=[]) (fun(k:Nat) (U:Value)=>k<=n) (fun(k:Nat) (U:Value)=>[(0,U),(9,.int .i64 (k:Int))]) (fun(k:Nat) (U:Value)=>[.row U 5 1 (b.length+k) ((b++FK k v).map JE)]) (fun(k:Nat) (U:Value)=>[]) (fun(k:Nat) (U:Value)=>n - k) (0) (_) rfl rfl rfl (λa w h=>⟨by omega,by simp only[FK,List.append_nil];exact h.Hf (is:=[0]) (js:=[]) (ks:=[1,8]) ⟨rfl,rfl,trivial⟩ rfl rfl rfl⟩) ?_
 intro k U hk
 try dsimp only[List.cons_append,List.nil_append] at hk ⊢
 refine AP 1 ?_;refine AB ?_;refine Af ?_ ?_
 ·intro h1;try simp only[D6] at h1
  refine GC.skip (?_:GC _ _ _ _)
  refine AB ?_;refine GC.block ?_;refine AP 2 ?_;refine GC.region ?_;refine AA 3 ?_;refine AO rfl (Vr rfl rfl (Fh (by omega) (by omega))) ?_;refine AO rfl (EO (t:=3) (r:=((8 * k:Nat):Int)) (by rw[Tryz.underlying3];simp) Tryz.underlying195 rfl (by rw[bn (by omega) (by omega)];omega)) ?_
  refine AO rfl (Pj (r:=((v / 256 ^ k:Nat):Int)) rfl rfl (by omega) (shr8 (by omega))) ?_;refine AO rfl (EO (t:=45) (r:=((UInt8.ofNat (v / 256 ^ k % 256)).toNat:Int)) (by rw[Tryz.underlying45];simp) Tryz.underlying5 rfl (Qk _)) ?_
  refine GL.step rfl (EC rfl Tryz.underlying47 Fa Jd rfl rfl rfl rfl rfl rfl) (Aa λXD=>?_);refine GL.step rfl (Eh (i:=1) (k:=0) rfl Fv rfl rfl rfl rfl rfl (EX rfl) (by simp;omega) (λ_=>rfl)) (Aa λv20=>?_)
  refine AA 1 ?_
  refine Ac (?_:GC _ _ _ _)
  refine GC.region ?_;refine AO rfl (EU rfl rfl (Fh (by omega) (by omega))) ?_;refine AA 1 ?_;refine Ac ?_
  exact λa w h=>⟨(k+1),(v20),(by omega),by omega,by rw[Ry,<-List.append_assoc,List.map_append];exact h.ct [1] []⟩
 intro h1;try simp only[D6] at h1
 refine GC.exit (?_:GC _ _ _ _)
 refine AB ?_
 obtain rfl:k=n:=by omega
 refine GC.rowIs (i:=0) (m':=((b++FK k v)).length) (cs':=((b++FK k v)).map JE) rfl (by first|(simp only[List.length_append,List.length_cons,List.length_nil,List.append_assoc];done)|(simp only[List.length_append,List.length_cons,List.length_nil,List.append_assoc];omega)|(simp[D_];done)|(simp[D_];omega)|rfl) (by first|(simp only[List.map_append,List.map_cons,List.map_nil,List.append_assoc];done)|(simp[D_];done)|rfl) rfl ?_
 refine GC.shape (i:=0) rfl (λSm SS Oz Ue Uf=>?_)
 subst Oz
 refine GC.region ?_;refine AA 2 ?_
 refine Ac (?_:GC _ _ _ _)
 refine GC.ret (AQ 6 [0] [] ?_)
 exact⟨_,_,Ue,Uf,rfl,rfl,rfl⟩
abbrev uv(x:Nat):Value:=.int .u64 (x:Int)
abbrev kU:Kd Nat:=DI uv (λ_=>rfl)
def Lm(n:Nat)(l:List Nat):List UInt8:=l.flatMap (FK n)
theorem EG(n:Nat)(l:List Nat):(Lm n l).length=n * l.length:=by
 unfold Lm
 induction l with
 |nil=>simp
 |cons x r ih=>rw[List.flatMap_cons,List.length_append,D_,ih,List.length_cons,Nat.mul_succ];omega
theorem WY{n:Nat}{l:List Nat}{k:Nat}(h:k<l.length):Lm n (l.take (k+1))=Lm n (l.take k)++FK n (gt l (k:Int)):=by
 unfold Lm;rw[LP h,List.flatMap_append];simp
theorem fits_ok(v n:Nat)(h:1<=n)(h':n<=8)(hv:v<256 ^ n):Ct Tryz.prog 96 [.int .u64 (v:Int),.int .i64 (n:Int)] [] [] (λu G Q=>u=.bool true/\G=[]/\Q=[]):=by
 have h8:256 ^ n<=256 ^ 8:=Nat.pow_le_pow_right (by decide) h'
 have:=fits_ct v n h h' (by omega)
 rw[decide_eq_true hv] at this
 exact this
theorem lZ{n k c:Nat}(hn:n<=8)(hk:k<=c):n * k<=8 * c:=Nat.mul_le_mul hn hk
theorem QU(A:Option Addr)(b:List UInt8)(cp n:Nat)(L:Option Addr)(l:List Nat)(cl:Nat)(hn:1<=n)(hn':n<=8)(hb:b.length+8 * l.length<=100000000000000)(hl:∀x∈l,x<256 ^ n):Ct Tryz.prog 62 [.slice A b.length cp,.int .i64 (n:Int),.slice L l.length cl] [] [D7.row Kd.u8 A b,D7.row kU L l]
    (λu G Q=>∃A' cp',(b++Lm n l).length<=cp'/\cp'<=9223372036854775807/\u=.tuple #[.slice A' (b++Lm n l).length cp',.int .i64 0]/\G=[rowOf A' cp' (b++Lm n l)]/\Q=[]):=by
 refine Ct.intro Tryz.func62 rfl rfl rfl (λc hc=>?_)
 refine AP 2 ?_;refine AB ?_;refine AV 1 ?_;refine Ah Tryz.call94 [] [] rfl rfl rfl (by exact VO n hn hn') ?_
 rintro _ _ _ ⟨rfl,rfl,rfl⟩
 refine AL 1 ?_;refine AY rfl ?_
 refine GC.skip (?_:GC _ _ _ _)
 refine AV 1 ?_;refine Ah Tryz.call95 [] [0] rfl rfl rfl (by exact MS _ _ _ (by first|assumption|omega)) ?_
 rintro _ _ _ ⟨jT,cp15,l15,k15,rfl,rfl,rfl⟩
 refine AL 1 ?_;refine AB ?_;refine AP 3 ?_;refine GC.block ?_;refine Bv (ks:=[1,16,17]) (is:=[]) (js:=[0,1]) (fun(k:Nat) (A1:Option Addr) (c1:Nat)=>k<=l.length/\(b++Lm n (l.take k)).length<=c1/\c1<=9223372036854775807) (fun(k:Nat) (A1:Option Addr) (c1:Nat)=>[(8,.slice A1 (b++Lm n (l.take k)).length c1),(18,.int .i64 (k:Int))]) (fun(k:Nat) (A1:Option Addr) (c1:Nat)=>[rowOf A1 c1 (b++Lm n (l.take k))]) (fun(k:Nat) (A1:Option Addr) (c1:Nat)=>[]) (fun(k:Nat) (A1:Option Addr) (c1:Nat)=>l.length - k) (0) (_) (_) rfl rfl rfl (λa w h=>⟨⟨by omega,by simpa[Lm] using l15,k15⟩,by simp only[Lm,List.take_zero,List.flatMap_nil,List.append_nil];exact h.Hf (is:=[0]) (js:=[0,1]) (ks:=[1,16,17]) ⟨rfl,rfl,trivial⟩ rfl rfl rfl⟩) ?_
 intro k A1 c1 hk
 try dsimp only[List.cons_append,List.nil_append] at hk ⊢
 obtain⟨hk,hc1,hc2⟩:=hk
 refine AP 1 ?_;refine AB ?_;refine Af ?_ ?_
 ·intro h1;try simp only[D6] at h1
  refine GC.skip (?_:GC _ _ _ _)
  refine AB ?_;refine GC.block ?_;refine AX ?_;refine GL.step rfl (Ej (i:=1) rfl rfl rfl rfl Tryz.underlying180 UJ (by omega) (EW (by omega) (by omega))) (Aa λp_x20=>Aa λZr=>GL.and λok_x20=>?_)
  rcases Zr with _
  refine GL.step rfl (Ed rfl (ES (i:=0) rfl rfl ag_45 rfl)) ?_;refine AL 1 ?_;refine AB ?_;refine AV 2 ?_;refine Ah Tryz.call96 [] [] rfl rfl rfl (by exact fits_ok (gt l (k:Int)) n hn hn' (hl _ (Ec (by omega)))) ?_
  rintro _ _ _ ⟨rfl,rfl,rfl⟩
  refine AL 1 ?_;refine AY rfl ?_
  refine GC.skip (?_:GC _ _ _ _)
  refine GC.region ?_;refine AA 3 ?_;refine Ah Tryz.call97 [0] [] rfl rfl rfl (by exact kT A1 c1 (b++Lm n (l.take k)) (gt l (k:Int)) n hn' (by rw[List.length_append,EG,List.length_take];have:=lZ hn' (show min k l.length<=l.length by omega);omega)) ?_
  rintro _ _ _ ⟨A29,cp29,l29,k29,rfl,rfl,rfl⟩
  refine AA 1 ?_
  refine Ac (?_:GC _ _ _ _)
  refine GC.region ?_;refine AO rfl (EU rfl rfl (Fh (by omega) (by omega))) ?_;refine AA 1 ?_;refine Ac ?_
  exact λa w h=>⟨(k+1),(A29),(cp29),(by omega),⟨by omega,by rw[WY (by omega),<-List.append_assoc];exact l29,k29⟩,by rw[WY (by omega),<-List.append_assoc];exact h.ct [0] [1,2]⟩
 intro h1;try simp only[D6] at h1
 refine GC.exit (?_:GC _ _ _ _)
 refine AP 3 ?_;refine GC.ret (BR 6 7 [0] [] ?_)
 obtain rfl:k=l.length:=by omega
 rw[List.take_length] at *
 exact⟨_,_,hc1,hc2,rfl,rfl,rfl⟩
theorem flI_one(n v:Nat):Lm n [v]=FK n v:=by simp[Lm]
theorem Uz(A:Option Addr)(b:List UInt8)(cp v n:Nat)(hn:1<=n)(hn':n<=8)(hb:b.length<=10000000000000)(hv:v<256 ^ n):Ct Tryz.prog 66 [.slice A b.length cp,.int .u64 (v:Int),.int .i64 (n:Int)] [] [D7.row Kd.u8 A b]
    (λu G Q=>∃A' cp',(b++FK n v).length<=cp'/\cp'<=9223372036854775807/\u=.tuple #[.slice A' (b++FK n v).length cp',.int .i64 0]/\G=[rowOf A' cp' (b++FK n v)]/\Q=[]):=by
 refine Ct.intro Tryz.func66 rfl rfl rfl (λc hc=>?_)
 refine AP 2 ?_;refine AV 3 ?_;refine GL.step rfl (EC rfl Tryz.underlying180 UJ ZM rfl rfl rfl rfl rfl rfl) (Aa λn_=>?_);refine GL.FD (enc:=uv) (xs:=[v]) (h1:=λ_=>rfl) (i:=0) rfl ?_
 refine Ah Tryz.call62 [] [1,0] rfl rfl rfl (by exact QU _ b _ n _ [v] _ hn hn' (by simp;omega) (by simpa using hv)) ?_
 rintro _ _ _ ⟨A12,cp12,l12,k12,rfl,rfl,rfl⟩
 refine AL 4 ?_;refine GC.ret (BR 6 7 [0] [] ?_)
 rw[flI_one] at *
 exact⟨_,_,l12,k12,rfl,rfl,rfl⟩
theorem NI(A:Option Addr)(b:List UInt8)(cp:Nat)(B:Option Addr)(s:List UInt8)(cq:Nat)(hb:b.length<=10000000000000)(hs:s.length<=16777216):Ct Tryz.prog 68 [.slice A b.length cp,.slice B s.length cq] [] [D7.row Kd.u8 A b,D7.row Kd.u8 B s]
    (λu G Q=>∃A' cp',(b++FK 4 s.length++s).length<=cp'/\cp'<=9223372036854775807/\u=.tuple #[.slice A' (b++FK 4 s.length++s).length cp',.int .i64 0]/\G=[rowOf A' cp' (b++FK 4 s.length++s)]/\Q=[]):=by
 refine Ct.intro Tryz.func68 rfl rfl rfl (λc hc=>?_)
 refine AP 2 ?_;refine AB ?_;refine AP 3 ?_;refine Af ?_ ?_
 ·intro h1;try simp only[D6] at h1
  exfalso;omega
 intro h1;try simp only[D6] at h1
 refine GC.skip (?_:GC _ _ _ _)
 refine AV 1 ?_;refine Ah Tryz.call95 [] [0] rfl rfl rfl (by exact MS _ _ _ (by first|assumption|omega)) ?_
 rintro _ _ _ ⟨A10,cp10,l10,k10,rfl,rfl,rfl⟩
 refine AA 2 ?_;refine AO rfl (EO (t:=3) (r:=((s.length:Nat):Int)) (by rw[Tryz.underlying3];simp) Tryz.underlying45 rfl (bn (by omega) (by omega))) ?_
 refine Ah Tryz.call97 [0] [] rfl rfl rfl (by exact kT A10 cp10 b s.length 4 (by omega) (by omega)) ?_
 rintro _ _ _ ⟨A14,XA,l14,k14,rfl,rfl,rfl⟩
 refine AA 1 ?_;refine GL.step rfl (Ep (i:=0) (k:=1) rfl Fv rfl rfl rfl rfl (by simp[D_];omega) (λ_=>rfl)) (Aa λv16=>?_)
 refine GL.rowIs (i:=0) (m':=((b++FK 4 s.length++s)).length) (cs':=((b++FK 4 s.length++s)).map JE) rfl (by first|(simp only[List.length_append,List.length_cons,List.length_nil,List.append_assoc];done)|(simp only[List.length_append,List.length_cons,List.length_nil,List.append_assoc];omega)|(simp[D_];done)|(simp[D_];omega)|rfl) (by first|(simp only[List.map_append,List.map_cons,List.map_nil,List.append_assoc];done)|(simp[D_];done)|rfl) rfl ?_
 refine GL.shape (i:=0) rfl (λA_pt14 c_pt14 e_pt14 l_pt14 k_pt14=>?_)
 subst e_pt14
 refine AL 2 ?_;refine GC.ret (BR 4 5 [0] [] ?_)
 exact⟨_,_,l_pt14,k_pt14,rfl,rfl,rfl⟩
theorem WS(A:Option Addr)(b:List UInt8)(cp at_ n:Nat)(hn:1<=n)(hn':n<=8)(hb:b.length<=cp)(hb':b.length<=200000000000000)(h:at_+n<=b.length):Ct Tryz.prog 72 [.slice A b.length cp,.int .i64 (at_:Int),.int .i64 (n:Int)] [] [D7.row Kd.u8 A b]
    (λu G Q=>u=.tuple #[.int .u64 ((GH (seg b at_ (at_+n)):Nat):Int),.int .i64 ((at_+n:Nat):Int),.int .i64 0]/\G=[]/\Q=[]):=by
 have hsl:(seg b at_ (at_+n)).length=n:=by rw[seg_length h];omega
 refine Ct.intro Tryz.func72 rfl rfl rfl (λc hc=>?_)
 refine AP 3 ?_;refine AB ?_;refine GC.block ?_;refine AV 1 ?_;refine Ah Tryz.call94 [] [] rfl rfl rfl (by exact VO n hn hn') ?_
 rintro _ _ _ ⟨rfl,rfl,rfl⟩
 refine AL 2 ?_;refine AY rfl ?_;refine AV 3 ?_;refine Ak 19 ?_ ?_
 ·intro h1;try simp only[D6] at h1
  exfalso;omega
 intro h1;try simp only[D6] at h1
 refine AL 6 ?_;refine Af ?_ ?_
 ·intro h2;try simp only[D6] at h2
  exfalso;omega
 intro h2;try simp only[D6] at h2
 refine AV 4 ?_;refine AO rfl (Jv rfl rfl (Fh (by omega) (by omega))) ?_;refine AL 2 ?_;refine Af ?_ ?_
 ·intro h3;try simp only[D6] at h3
  exfalso;omega
 intro h3;try simp only[D6] at h3
 refine GC.skip (?_:GC _ _ _ _)
 refine AP 1 ?_;refine AB ?_;refine AV 4 ?_;refine AO rfl (EU rfl rfl (Fh (by omega) (by omega))) ?_;refine GL.step rfl (PW (j:=0) rfl rfl rfl rfl rfl Tryz.underlying47 Fa (by omega) (by omega) (by omega) (by omega)) ?_
 rw[show((at_:Int)).toNat=at_ from rfl,show((at_:Int)+(n:Int)).toNat=at_+n from rfl]
 refine AL 2 ?_;refine GC.block ?_;refine Bd (ks:=[1,2,37,38]) (is:=[]) (js:=[0,1]) (fun(k:Nat)=>k<=n) (fun(k:Nat)=>[(9,.int .u64 ((GH ((seg b at_ (at_+n)).take k):Nat):Int)),(39,.int .i64 (k:Int))]) (fun(k:Nat)=>[]) (fun(k:Nat)=>[]) (fun(k:Nat)=>n - k) (0) rfl rfl rfl (λa w h=>⟨by omega,h.Hf (is:=[]) (js:=[0,1]) (ks:=[1,2,37,38]) ⟨rfl,rfl,trivial⟩ rfl rfl rfl⟩) ?_
 intro k hk
 try dsimp only[List.cons_append,List.nil_append] at hk ⊢
 refine AP 1 ?_;refine AB ?_;refine Af ?_ ?_
 ·intro h4;try simp only[D6] at h4
  refine GC.skip (?_:GC _ _ _ _)
  refine AB ?_;refine GC.block ?_;refine AV 1 ?_;refine GL.step rfl (Ej (i:=0) rfl rfl rfl rfl Tryz.underlying47 Fa (by omega) (EW (by omega) (by omega))) (Aa λp_x42=>Aa λr_x42=>GL.and λok_x42=>?_)
  rcases r_x42 with _
  refine GL.step rfl (Ed rfl (ES (i:=0) rfl rfl Oa rfl)) ?_;refine AL 2 ?_;refine GC.region ?_;refine AA 2 ?_;refine AO rfl (EO (t:=5) (r:=(((gt (seg b at_ (at_+n)) (k:Int)).toNat:Nat):Int)) (by rw[Tryz.underlying5];simp) Tryz.underlying45 rfl (bn (by omega) (by have:=(gt (seg b at_ (at_+n)) (k:Int)).toNat_lt;omega))) ?_
  refine AA 1 ?_;refine AO rfl (Vr rfl rfl (Fh (by omega) (by omega))) ?_;refine AO rfl (EO (t:=3) (r:=((8 * k:Nat):Int)) (by rw[Tryz.underlying3];simp) Tryz.underlying195 rfl (by rw[bn (by omega) (by omega)];omega)) ?_
  refine AO rfl (p_shlR (r:=(((gt (seg b at_ (at_+n)) (k:Int)).toNat * 256 ^ k:Nat):Int)) rfl rfl (by omega) (shl8 (by omega) (gt (seg b at_ (at_+n)) (k:Int)).toNat_lt)) ?_;refine AO rfl (Vq (r:=((GH ((seg b at_ (at_+n)).take k)+(gt (seg b at_ (at_+n)) (k:Int)).toNat * 256 ^ k:Nat):Int)) rfl rfl (or8 (by omega) (by have:=YG ((seg b at_ (at_+n)).take k);rwa [List.length_take,Nat.min_eq_left (by omega)] at this) (gt (seg b at_ (at_+n)) (k:Int)).toNat_lt)) ?_
  refine AA 1 ?_
  refine Ac (?_:GC _ _ _ _)
  refine GC.region ?_;refine AO rfl (EU rfl rfl (Fh (by omega) (by omega))) ?_;refine AA 1 ?_;refine Ac ?_
  exact λa w h=>⟨(k+1),(by omega),by omega,by rw[LP (by omega),Xf,List.length_take,Nat.min_eq_left (by omega)];exact h.ct [] [1,2]⟩
 intro h4;try simp only[D6] at h4
 refine GC.exit (?_:GC _ _ _ _)
 refine AV 3 ?_;refine AO rfl (EU rfl rfl (Fh (by omega) (by omega))) ?_;refine AL 3 ?_;refine GC.ret (DF 6 7 8 [] [] ?_)
 obtain rfl:k=(seg b at_ (at_+n)).length:=by omega
 rw[List.take_length]
 exact⟨rfl,rfl,rfl⟩
theorem Tn(A:Option Addr)(b:List UInt8)(cp at_ n:Nat)(hn:1<=n)(hn':n<=8)(hb':b.length<=140737488355328)(h1_:at_<=b.length)(h:b.length<at_+n):Ct Tryz.prog 72 [.slice A b.length cp,.int .i64 (at_:Int),.int .i64 (n:Int)] [] [D7.row Kd.u8 A b]
    (λu G Q=>u=.tuple #[.int .u64 0,.int .i64 0,.int .i64 10]/\G=[]/\Q=[]):=by
 refine Ct.intro Tryz.func72 rfl rfl rfl (λc hc=>?_)
 refine AP 3 ?_;refine AB ?_;refine GC.block ?_;refine AV 1 ?_;refine Ah Tryz.call94 [] [] rfl rfl rfl (by exact VO n hn hn') ?_
 rintro _ _ _ ⟨rfl,rfl,rfl⟩
 refine AL 2 ?_;refine AY rfl ?_;refine AV 3 ?_;refine Ak 19 ?_ ?_
 ·intro h1;try simp only[D6] at h1
  exfalso;omega
 intro h1;try simp only[D6] at h1
 refine AL 6 ?_;refine Af ?_ ?_
 ·intro h2;try simp only[D6] at h2
  exfalso;omega
 intro h2;try simp only[D6] at h2
 refine AV 4 ?_;refine AO rfl (Jv rfl rfl (Fh (by omega) (by omega))) ?_;refine AL 2 ?_;refine Af ?_ ?_
 ·intro h3;try simp only[D6] at h3
  refine AP 3 ?_;refine GC.ret (DF 6 7 8 [] [] ?_)
  exact⟨rfl,rfl,rfl⟩
 intro h3;try simp only[D6] at h3
 exfalso;omega
theorem X9(A:Option Addr)(x:List UInt8)(cp:Nat)(B:Option Addr)(y:List UInt8)(cq:Nat)(hl:x.length<=140737488355328):Ct Tryz.prog 108 [.slice A x.length cp,.slice B y.length cq] [] [D7.row Kd.u8 A x,D7.row Kd.u8 B y] (λu G Q=>u=.bool (decide (x=y))/\G=[]/\Q=[]):=by
 refine Ct.intro Tryz.func108 rfl rfl rfl (λc hc=>?_)
 refine AP 1 ?_;refine AB ?_;refine AP 5 ?_;refine Af ?_ ?_
 ·intro h1;try simp only[D6] at h1
  refine AP 1 ?_;refine GC.ret (AQ 4 [] [] ?_)
  exact dP
 intro h1;try simp only[D6] at h1
 refine GC.skip (?_:GC _ _ _ _)
 refine AB ?_;refine AP 3 ?_;refine GC.block ?_;refine Bd (ks:=[0,1,12]) (is:=[]) (js:=[0,1]) (fun(k:Nat)=>k<=x.length/\∀j:Nat,j<k->gt x (j:Int)=gt y (j:Int)) (fun(k:Nat)=>[(13,.int .i64 (k:Int))]) (fun(k:Nat)=>[]) (fun(k:Nat)=>[]) (fun(k:Nat)=>x.length - k) (0) rfl rfl rfl (λa w h=>⟨⟨by omega,λj hj=>by omega⟩,h.Hf (is:=[]) (js:=[0,1]) (ks:=[0,1,12]) ⟨rfl,trivial⟩ rfl rfl rfl⟩) ?_
 intro k hk
 try dsimp only[List.cons_append,List.nil_append] at hk ⊢
 obtain⟨hk,he⟩:=hk
 refine AP 1 ?_;refine AB ?_;refine Af ?_ ?_
 ·intro h2;try simp only[D6] at h2
  refine GC.skip (?_:GC _ _ _ _)
  refine AB ?_;refine GC.block ?_;refine AP 2 ?_;refine AB ?_;refine BM (y:=.tmp 5) (j:=0) rfl rfl (by omega) (EW (by omega) (by omega)) (λp_x18 Vh iw gQ=>?_)
  rcases Vh with _
  refine BM (y:=.tmp 5) (j:=2) rfl rfl (by omega) (EW (by omega) (by omega)) (λkY RZ Tj Yf=>?_)
  rcases RZ with _
  refine BP Ef (by kernel_rfl) ?_;refine Am 2 ?_;refine GQ.step rfl (EP (Eb iw rfl rfl Tryz.underlying47 Fa (by omega) (by omega))) ?_;refine GQ.step rfl (Ea (ES (i:=1) rfl rfl Oa rfl)) ?_
  refine Am 2 ?_;refine GQ.step rfl (EP (Eb Tj rfl rfl Tryz.underlying47 Fa (by omega) (by omega))) ?_;refine GQ.step rfl (Ea (ES (i:=0) rfl rfl Oa rfl)) ?_;refine Am 1 ?_
  refine BO (?_:GC _ _ _ _)
  refine Af ?_ ?_
  ·intro h3;try simp only[D6] at h3
   refine AP 1 ?_;refine GC.ret (AQ 4 [] [] ?_)
   exact zq14_
  intro h3;try simp only[D6] at h3
  refine GC.skip (?_:GC _ _ _ _)
  refine GC.region ?_;refine AO rfl (EU rfl rfl (Fh (by omega) (by omega))) ?_;refine AA 1 ?_;refine Ac ?_
  exact λa w h=>⟨(k+1),(by omega),⟨by omega,λj hj=>(Nat.lt_succ_iff_lt_or_eq.1 hj).elim (he j) (λe=>by subst e;exact UInt8.toNat_inj.1 (by omega))⟩,h.ct [] [2,3]⟩
 intro h2;try simp only[D6] at h2
 refine GC.exit (?_:GC _ _ _ _)
 refine AP 1 ?_;refine GC.ret (AQ 4 [] [] ?_)
 exact zq15_
theorem aT(v:Nat):FK 4 v=[UInt8.ofNat (v % 256),UInt8.ofNat (v / 256 ^ 1 % 256),UInt8.ofNat (v / 256 ^ 2 % 256),UInt8.ofNat (v / 256 ^ 3 % 256)]:=by
 simp[FK,Nat.div_div_eq_div_mul]
abbrev W_(b:List UInt8):BitVec 32:=Rw 0#32 b
def Gy(b:List UInt8):List UInt8:=b++FK 4 (W_ b).toNat
theorem ML(b:List UInt8):(Gy b).length=b.length+4:=by simp[Gy,D_]
theorem shr1(v:Nat):(v:Int).fdiv (2 ^ (min (8:Int).toNat IntKind.u32.bits))=((v / 256 ^ 1:Nat):Int):=by
 rw[show min (8:Int).toNat IntKind.u32.bits=8 from rfl,<-nI];rfl
theorem shr2(v:Nat):(v:Int).fdiv (2 ^ (min (16:Int).toNat IntKind.u32.bits))=((v / 256 ^ 2:Nat):Int):=by
 rw[show min (16:Int).toNat IntKind.u32.bits=16 from rfl,<-nI];rfl
theorem shr3(v:Nat):(v:Int).fdiv (2 ^ (min (24:Int).toNat IntKind.u32.bits))=((v / 256 ^ 3:Nat):Int):=by
 rw[show min (24:Int).toNat IntKind.u32.bits=24 from rfl,<-nI];rfl
theorem cseal_ct(A:Option Addr)(b:List UInt8)(cp:Nat)(s:BitVec 32)(hb:b.length<=10000000000000):Ct Tryz.prog 102 [.slice A b.length cp,w32 s] [] [D7.row Kd.u8 A b]
    (λu G Q=>∃A' cp',(b++FK 4 s.toNat).length<=cp'/\cp'<=9223372036854775807/\u=.slice A' (b++FK 4 s.toNat).length cp'/\G=[rowOf A' cp' (b++FK 4 s.toNat)]/\Q=[]):=by
 refine Ct.intro Tryz.func102 rfl rfl rfl (λc hc=>?_)
 refine AP 1 ?_;refine AV 1 ?_;refine Ah Tryz.call95 [] [0] rfl rfl rfl (by exact MS _ _ _ (by first|assumption|omega)) ?_
 rintro _ _ _ ⟨A6,cp6,l6,k6,rfl,rfl,rfl⟩
 refine AA 1 ?_;refine AO rfl (EO (t:=27) (by rw[Tryz.underlying27];simp) Tryz.underlying5 rfl (Qk _)) ?_
 refine AA 1 ?_;refine AO rfl (Pj rfl rfl (by decide) (shr1 _)) ?_;refine AO rfl (EO (t:=27) (by rw[Tryz.underlying27];simp) Tryz.underlying5 rfl (Qk _)) ?_
 refine AA 1 ?_;refine AO rfl (Pj rfl rfl (by decide) (shr2 _)) ?_;refine AO rfl (EO (t:=27) (by rw[Tryz.underlying27];simp) Tryz.underlying5 rfl (Qk _)) ?_
 refine AA 1 ?_;refine AO rfl (Pj rfl rfl (by decide) (shr3 _)) ?_;refine AO rfl (EO (t:=27) (by rw[Tryz.underlying27];simp) Tryz.underlying5 rfl (Qk _)) ?_
 refine GL.step rfl (EC rfl Tryz.underlying47 Fa Jd rfl rfl rfl rfl rfl rfl) (Aa λb_t18=>?_);refine GL.step rfl (Eh (i:=1) (k:=0) rfl Fv rfl rfl rfl rfl rfl (EX rfl) (by simp;omega) (λ_=>rfl)) (Aa λv19=>?_)
 refine GL.rowIs (i:=1) (m':=((b++FK 4 s.toNat)).length) (cs':=((b++FK 4 s.toNat)).map JE) rfl (by first|(simp only[List.length_append,List.length_cons,List.length_nil,List.append_assoc];done)|(simp only[List.length_append,List.length_cons,List.length_nil,List.append_assoc];omega)|(simp[aT];done)|(simp[aT];omega)|rfl) (by first|(simp only[List.map_append,List.map_cons,List.map_nil,List.append_assoc];done)|(simp[aT];done)|rfl) rfl ?_
 refine GL.shape (i:=1) rfl (λA_cl6 c_cl6 e_cl6 l_cl6 k_cl6=>?_)
 subst e_cl6
 refine AL 1 ?_;refine GC.ret (AQ 4 [1] [] ?_)
 exact⟨_,_,l_cl6,k_cl6,rfl,rfl,rfl⟩
theorem lendF{bL cp e:Nat}{A:Option Addr}{b:List UInt8}{Q:List D7}{j:Nat}(hj:FB Q j=some (D7.row Kd.u8 A b))(h:b.length<=cp)(h':cp<=9223372036854775807):∀(w:World) (S:Blocks),(∀o∈[Own.cells bL [.slice A b.length cp] e],o.holds w)->(∀k∈keysOf [Own.cells bL [.slice A b.length cp] e],S k)->(∀q∈Q,q.h w S)->∀q∈[D7.row Fz (some ⟨bL,0,none⟩) [b]],q.h w S:=λw S ho hS hQ q hq=>by
 rw[List.mem_singleton.1 hq]
 have hL:=ho _ (List.mem_cons_self ..)
 have h1:S bL:=hS _ (by simp[keysOf,Own.keys])
 have hb:=hQ _ (FI hj)
 refine .inr ⟨⟨bL,0,none⟩,rfl,h1,(Array.getElem?_eq_some_iff.1 hL).1,λi x hx=>?_⟩
 cases i with
 |succ i=>simp at hx
 |zero =>
  simp only[List.getElem?_cons_zero,Option.some.injEq] at hx
  subst hx
  refine⟨[.slice A b.length cp],⟨(A,cp),⟨h,h'⟩,rfl,λq hq=>?_⟩,?_⟩
  ·rw[List.mem_singleton.1 hq];exact hb
  ·rw[Nat.zero_mul,add_zero]
   exact Jj hL (λj u hj=>by simpa using hj)
theorem XB(A:Option Addr)(b:List UInt8)(cp:Nat)(hb:b.length<=10000000000000)(hcp:b.length<=cp)(Gl:cp<=9223372036854775807):Ct Tryz.prog 69 [.slice A b.length cp] [] [D7.row Kd.u8 A b]
    (λu G Q=>∃A' cp',(Gy b).length<=cp'/\cp'<=9223372036854775807/\u=.slice A' (Gy b).length cp'/\G=[rowOf A' cp' (Gy b)]/\Q=[]):=by
 refine Ct.intro Tryz.func69 rfl rfl rfl (λc hc=>?_)
 refine AP 1 ?_;refine AV 2 ?_;refine GL.step rfl (EC rfl Tryz.underlying81 Ls jl rfl rfl rfl rfl rfl rfl) (Aa λRD=>?_);refine GL.step rfl (t_lend rfl Tryz.call103 rfl (is:=[]) (ls:=[0]) (js:=[]) rfl rfl rfl (lendF (A:=A) (b:=b) (cp:=cp) (j:=0) (by exact rfl) hcp Gl) (by exact csum_ct _ b _ (by omega)) (by rintro _ _ _ ⟨rfl,rfl,rfl⟩;rfl)) (GL.retL ?_)
 rintro _ _ ⟨rfl,rfl,_⟩
 refine Ah Tryz.call102 [] [0] rfl rfl rfl (by exact cseal_ct _ b _ (W_ b) hb) ?_
 rintro _ _ _ ⟨A7,cp7,l7,k7,rfl,rfl,rfl⟩
 refine AL 1 ?_;refine GC.ret (AQ 2 [0] [] ?_)
 exact⟨_,_,l7,k7,rfl,rfl,rfl⟩
theorem copen_ok(A:Option Addr)(b:List UInt8)(cp:Nat)(hb:b.length<=10000000000000)(hcp:b.length<=cp)(Gl:cp<=9223372036854775807)(h4:4<=b.length)(ho:Gy (seg b 0 (b.length - 4))=b):Ct Tryz.prog 73 [.slice A b.length cp] [] [D7.row Kd.u8 A b]
    (λu G Q=>∃A' cp',(seg b 0 (b.length - 4)).length<=cp'/\cp'<=9223372036854775807/\u=.tuple #[.slice A' (seg b 0 (b.length - 4)).length cp',.int .i64 0]/\G=[rowOf A' cp' (seg b 0 (b.length - 4))]/\Q=[]):=by
 have hsl:(seg b 0 (b.length - 4)).length=b.length - 4:=by rw[seg_length (by omega)];omega
 have e4:((b.length:Int) - 4).toNat=b.length - 4:=by omega
 refine Ct.intro Tryz.func73 rfl rfl rfl (λc hc=>?_)
 refine AP 2 ?_;refine AB ?_;refine AP 3 ?_;refine Af ?_ ?_
 ·intro h1;try simp only[D6] at h1
  exfalso;omega
 intro h1;try simp only[D6] at h1
 refine GC.skip (?_:GC _ _ _ _)
 refine AV 3 ?_;refine AO rfl (Jv rfl rfl (Fh (by omega) (by omega))) ?_;refine GL.step rfl (QE (j:=0) rfl rfl rfl rfl Tryz.underlying47 Fa (by omega) (by omega) (by omega)) ?_
 rw[e4]
 refine AL 1 ?_;refine AB ?_;refine AV 1 ?_;refine Ah Tryz.call69 [] [0] rfl rfl rfl (by exact XB _ (seg b 0 (b.length - 4)) _ (by omega) (by omega) (by omega)) ?_
 rintro _ _ _ ⟨A14,XA,l14,k14,rfl,rfl,rfl⟩
 refine GL.EN (i:=0) rfl ?_;refine AA 1 ?_;refine Ah Tryz.call108 [] [0,2] rfl rfl rfl (by exact X9 _ (Gy (seg b 0 (b.length - 4))) _ _ b _ (by rw[ML];omega)) ?_
 rintro _ _ _ ⟨rfl,rfl,rfl⟩
 refine AL 1 ?_;refine Af ?_ ?_
 ·intro h2;try simp only[D6] at h2
  refine AP 2 ?_;refine GC.ret (BR 2 3 [] [] ?_)
  exact absurd ho (by assumption)
 intro h2;try simp only[D6] at h2
 refine GC.skip (?_:GC _ _ _ _)
 refine AV 1 ?_;refine Ah Tryz.call95 [] [1] rfl rfl rfl (by exact MS _ (seg b 0 (b.length - 4)) _ (by omega)) ?_
 rintro _ _ _ ⟨A19,ru,l19,k19,rfl,rfl,rfl⟩
 refine AL 2 ?_;refine GC.ret (BR 2 3 [0] [] ?_)
 exact⟨_,_,l19,k19,rfl,rfl,rfl⟩
theorem sH(A:Option Addr)(b:List UInt8)(cp:Nat)(hb:b.length<=10000000000000)(hcp:b.length<=cp)(Gl:cp<=9223372036854775807)(h4:4<=b.length)(ho:¬Gy (seg b 0 (b.length - 4))=b):Ct Tryz.prog 73 [.slice A b.length cp] [] [D7.row Kd.u8 A b]
    (λu G Q=>u=.tuple #[.slice none 0 0,.int .i64 31]/\G=[]/\Q=[]):=by
 have hsl:(seg b 0 (b.length - 4)).length=b.length - 4:=by rw[seg_length (by omega)];omega
 have e4:((b.length:Int) - 4).toNat=b.length - 4:=by omega
 refine Ct.intro Tryz.func73 rfl rfl rfl (λc hc=>?_)
 refine AP 2 ?_;refine AB ?_;refine AP 3 ?_;refine Af ?_ ?_
 ·intro h1;try simp only[D6] at h1
  exfalso;omega
 intro h1;try simp only[D6] at h1
 refine GC.skip (?_:GC _ _ _ _)
 refine AV 3 ?_;refine AO rfl (Jv rfl rfl (Fh (by omega) (by omega))) ?_;refine GL.step rfl (QE (j:=0) rfl rfl rfl rfl Tryz.underlying47 Fa (by omega) (by omega) (by omega)) ?_
 rw[e4]
 refine AL 1 ?_;refine AB ?_;refine AV 1 ?_;refine Ah Tryz.call69 [] [0] rfl rfl rfl (by exact XB _ (seg b 0 (b.length - 4)) _ (by omega) (by omega) (by omega)) ?_
 rintro _ _ _ ⟨A14,XA,l14,k14,rfl,rfl,rfl⟩
 refine GL.EN (i:=0) rfl ?_;refine AA 1 ?_;refine Ah Tryz.call108 [] [0,2] rfl rfl rfl (by exact X9 _ (Gy (seg b 0 (b.length - 4))) _ _ b _ (by rw[ML];omega)) ?_
 rintro _ _ _ ⟨rfl,rfl,rfl⟩
 refine AL 1 ?_;refine Af ?_ ?_
 ·intro h2;try simp only[D6] at h2
  refine AP 2 ?_;refine GC.ret (BR 2 3 [] [] ?_)
  exact⟨rfl,rfl,rfl⟩
 intro h2;try simp only[D6] at h2
 refine GC.skip (?_:GC _ _ _ _)
 refine AV 1 ?_;refine Ah Tryz.call95 [] [1] rfl rfl rfl (by exact MS _ (seg b 0 (b.length - 4)) _ (by omega)) ?_
 rintro _ _ _ ⟨A19,ru,l19,k19,rfl,rfl,rfl⟩
 refine AL 2 ?_;refine GC.ret (BR 2 3 [] [] ?_)
 exact absurd (by assumption) ho
def headB(body:List UInt8):List UInt8:=[80,76,4,0]++FK 8 0++FK 4 body.length++body
def HY(body:List UInt8):List UInt8:=Gy (headB body)
theorem Qa(body:List UInt8):(headB body).length=body.length+16:=by simp[headB,D_];omega
theorem LJ(body:List UInt8):(HY body).length=body.length+20:=by rw[HY,ML,Qa]
theorem qx(A:Option Addr)(b:List UInt8)(cp:Nat)(hb:b.length<=16777216):Ct Tryz.prog 43 [.agg #[.int .u8 4,.int .u64 0,.slice A b.length cp]] [] [D7.row Kd.u8 A b]
    (λu G Q=>∃A' cp',(HY b).length<=cp'/\cp'<=9223372036854775807/\u=.tuple #[.slice A' (HY b).length cp',.int .i64 0]/\G=[rowOf A' cp' (HY b)]/\Q=[]):=by
 refine Ct.intro Tryz.func43 rfl rfl rfl (λc hc=>?_)
 refine AX ?_;refine GL.step rfl (Ee rfl rfl rfl) (Aa λIJ=>?_);refine AL 2 ?_;refine AV 1 ?_;refine Ad 0 ?_;refine GL.step rfl (EC rfl Tryz.underlying47 Fa Jd rfl rfl rfl rfl rfl rfl) (Aa λb_t10=>?_)
 refine GL.FD (enc:=JE) (xs:=[(80:UInt8),76,4,0]) (h1:=λ_=>rfl) (i:=0) rfl ?_;refine AA 1 ?_;refine Ad 0 ?_;refine Ah Tryz.call66 [] [0] rfl rfl rfl (by exact Uz _ [(80:UInt8),76,4,0] _ 0 8 (by omega) (by omega) (by simp) (by decide)) ?_
 rintro _ _ _ ⟨A13,sD,tH,k13,rfl,rfl,rfl⟩
 refine AL 5 ?_;refine AV 2 ?_;refine Ad 1 ?_;refine GL.EN (i:=0) rfl ?_;refine Ah Tryz.call68 [] [0,2] rfl rfl rfl (by exact NI _ ([(80:UInt8),76,4,0]++FK 8 0) _ _ b _ (by simp[D_]) hb) ?_
 rintro _ _ _ ⟨YA,cp20,V9,k20,rfl,rfl,rfl⟩
 refine AL 5 ?_;refine AB ?_;refine AP 2 ?_;refine AY rfl ?_
 refine GC.skip (?_:GC _ _ _ _)
 refine AX ?_;refine GL.EN (i:=0) rfl ?_;refine AA 1 ?_;refine Ah Tryz.call69 [] [0] rfl rfl rfl (by exact XB _ (headB b) _ (by rw[Qa];omega) V9 k20) ?_
 rintro _ _ _ ⟨A27,jF,mQ,k27,rfl,rfl,rfl⟩
 refine AL 2 ?_;refine GC.ret (BR 2 3 [0] [] ?_)
 exact⟨_,_,mQ,k27,rfl,rfl,rfl⟩
theorem Uo{α:Type}{b:List α}{m l h:Nat}(hh:h<=m):seg (seg b 0 m) l h=seg b l h:=by
 simp only[seg,List.drop_zero,List.take_take,Nat.min_eq_left hh]
theorem gt_seg{b:List UInt8}{m:Nat}{i:Nat}(hi:i<m):gt (seg b 0 m) (i:Int)=gt b (i:Int):=by
 simp only[gt,seg,List.drop_zero,Int.toNat_natCast,List.getD_eq_getElem?_getD,List.getElem?_take,if_pos hi]
abbrev Jc(b:List UInt8):Nat:=GH (seg b 12 (12+4))
def XM(b:List UInt8):Int :=
 if b.length<16 then 10
 else if ¬((gt b 0).toNat=80/\(gt b 1).toNat=76/\(gt b 3).toNat=0/\Jc b<=16777216) then 30
 else if b.length<Jc b+20 then 10
 else if ¬Gy (seg b 0 (Jc b+16))=seg b 0 (Jc b+20) then 31 else 0
theorem rd1{b:List UInt8}(h:b.length<16):XM b=10:=if_pos h
theorem rd2{b:List UInt8}(h:¬b.length<16)(h2:¬((gt b 0).toNat=80/\(gt b 1).toNat=76/\(gt b 3).toNat=0/\Jc b<=16777216)):XM b=30:=by rw[XM,if_neg h,if_pos h2]
theorem rd3{b:List UInt8}(h:¬b.length<16)(h2:(gt b 0).toNat=80/\(gt b 1).toNat=76/\(gt b 3).toNat=0/\Jc b<=16777216)(h3:b.length<Jc b+20):XM b=10:=by rw[XM,if_neg h,if_neg (not_not_intro h2),if_pos h3]
theorem rd4{b:List UInt8}(h:¬b.length<16)(h2:(gt b 0).toNat=80/\(gt b 1).toNat=76/\(gt b 3).toNat=0/\Jc b<=16777216)(h3:¬b.length<Jc b+20)(h4:¬Gy (seg b 0 (Jc b+16))=seg b 0 (Jc b+20)):XM b=31:=by rw[XM,if_neg h,if_neg (not_not_intro h2),if_neg h3,if_pos h4]
theorem rd5{b:List UInt8}(h:¬b.length<16)(h2:(gt b 0).toNat=80/\(gt b 1).toNat=76/\(gt b 3).toNat=0/\Jc b<=16777216)(h3:¬b.length<Jc b+20)(h4:Gy (seg b 0 (Jc b+16))=seg b 0 (Jc b+20)):XM b=0:=by rw[XM,if_neg h,if_neg (not_not_intro h2),if_neg h3,if_neg (not_not_intro h4)]
theorem sG(A:Option Addr)(b:List UInt8)(cp:Nat)(y:List UInt8)(hy:seg b 0 (b.length - 4)=y)(hb:b.length<=10000000000000)(hcp:b.length<=cp)(Gl:cp<=9223372036854775807)(h4:4<=b.length)(ho:Gy y=b):Ct Tryz.prog 73 [.slice A b.length cp] [] [D7.row Kd.u8 A b]
  (λu G Q=>∃A' cp',y.length<=cp'/\cp'<=9223372036854775807/\u=.tuple #[.slice A' y.length cp',.int .i64 0]/\G=[rowOf A' cp' y]/\Q=[]):=by
 subst hy;exact copen_ok A b cp hb hcp Gl h4 ho
def rdR(b:List UInt8)(k s:Int)(bd:List UInt8)(n:Int):Prop:=XM b=0->k=((gt b 2).toNat:Int)/\s=((GH (seg b 4 12):Nat):Int)/\bd=seg b 16 (Jc b+16)/\n=((Jc b+20:Nat):Int)/\Jc b+20<=b.length
theorem Nh{X:Prop}(h:X:=by(exact⟨0,0,none,[],0,0,by simp,by simp,λh=>by omega,by rw[e];rfl,rfl,rfl⟩)):X:=h
theorem bD(A:Option Addr)(b:List UInt8)(cp:Nat)(hb:b.length<=200000000000000)(hcp:b.length<=cp)(Gl:cp<=9223372036854775807):Ct Tryz.prog 47 [.slice A b.length cp,.int .i64 0] [] [D7.row Kd.u8 A b]
    (λu G Q=>∃k s A' bd c' n,bd.length<=c'/\c'<=9223372036854775807/\rdR b k s bd n/\u=.tuple #[.agg #[.int .u8 k,.int .u64 s,.slice A' bd.length c'],.int .i64 n,.int .i64 (XM b)]/\G=[]/\Q=[D7.row Kd.u8 A' bd]):=by
 have hrd:GH (seg b 12 (12+4))=Jc b:=rfl
 refine Ct.intro Tryz.func47 rfl rfl rfl (λc hc=>?_)
 refine AX ?_;refine GL.step rfl (EH rfl H6) (Aa λKZ=>?_);refine AL 2 ?_;refine AB ?_;refine AV 3 ?_;refine Ak 19 ?_ ?_
 ·intro h1;try simp only[D6] at h1
  exfalso;omega
 intro h1;try simp only[D6] at h1
 refine AL 5 ?_;refine Af ?_ ?_
 ·intro h2;try simp only[D6] at h2
  exfalso;omega
 intro h2;try simp only[D6] at h2
 refine GC.skip (?_:GC _ _ _ _)
 refine AV 2 ?_;refine GL.step rfl (Jk (j:=0) rfl rfl rfl rfl Tryz.underlying47 Fa (by omega) (by omega) (by omega)) ?_
 rw[show(0:Int).toNat=0 from rfl,RS]
 refine AL 1 ?_;refine AB ?_;refine AP 3 ?_;refine Af ?_ ?_
 ·intro h3;try simp only[D6] at h3
  refine AX ?_;refine AO rfl (ED H6 JA rfl rfl) ?_;refine Ar 0 ?_;refine AL 2 ?_;refine GC.know (q:=D7.row Kd.u8 none []) (λ_ _ _=>.inl rfl) ?_;refine GC.ret (Fin.c2 4 121 5 6 0 3 [] [0] ?_)
  have e:=rd1 (b:=b) (by omega)
  exact Nh
 intro h3;try simp only[D6] at h3
 refine GC.skip (?_:GC _ _ _ _)
 refine AV 1 ?_;refine Ah Tryz.call72 [] [0] rfl rfl rfl (by exact WS _ b _ 12 4 (by omega) (by omega) (by omega) (by omega) (by omega)) ?_
 rintro _ _ _ ⟨rfl,rfl,rfl⟩
 refine AL 7 ?_;refine AB ?_;refine AV 1 ?_;refine GL.step rfl (Ej (i:=0) rfl rfl rfl rfl Tryz.underlying47 Fa (by omega) (EW (by omega) (by omega))) (Aa λp_x40=>Aa λr_x40=>GL.and λok_x40=>?_)
 rcases r_x40 with _
 refine GL.step rfl (Ed rfl (ES (i:=0) rfl rfl Oa rfl)) ?_;refine AA 2 ?_;refine Ak 43 ?_ ?_
 ·intro h4;try simp only[D6] at h4
  refine AL 15 ?_;refine AU rfl ?_;refine AX ?_;refine AO rfl (ED H6 JA rfl rfl) ?_;refine Ar 0 ?_;refine AL 2 ?_;refine GC.know (q:=D7.row Kd.u8 none []) (λ_ _ _=>.inl rfl) ?_
  refine GC.ret (Fin.c2 4 121 5 6 0 3 [] [0] ?_)
  have e:=rd2 (b:=b) (by omega) (by omega)
  exact Nh
 intro h4;try simp only[D6] at h4
 refine AA 1 ?_;refine Au rfl (s:=43) rfl rfl (Ej (i:=1) rfl rfl rfl rfl Tryz.underlying47 Fa (by omega) (EW (by omega) (by omega))) (Aa λp_x45=>Aa λr_x45=>GL.and λok_x45=>?_)
 rcases r_x45 with _
 refine Au rfl (s:=43) rfl rfl (Ed rfl (ES (i:=0) rfl rfl Oa rfl)) ?_;refine AA 3 ?_;refine Ak 49 ?_ ?_
 ·intro h5;try simp only[D6] at h5
  refine AL 9 ?_;refine AU rfl ?_;refine AX ?_;refine AO rfl (ED H6 JA rfl rfl) ?_;refine Ar 0 ?_;refine AL 2 ?_;refine GC.know (q:=D7.row Kd.u8 none []) (λ_ _ _=>.inl rfl) ?_
  refine GC.ret (Fin.c2 4 121 5 6 0 3 [] [0] ?_)
  have e:=rd2 (b:=b) (by omega) (by omega)
  exact Nh
 intro h5;try simp only[D6] at h5
 refine AA 1 ?_;refine Au rfl (s:=49) rfl rfl (Ej (i:=2) rfl rfl rfl rfl Tryz.underlying47 Fa (by omega) (EW (by omega) (by omega))) (Aa λp_x51=>Aa λr_x51=>GL.and λok_x51=>?_)
 rcases r_x51 with _
 refine Au rfl (s:=49) rfl rfl (Ed rfl (ES (i:=0) rfl rfl Oa rfl)) ?_;refine AA 3 ?_;refine Ak 55 ?_ ?_
 ·intro h6;try simp only[D6] at h6
  refine AL 3 ?_;refine AU rfl ?_;refine AX ?_;refine AO rfl (ED H6 JA rfl rfl) ?_;refine Ar 0 ?_;refine AL 2 ?_;refine GC.know (q:=D7.row Kd.u8 none []) (λ_ _ _=>.inl rfl) ?_
  refine GC.ret (Fin.c2 4 121 5 6 0 3 [] [0] ?_)
  have e:=rd2 (b:=b) (by omega) (by omega)
  exact Nh
 intro h6;try simp only[D6] at h6
 refine AL 3 ?_;refine Af ?_ ?_
 ·intro h7;try simp only[D6] at h7
  refine AX ?_;refine AO rfl (ED H6 JA rfl rfl) ?_;refine Ar 0 ?_;refine AL 2 ?_;refine GC.know (q:=D7.row Kd.u8 none []) (λ_ _ _=>.inl rfl) ?_;refine GC.ret (Fin.c2 4 121 5 6 0 3 [] [0] ?_)
  have e:=rd2 (b:=b) (by omega) (by omega)
  exact Nh
 intro h7;try simp only[D6] at h7
 refine GC.skip (?_:GC _ _ _ _)
 refine AV 1 ?_
 have hnn:Jc b<=16777216:=by omega
 refine AO rfl (EO (t:=45) (r:=((Jc b:Nat):Int)) (by rw[Tryz.underlying45];simp) Tryz.underlying3 rfl (W9 (by omega) (by omega))) ?_;refine AO rfl (EU rfl rfl (Fh (by omega) (by omega))) ?_
 refine AL 1 ?_;refine AB ?_;refine AP 4 ?_;refine Af ?_ ?_
 ·intro h8;try simp only[D6] at h8
  refine AX ?_;refine AO rfl (ED H6 JA rfl rfl) ?_;refine Ar 0 ?_;refine AL 2 ?_;refine GC.know (q:=D7.row Kd.u8 none []) (λ_ _ _=>.inl rfl) ?_;refine GC.ret (Fin.c2 4 121 5 6 0 3 [] [0] ?_)
  have e:=rd3 (b:=b) (by omega) (by omega) (by omega)
  exact Nh
 intro h8;try simp only[D6] at h8
 refine GC.skip (?_:GC _ _ _ _)
 refine AB ?_
 have hsl:(seg b 0 (Jc b+20)).length=Jc b+20:=by rw[seg_length (by omega)];omega
 have hbl:(seg b 0 (Jc b+16)).length=Jc b+16:=by rw[seg_length (by omega)];omega
 have hsg:seg (seg b 0 (Jc b+20)) 0 ((seg b 0 (Jc b+20)).length - 4)=seg b 0 (Jc b+16):=by rw[hsl];exact Uo (by omega)
 by_cases ho:Gy (seg b 0 (Jc b+16))=seg b 0 (Jc b+20)
 ·skip
  refine GC.region ?_;refine AA 2 ?_;refine GL.step rfl (QE (j:=3) rfl rfl rfl rfl Tryz.underlying47 Fa (by omega) (by omega) (by omega)) ?_
  rw[show(((Jc b:Nat):Int)+20).toNat=Jc b+20 from rfl]
  refine Ah Tryz.call73 [] [0] rfl rfl rfl (by exact sG _ (seg b 0 (Jc b+20)) _ (seg b 0 (Jc b+16)) hsg (by omega) (by omega) (by omega) (by omega) ho) ?_
  rintro _ _ _ ⟨A72,cp72,l72,k72,rfl,rfl,rfl⟩
  refine AA 5 ?_
  refine Ac (?_:GC _ _ _ _)
  refine AB ?_;refine AP 2 ?_;refine AY rfl ?_
  refine GC.skip (?_:GC _ _ _ _)
  refine AB ?_;refine GC.EN (i:=0) rfl ?_;refine GC.region ?_;refine AA 1 ?_;refine Ah Tryz.call72 [] [0] rfl rfl rfl (by exact WS _ (seg b 0 (Jc b+16)) _ 4 8 (by omega) (by omega) l72 (by omega) (by omega)) ?_
  rintro _ _ _ ⟨rfl,rfl,rfl⟩
  refine AA 7 ?_
  refine Ac (?_:GC _ _ _ _)
  refine AB ?_;refine BM (y:=.const (.int .i64 (2))) (j:=0) rfl rfl (by omega) (EW (by omega) (by omega)) (λp_x85 r_x85 iR ok_x85=>?_)
  rcases r_x85 with _
  refine BF (m:=13) (is:=[]) (js:=(up 0 8)) Ef rfl rfl rfl ?_;refine AZ 0 [] (up 0 8) ?_;refine BA 1 rfl [] (up 0 8) (EK (Eb iR rfl rfl Tryz.underlying47 Fa (by omega) (by omega))) ?_
  refine BA 2 rfl [] (up 0 8) (i_mem (ES (i:=0) rfl rfl Oa rfl)) ?_;refine AZ 3 [] (up 0 8) ?_;refine AZ 4 [] (up 0 8) ?_;refine AZ 7 [] (up 0 8) ?_;refine AZ 8 [] (up 0 8) ?_;refine BA 9 rfl [] (up 0 8) (EK (EU rfl rfl (Fh (by omega) (by omega)))) ?_
  refine Aw [5] ?_
  refine E8.cons (i:=5) rfl rfl (Jk (j:=1) rfl rfl rfl rfl Tryz.underlying47 Fa (by omega) (by omega) (by omega)) (by rintro a w h;exact h.me [] (up 1 8)) ?_ Ag
  refine BA 6 rfl [] (up 1 8) (EK (ED H6 JA rfl rfl)) ?_;refine Aw [10] ?_
  refine E8.cons (i:=10) rfl rfl (EZ (i:=0) rfl rfl rfl dh rfl rfl rfl) (by rintro a w h;exact h.me [] (up 1 8)) ?_ Ag
  refine AZ 11 [] (up 1 8) ?_;refine AZ 12 [] (up 1 8) ?_
  refine BG (by kernel_rfl) (?_:GC _ _ _ _)
  refine GC.ret (Fin.c2 4 121 5 6 0 3 [] [0] ?_)
  have e:=rd5 (b:=b) (by omega) (by omega) (by omega) ho
  refine⟨_,_,_,_,_,_,?_,?_,?_,by rw[e];rfl,rfl,rfl⟩
  ·rw[seg_length (by omega),hbl];show Jc b+16 - 16<=cp72 - 16;omega
  ·show cp72 - 16<=_;omega
  exact λh=>⟨by rw[show(2:Int)=((2:Nat):Int) from rfl,gt_seg (by omega)],by rw[Uo (by omega)],by rw[hbl];exact Uo (by omega),by omega,by omega⟩
 skip
 refine GC.region ?_;refine AA 2 ?_;refine GL.step rfl (QE (j:=3) rfl rfl rfl rfl Tryz.underlying47 Fa (by omega) (by omega) (by omega)) ?_
 rw[show(((Jc b:Nat):Int)+20).toNat=Jc b+20 from rfl]
 refine Ah Tryz.call73 [] [0] rfl rfl rfl (by exact sH _ (seg b 0 (Jc b+20)) _ (by omega) (by omega) (by omega) (by omega) (by rw[hsg];exact ho)) ?_
 rintro _ _ _ ⟨rfl,rfl,rfl⟩
 refine AA 5 ?_
 refine Ac (?_:GC _ _ _ _)
 refine AB ?_;refine AP 2 ?_;refine AU rfl ?_;refine AX ?_;refine AO rfl (ED H6 JA rfl rfl) ?_;refine Ar 0 ?_;refine AL 2 ?_;refine GC.know (q:=D7.row Kd.u8 none []) (λ_ _ _=>.inl rfl) ?_
 refine GC.ret (Fin.c2 4 121 5 6 0 3 [] [0] ?_)
 have e:=rd4 (b:=b) (by omega) (by omega) (by omega) ho
 exact Nh
structure KF where
 b:List UInt8
 bad:Bool
 deriving Inhabited,DecidableEq
def kPkt:Kd KF:=Cj (BU Fz (Kd.bool)) (λr=>(r.b,r.bad))
end Go.Proofs.YtliacpkblicnhaaGreat
namespace Go.Proofs.YtliacpkblicnhaaGreat
open Go Go.Sx Go.Proofs
section
variable (p:Nat)(z:Int)(P:Value)(a b:Int)
theorem bytes_ct(d s:Int)(M:Value)(A:Option Addr)(l:List KF)(cp:Nat)(i:Int)(h0:0<=i)(h1:i<(l.length:Int))(hl:(gt l i).b.length<=140737488355328):Ct Tryz.prog 18 [.pointer (some ⟨p,0,none⟩),.int .i64 i] [Ey p d s z (.slice A l.length cp) M a b] [D7.row kPkt A l] (λv G Q=>∃A' cp',(gt l i).b.length<=cp'/\cp'<=9223372036854775807/\v=.tuple #[.slice A' (gt l i).b.length cp',.int .i64 0]/\G=[Ey p d s z (.slice A l.length cp) M a b,rowOf A' cp' (gt l i).b]/\Q=[]):=by
 refine Ct.intro Tryz.func18 rfl rfl rfl (λc hc=>?_)
 refine AP 2 ?_;refine AB ?_;refine AV 2 ?_;refine Ah Tryz.call30 [0] [] rfl rfl rfl (by exact Si _ _ _ _ _ _ _ _ _ _ _ h0 h1) ?_
 rintro _ _ _ ⟨rfl,rfl,rfl⟩
 refine AL 1 ?_;refine AP 2 ?_;refine AY rfl ?_
 refine GC.skip (?_:GC _ _ _ _)
 refine AV 3 ?_;refine Ad 0 ?_;refine AA 1 ?_;refine GL.step rfl (Ej (i:=0) rfl rfl rfl rfl Tryz.underlying36 Mc (by omega) (EW (by omega) (by omega))) (Aa λp_x18=>Aa λVh=>GL.and λgQ=>?_)
 rcases Vh with⟨⟨Ax18_0,nO⟩,_⟩
 refine AO rfl (EM fo_102_0 rfl) ?_;refine GL.step rfl (Ed rfl (ES (i:=0) rfl rfl G_ rfl)) ?_;refine Ah Tryz.call40 [] [1] rfl rfl rfl (by exact dB _ _ _ (by first|assumption|omega)) ?_
 rintro _ _ _ ⟨A21,cp21,iG,k21,rfl,rfl,rfl⟩
 refine AL 2 ?_;refine GC.ret (BR 4 5 [1,0] [] ?_)
 exact⟨_,_,by assumption,by assumption,rfl,rfl,rfl⟩
end
end Go.Proofs.YtliacpkblicnhaaGreat
namespace Go.Sx
open Go
section
variable {α:Type}(f g:α->Value)
def pr:List α->List Value
 |[]=>[]
 |x::r=>f x::g x::pr r
theorem TN:∀xs:List α,(pr f g xs).length=xs.length * 2
 |[]=>rfl
 |x::r=>by simp[pr,TN r];omega
theorem fO:∀xs ys:List α,pr f g (xs++ys)=pr f g xs++pr f g ys
 |[],ys=>rfl
 |x::r,ys=>by simp[pr,fO r ys]
theorem pr_get:∀(xs:List α) (i:Nat),(pr f g xs)[i * 2]?=xs[i]?.map f/\(pr f g xs)[i * 2+1]?=xs[i]?.map g
 |[],i=>by simp[pr]
 |x::r,0=>by simp[pr]
 |x::r,i+1=>by
  have:=pr_get r i
  have e:(i+1) * 2=i * 2+1+1:=by omega
  have e2:(i+1) * 2+1=i * 2+1+1+1:=by omega
  simp only[pr,e,List.getElem?_cons_succ]
  exact this
theorem at_pr[Inhabited α]{xs:List α}{sp:List Value}{o:Nat}{i:Nat}(ho:o=i * 2)(h:i<xs.length):at_ (pr f g xs++sp) o [f (gt xs (i:Int)),g (gt xs (i:Int))]:=by
 subst ho
 have hg:=EW (xs:=xs) (i:=(i:Int)) (by omega) (by omega)
 simp only[Int.toNat_natCast] at hg
 have:=pr_get f g xs i
 rw[hg] at this
 have hl:=TN f g xs
 simp only[at_,JG,and_true]
 rw[List.getElem?_append_left (by omega),List.getElem?_append_left (by omega)]
 exact this
theorem pr_set:∀(xs:List α) (i:Nat) (x:α),i<xs.length->(pr f g xs).take (i * 2)++[f x,g x]++(pr f g xs).drop (i * 2+2)=pr f g (xs.set i x)
 |[],i,x,h=>by simp at h
 |y::r,0,x,_=>by simp[pr]
 |y::r,i+1,x,h=>by
  have:=pr_set r i x (by simpa using h)
  have e:(i+1) * 2=i * 2+1+1:=by omega
  simp only[pr,e,List.take_succ_cons,List.set_cons_succ,List.drop_succ_cons,List.cons_append]
  rw[<-this]
theorem upd_pr{xs:List α}{sp:List Value}{o i:Nat}{x:α}(ho:o=i * 2)(h:i<xs.length):upd (pr f g xs++sp) o [f x,g x]=some (pr f g (xs.set i x)++sp):=by
 subst ho
 have hl:=TN f g xs
 rw[Qs _ _ _ (by simp;omega),<-pr_set f g xs i x h]
 rw[List.take_append_of_le_length (by omega),List.drop_append_of_le_length (by simp;omega)]
 simp
end
end Go.Sx
namespace Go.Sx
open Go
section
variable {P:Program}{c:Cx}{n:Nat}{env:List (Nat×Value)}{G G':List Own}{Q:List D7}{ty:TypeId}{pos:String}{Ew:Array Edge}{g:Option (Nat×Bool)}{x:Operand}{t:TypeId}
theorem t_clearN{i b o dLen dCap:Nat}{zl l l':List Value}{e e':TypeId}(hi:FB G i=some (.cells b l e'))(hx:ev env x=some (.slice (some ⟨b,o,none⟩) dLen dCap))(ht:P.underlying t=some (.slice e))(hz:F7 P e=some zl)(hp:0<zl.length)(h1:QC zl=true)
  (hfit:o+dLen * zl.length<=l.length) (hl':laid l o (Na zl dLen)=l') (hr:Io G i (.cells b l' e')=some G') :
  Tr P ⟨none,.call { callee:=.builtin .clear,args:=#[x],argTypes:=#[t] },ty,pos,Ew,g⟩ (St c n env G Q) (St c n env G' Q):=by
 intro a w hst K R hk2
 have he:=hst.en
 have hb:w.heap[b]?=some (.cells l.toArray e' (0,0)):=hst.own hi
 obtain⟨zv,hzv,hzz⟩:=Option.map_eq_some_iff.1 hz
 have hzc:zv.cells=zl.toArray:=by rw[<-hzz,<-JQ]
 have hone:∀u∈Na zl dLen,u.oneCell'=true:=by
  intro u hu
  obtain⟨k,hk,rfl⟩:=List.getElem_of_mem hu
  rw[LX] at hk
  have hm:k % zl.length<zl.length:=Nat.mod_lt _ hp
  have:=VZ zl hp dLen k hk
  rw[List.getElem?_eq_getElem (by rw[LX];exact hk),List.getElem?_eq_getElem hm] at this
  simp only[Option.some.injEq] at this
  rw[this]
  exact EX h1 _ (List.getElem_mem hm)
 have hrun0:(Builtin.clear_ #[t] ty #[.slice (some ⟨b,o,none⟩) dLen dCap]).run P w=.ok (.tuple #[]) (w.setRow b l'.toArray):=by
  cases hn:dLen with
  |zero =>
   have:l'=l:=by rw[<-hl',hn];simp[laid,Na]
   rw[this,setRow_self w b l.toArray e' (0,0) hb]
   simp[Builtin.clear_,run_underlying ht]
  |succ m =>
   have hcells:(Builtin.zeroCells zv.cells (m+1)).toList=Na zl (m+1):=by
    rw[hzc]
    have:=NC zl hp (m+1)
    unfold Builtin.zeroCells
    rw[List.size_toArray] at *
    rw[this]
   have WE:=run_storeCells_at (P:=P) b o e' (Na zl (m+1)) 0 l.toArray w hb (by rw[LX,List.size_toArray,<-hn];omega) (by rw[<-hn];exact hone)
   rw[Nat.add_zero] at WE
   simp only[Builtin.clear_,Sem.run_bind,run_underlying ht,Result.andThen_ok,List.getElem?_toArray,List.getElem?_cons_zero,Sem.run_pure,Kw hzv,hcells,WE]
   rw[<-hl',hn]
   simp[laid]
 have hop:(execOp a.eval ⟨none,.call { callee:=.builtin .clear,args:=#[x],argTypes:=#[t] },ty,pos,Ew,g⟩).run P w=.ok (.value (.tuple #[])) (w.setRow b l'.toArray):=by
  simp only[execOp,resolve,invoke,builtin,Sem.run_bind,Sem.run_pure,Result.andThen_ok,List.map_toArray,List.map_cons,List.map_nil,he.eval hx,hrun0]
 unfold Oper.wp
 rw[hop]
 exact hk2 _ _ (hst.write hi hr (Fr.setRow w b _) (setRow_heap w b _ _ _ _ hb) (λk hk=>.inl hk) (by simp[Own.keys]) he)
end
end Go.Sx
namespace Go.Sx
open Go
def J3(H G:List Own):Prop:=∃l,(keysOf G).Perm (keysOf H++l)
theorem J3.of{H G:List Own}(l:List Nat)(h:(keysOf G).Perm (keysOf H++l)):J3 H G:=⟨l,h⟩
theorem J3.eq{H G:List Own}(h:keysOf G=keysOf H):J3 H G:=⟨[],by rw[List.append_nil,h]⟩
theorem J3.mem{H G:List Own}(h:J3 H G){k:Nat}(hk:k∈keysOf H):k∈keysOf G:=by
 obtain⟨l,h⟩:=h;exact h.mem_iff.2 (List.mem_append_left _ hk)
theorem J3.Oj{H G:List Own}(h:J3 H G)(hn:(keysOf G).Nodup):(keysOf H).Nodup:=by
 obtain⟨l,h⟩:=h
 exact(List.nodup_append.1 (h.nodup_iff.1 hn)).1
theorem J3.app{H G:List Own}(h:J3 H G)(R:List Own):J3 (H++R) (G++R):=by
 obtain⟨l,h⟩:=h
 refine⟨l,?_⟩
 rw[EY,EY,List.append_assoc]
 exact(h.append (List.Perm.refl _)).trans (by rw[List.append_assoc];exact(List.Perm.refl _).append List.perm_append_comm)
theorem Heap.IK{S:Blocks}{G H:List Own}{Q:List D7}{w:World}(h:Heap S G Q w)(hk:J3 H G)(hh:∀o∈H,o.holds w):Heap S H Q w :=
 ⟨hh,hk.Oj h.Oj,λk hkk=>h.out k (hk.mem hkk),h.per⟩
theorem TD{b e sz m cp:Nat}{cs sp:List Value}(h1:cs.length=m * sz)(h2:(cs++sp).length=cp * sz)(h3:m<=cp)(h4:cp<=9223372036854775807):∀w,(Own.cells b (cs++sp) e).holds w->(Own.row (.slice (some ⟨b,0,none⟩) m cp) e sz m cs).holds w:=λw h =>
 ⟨h1,.inr ⟨b,cp,_,rfl,Nat.zero_le _,h,h3,by simpa[maxLen] using h4,by simpa using h2,by simp[<-h1]⟩⟩
theorem Tf{G H:List Own}{w:World}:(∀o∈G++H,o.holds w)↔(∀o∈G,o.holds w)/\∀o∈H,o.holds w:=by
 constructor
 ·intro h;exact⟨λo ho=>h o (List.mem_append_left _ ho),λo ho=>h o (List.mem_append_right _ ho)⟩
 ·rintro⟨h1,h2⟩ o ho;exact(List.mem_append.1 ho).elim (h1 o) (h2 o)
def Own.some{ι:Type}(K:List Nat)(F:ι->List Own):Own:=.gen K (λw=>∃y,keysOf (F y)=K/\∀o∈F y,o.holds w)
 (λw h k hk=>by obtain⟨y,rfl,h⟩:=h;obtain⟨o,ho,hk⟩:=Gu.1 hk;exact Own.lt (h o ho) hk)
 (λw w' h hm=>by obtain⟨y,rfl,h⟩:=h;exact⟨y,rfl,λo ho=>Own.move (h o ho) λk hk=>hm k (Gu.2 ⟨o,ho,hk⟩)⟩)
theorem KC(o:Own)(G:List Own):keysOf (o::G)=o.keys++keysOf G:=by simp[keysOf]
end Go.Sx
namespace Go.Sx
open Go
section
variable {P:Program}{c:Cx}{n:Nat}{env:List (Nat×Value)}{G Gr G1:List Own}{Q:List D7}{X:Exit->Gz}{cd:Code}{ops:Array Oper}{rest:List Oper}{a:Act}{w:World}
theorem St.IK{ι:Type}{F:ι->List Own}{p:ι->Prop}{is:List Nat}(h:St c n env G Q a w)(hsel:sel G is=some (G1,Gr))(hh:∀w,(∀o∈G1,o.holds w)->∃y,p y/\J3 (F y) G1/\∀o∈F y,o.holds w):∃y,p y/\St c n env (F y++Gr) Q a w:=by
 obtain⟨S,he,hp,hrel⟩:=h
 have h1:=hp.perm (Ho hsel)
 have h2:=hrel.perm (Ho hsel)
 obtain⟨y,hy,hk,ho⟩:=hh w λo ho=>h1.own o (List.mem_append_left _ ho)
 refine⟨y,hy,S,he,h1.IK (hk.app Gr) (Tf.2 ⟨ho,λo ho=>h1.own o (List.mem_append_right _ ho)⟩),h2.fr,h2.old,λk hkk=>h2.key k ((hk.app Gr).mem hkk)⟩
theorem GL.IK{ι:Type}{F:ι->List Own}{p:ι->Prop}(is:List Nat)(hsel:sel G is=some (G1,Gr))(hh:∀w,(∀o∈G1,o.holds w)->∃y,p y/\J3 (F y) G1/\∀o∈F y,o.holds w)(k:∀y,p y->GL P ops X rest (St c n env (F y++Gr) Q)):GL P ops X rest (St c n env G Q):=λa w h=>by
 obtain⟨y,hy,h⟩:=h.IK hsel hh;exact k y hy a w h
theorem GC.IK{ι:Type}{F:ι->List Own}{p:ι->Prop}(is:List Nat)(hsel:sel G is=some (G1,Gr))(hh:∀w,(∀o∈G1,o.holds w)->∃y,p y/\J3 (F y) G1/\∀o∈F y,o.holds w)(k:∀y,p y->GC P X cd (St c n env (F y++Gr) Q)):GC P X cd (St c n env G Q):=λa w h=>by
 obtain⟨y,hy,h⟩:=h.IK hsel hh;exact k y hy a w h
theorem GL.Zl(is:List Nat)(H:List Own)(hsel:sel G is=some (G1,Gr))(hk:J3 H G1)(hh:∀w,(∀o∈G1,o.holds w)->∀o∈H,o.holds w)(k:GL P ops X rest (St c n env (H++Gr) Q)):GL P ops X rest (St c n env G Q) :=
 GL.IK (F:=λ_:Unit=>H) (p:=λ_=>True) is hsel (λw h=>⟨(),trivial,hk,hh w h⟩) λ_ _=>k
theorem GC.Zl(is:List Nat)(H:List Own)(hsel:sel G is=some (G1,Gr))(hk:J3 H G1)(hh:∀w,(∀o∈G1,o.holds w)->∀o∈H,o.holds w)(k:GC P X cd (St c n env (H++Gr) Q)):GC P X cd (St c n env G Q) :=
 GC.IK (F:=λ_:Unit=>H) (p:=λ_=>True) is hsel (λw h=>⟨(),trivial,hk,hh w h⟩) λ_ _=>k
end
end Go.Sx
namespace Go.Sx
open Go
section
variable {P:Program}{f:FuncId}{args:List Value}{G G1 G2 Gr:List Own}{Q:List D7}{R R':Value->List Own->List D7->Prop}
theorem Ct.IK{ι:Type}{F:ι->List Own}{p:ι->Prop}(hh:∀w,(∀o∈G,o.holds w)->∃y,p y/\J3 (F y) G/\∀o∈F y,o.holds w)(h:∀y,p y->Ct P f args (F y) Q R):Ct P f args G Q R:=λw S hp=>by
 obtain⟨y,hy,hk,ho⟩:=hh w hp.own
 refine(h y hy w S (hp.IK hk ho)).mono ?_
 rintro e w' ⟨v,G',Q',S',he,hR,hp',hfr,hS,hkk⟩
 exact⟨v,G',Q',S',he,hR,hp',hfr.mono (λk h1 _=>hk.mem h1),λk hlt hn=>hS k hlt (λh=>hn (hk.mem h)),λk h1=>(hkk k h1).imp hk.mem id⟩
theorem C_(is:List Nat)(hsel:sel G is=some (G1,[]))(h:Ct P f args G1 Q R):Ct P f args G Q R :=
 Ct.IK (F:=λ_:Unit=>G1) (p:=λ_=>True) (λw ho=>⟨(),trivial,J3.of [] (by
  have:=Ho hsel
  rw[List.append_nil] at this
  rw[List.append_nil]
  exact List.Perm.flatMap_right Own.keys this),λo hm=>ho o ((Ho hsel).mem_iff.2 (by rw[List.append_nil];exact hm))⟩) λ_ _=>h
theorem Ct.post(h:Ct P f args G Q R)(hr:∀v H Q',R v H Q'->∃H',R' v H' Q'/\J3 H' H/\∀w,(∀o∈H,o.holds w)->∀o∈H',o.holds w):Ct P f args G Q R':=λw S hp=>by
 refine(h w S hp).mono ?_
 rintro e w' ⟨v,G',Q',S',he,hR,hp',hfr,hS,hkk⟩
 obtain⟨H',hR',hk,ho⟩:=hr v G' Q' hR
 exact⟨v,H',Q',S',he,hR',hp'.IK hk (ho w' hp'.own),hfr,hS,λk h1=>hkk k (hk.mem h1)⟩
theorem Ct.frame(h:Ct P f args G Q R)(Gr:List Own):Ct P f args (G++Gr) Q (λv G' Q'=>∃H,R v H Q'/\G'=H++Gr):=λw S hp=>by
 have h1:Heap S G Q w:=hp.sub (List.sublist_append_left _ _) (λq hq=>hq)
 refine(h w S h1).mono ?_
 rintro e w' ⟨v,G',Q',S',he,hR,hp',hfr,hS,hkk⟩
 have hf:=Om hp hp' hfr hS hkk
 refine⟨v,G'++Gr,Q',S',he,⟨G',hR,rfl⟩,⟨hf.own,hf.Oj,hf.out,λq hq=>hf.per q (List.mem_append_left _ hq)⟩,hfr.mono (λk h1 _=>by rw[EY];exact List.mem_append_left _ h1),λk hlt hn=>hS k hlt (λh=>hn (by rw[EY];exact List.mem_append_left _ h)),λk h1=>?_⟩
 rw[EY] at h1 ⊢
 rcases List.mem_append.1 h1 with h1|h1
 ·exact(hkk k h1).imp (List.mem_append_left _) id
 ·exact .inl (List.mem_append_right _ h1)
theorem Ct.lend{QL:List D7}{R:Value->List Own->Prop}(GL:List Own)(hl:∀w S,(∀o∈GL,o.holds w)->(∀k∈keysOf GL,S k)->∀q∈QL,q.h w S)(h:Ct P f args G (QL++Q) (λv G' Q'=>R v G'/\Q'=[])):Ct P f args (G++GL) Q (λv G' Q'=>∃H,R v H/\G'=H++GL/\Q'=[]):=λw S hp=>by
 let S1:Blocks:=λk=>S k\/k∈keysOf GL
 have hn:=hp.Oj
 rw[EY,List.nodup_append] at hn
 obtain⟨n1,n2,dis⟩:=hn
 have h1:Heap S1 G (QL++Q) w:=by
  refine⟨λo ho=>hp.own o (List.mem_append_left _ ho),n1,λk hk hs=>?_,λq hq=>?_⟩
  ·rcases hs with hs|hs
   ·exact hp.out k (by rw[EY];exact List.mem_append_left _ hk) hs
   ·exact dis k hk k hs rfl
  ·rcases List.mem_append.1 hq with hq|hq
   ·exact hl w S1 (λo ho=>hp.own o (List.mem_append_right _ ho)) (λk hk=>.inr hk) q hq
   ·exact q.st (hp.per q hq) λk hs _=>⟨.inl hs,rfl⟩
 refine(h w S1 h1).mono ?_
 rintro e w' ⟨v,G',Q',S',he,⟨hR,rfl⟩,hp',hfr,hS,hkk⟩
 have ltL:∀k∈keysOf GL,k<w.heap.size:=λk hk=>hp.lt (by rw[EY];exact List.mem_append_right _ hk)
 have nL:∀k∈keysOf GL,k ∉ keysOf G:=λk hk h1=>dis k h1 k hk rfl
 have h2:Heap (λk=>S' k/\k ∉ keysOf GL) G' [] w':=⟨hp'.own,hp'.Oj,λk hk hs=>hp'.out k hk hs.1,λq hq=>by cases hq⟩
 have hS2:∀k,k<w.heap.size->k ∉ keysOf G->((S' k/\k ∉ keysOf GL)↔S k):=by
  intro k hlt hn1
  constructor
  ·rintro⟨hs,hnl⟩
   exact((hS k hlt hn1).1 hs).resolve_right hnl
  ·intro hs
   exact⟨(hS k hlt hn1).2 (.inl hs),λhl=>hp.out k (by rw[EY];exact List.mem_append_right _ hl) hs⟩
 have hf:=Om hp h2 hfr hS2 hkk
 refine⟨v,G'++GL,[],_,he,⟨G',hR,rfl,rfl⟩,⟨hf.own,hf.Oj,hf.out,λq hq=>by cases hq⟩,hfr.mono (λk h1 _=>by rw[EY];exact List.mem_append_left _ h1),λk hlt hn=>hS2 k hlt (λh=>hn (by rw[EY];exact List.mem_append_left _ h)),λk h1=>?_⟩
 rw[EY] at h1 ⊢
 rcases List.mem_append.1 h1 with h1|h1
 ·exact(hkk k h1).imp (List.mem_append_left _) id
 ·exact .inl (List.mem_append_right _ h1)
end
end Go.Sx
namespace Go.Sx
open Go
section
variable {P:Program}{c:Cx}{n:Nat}{env:List (Nat×Value)}{G G':List Own}{Q:List D7}{R:Exit->Gz}{cd:Code}
theorem CW{i b e sz m cp:Nat}{l:List Value}(cs sp:List Value)(hi:FB G i=some (.cells b l e))(hl:l=cs++sp)(h1:cs.length=m * sz)(h2:l.length=cp * sz)(h3:m<=cp)(h4:cp<=9223372036854775807)(hr:Io G i (.row (.slice (some ⟨b,0,none⟩) m cp) e sz m cs)=some G')(k:GC P R cd (St c n env G' Q)):GC P R cd (St c n env G Q) :=
 GC.imp (λa w h=>h.Qw hi hr rfl (by subst hl;exact TD h1 h2 h3 h4)) k
end
end Go.Sx
namespace Go.Proofs.YtliacpkblicnhaaGreat
open Go Go.Sx Go.Proofs
structure Pk where
 A:Option Addr
 cp:Nat
 b:List UInt8
 bad:Bool
 deriving Inhabited
abbrev pkA(q:Pk):Value:=.slice q.A q.b.length q.cp
abbrev pkB(q:Pk):Value:=.bool q.bad
abbrev K_(l:List Pk):List Value:=pr pkA pkB l
abbrev zpk:List Value:=[.slice none 0 0,.bool false]
theorem YR{α:Type}(f g:α->Value):∀(xs:List α) (i:Nat),(pr f g xs).drop (i * 2)=pr f g (xs.drop i)
 |[],i=>by simp[pr]
 |x::r,0=>by simp
 |x::r,i+1=>by
  have e:(i+1) * 2=i * 2+1+1:=by omega
  rw[e]
  exact YR f g r i
theorem kV{α:Type}(f g:α->Value):∀(xs:List α) (i:Nat),(pr f g xs).take (i * 2)=pr f g (xs.take i)
 |[],i=>by simp[pr]
 |x::r,0=>by simp[pr]
 |x::r,i+1=>by
  have e:(i+1) * 2=i * 2+1+1:=by omega
  rw[e]
  exact congrArg (f x::g x :: ·) (kV f g r i)
theorem Jl(l:List Pk):(K_ l).length=l.length * 2:=TN _ _ l
theorem pkC_one(l:List Pk):∀u∈K_ l,u.oneCell'=true:=by
 induction l with
 |nil=>intro u hu;cases hu
 |cons q r ih =>
  intro u hu
  rcases List.mem_cons.1 hu with rfl|hu
  ·rfl
  ·rcases List.mem_cons.1 hu with rfl|hu
   ·rfl
   ·exact ih u hu
theorem del_laid{l:List Pk}{sp:List Value}{i m k:Nat}(h:i<l.length)(hm:m=l.length - (i+1))(hk:k=l.length - 1) :
  laid (laid (K_ l++sp) (0+i * 2) (((K_ l++sp).drop ((i+1) * 2)).take (m * 2))) (0+k * 2) zpk=K_ (l.eraseIdx i)++(zpk++sp):=by
 have hl:=Jl l
 have e1:((K_ l++sp).drop ((i+1) * 2)).take (m * 2)=K_ (l.drop (i+1)):=by
  rw[List.drop_append_of_le_length (by omega),YR,List.take_append_of_le_length (by rw[TN,List.length_drop];omega),List.take_of_length_le (by rw[TN,List.length_drop];omega)]
 have e2:laid (K_ l++sp) (0+i * 2) (K_ (l.drop (i+1)))=K_ (l.eraseIdx i)++(K_ (l.drop k)++sp):=by
  have e3:0+i * 2+(K_ (l.drop (i+1))).length=k * 2:=by rw[Jl,List.length_drop];omega
  unfold laid
  rw[e3,Nat.zero_add,List.take_append_of_le_length (by omega),kV,List.drop_append_of_le_length (by omega),YR,<-fO,List.eraseIdx_eq_take_drop_succ]
 have e4:(K_ (l.eraseIdx i)).length=k * 2:=by rw[Jl,List.length_eraseIdx_of_lt h];omega
 have e5:(K_ (l.drop k)).length=2:=by rw[Jl,List.length_drop];omega
 rw[e1,e2]
 unfold laid
 rw[Nat.zero_add,<-e4,List.take_left,List.append_assoc]
 congr 1
 congr 1
 rw[<-List.drop_drop,List.drop_left,show zpk.length=(K_ (l.drop k)).length by rw[e5];rfl,List.drop_left]
theorem rM{l:List Pk}{sp:List Value}{i m o1 o2 c:Nat}(h:i<l.length)(hm:m=l.length - (i+1))(h1:o1=i * 2)(h2:o2=(l.length - 1) * 2)(hc:c=1) :
  laid (laid (K_ l++sp) o1 (((K_ l++sp).drop ((i+1) * 2)).take (m * 2))) o2 (Na [.slice none 0 0,.bool false] c)=K_ (l.eraseIdx i)++(zpk++sp):=by
 subst h1;subst h2;subst hc
 have:=del_laid (sp:=sp) h hm rfl
 rw[Nat.zero_add,Nat.zero_add] at this
 exact this
theorem slA_some(a:Addr)(sz l m:Nat):XJ (some a) sz l m=some (if m=l then a else a.add (l * sz)):=by
 unfold XJ;split<;>rfl
theorem del_at{b cp i:Nat}{l:List Pk}{sp:List Value}(h:i<l.length)(hcp:l.length<=cp):l.length - ((i:Int)+1).toNat=0\/(if cp=((i:Int)+1).toNat then (⟨b,0,none⟩:Addr) else (⟨b,0,none⟩:Addr).add (((i:Int)+1).toNat * 2))=⟨b,(i+1) * 2,none⟩/\(i+1) * 2+(l.length - ((i:Int)+1).toNat) * 2<=(K_ l++sp).length:=by
 have e:((i:Int)+1).toNat=i+1:=by omega
 have hl:=Jl l
 rw[e,List.length_append,hl]
 by_cases hc:cp=i+1
 ·left;omega
 ·right
  rw[if_neg hc,add_lit,Nat.zero_add]
  exact⟨rfl,by omega⟩
theorem del_one{i m:Nat}{l:List Pk}{sp:List Value}(hm:m+(i+1)<=l.length):∀u∈((K_ l++sp).drop ((i+1) * 2)).take (m * 2),u.oneCell'=true:=by
 have hl:=Jl l
 rw[List.drop_append_of_le_length (by omega),List.take_append_of_le_length (by rw[List.length_drop];omega)]
 exact λu hu=>pkC_one l u (List.mem_of_mem_drop (List.mem_of_mem_take hu))
theorem pdel_ct(b:Nat)(l:List Pk)(sp:List Value)(cp:Nat)(i:Nat)(hi:i<l.length)(hcp:l.length<=cp)(hlen:(K_ l++sp).length=cp * 2):Ct Tryz.prog 31 [.slice (some ⟨b,0,none⟩) l.length cp,.int .i64 (i:Int),.int .i64 ((i:Int)+1)] [.cells b (K_ l++sp) 102] [] (λu G Q=>u=.slice (some ⟨b,0,none⟩) (l.length - 1) cp/\G=[.cells b (K_ (l.eraseIdx i)++(zpk++sp)) 102]/\Q=[]):=by
 have hl:=Jl l
 have hap:(K_ l++sp).length=l.length * 2+sp.length:=by rw[List.length_append,hl]
 refine Ct.intro Tryz.func31 rfl rfl rfl (λc hc=>?_)
 refine AP 1 ?_;refine AV 5 ?_;refine AO rfl (Xr rfl rfl rfl rfl Tryz.underlying36 Mc (by omega) (by omega) (by omega) (by omega) rfl rfl (Um (by omega))) ?_;refine Ap ?_;refine AB ?_
 refine AP 3 ?_;refine Af ?_ ?_
 ·intro h1;try simp only[D6] at h1
  exfalso;omega
 intro h1;try simp only[D6] at h1
 refine GC.skip (?_:GC _ _ _ _)
 refine AP 3 ?_;refine AB ?_;refine BF (m:=8) (is:=[]) (js:=[]) Ef rfl rfl rfl ?_;refine AZ 0 [] [] ?_;refine AZ 1 [] [] ?_;refine BA 2 rfl [] [] (EK (Ux rfl rfl Tryz.underlying36 Mc (by omega) (by omega) rfl rfl (Um (by omega)))) ?_
 refine AZ 3 [] [] ?_;refine AZ 4 [] [] ?_;refine BA 5 rfl [] [] (EK (Uw (l:=(i:Int)+1) rfl rfl Tryz.underlying36 Mc (by omega) (by omega) rfl rfl (slA_some _ _ _ _))) ?_;refine Aw [6] ?_
 refine E8.cons (i:=6) rfl rfl (dZ (i:=0) (o2:=(i+1) * 2) (sz:=2) rfl Tryz.underlying36 Mc rfl rfl rfl (del_at hi hcp) rfl (del_one (by omega)) (by omega) (by simp only[Int.toNat_natCast];omega) rfl rfl) (by rintro a w h;exact h.me [] []) ?_ Ag
 refine AZ 7 [] [] ?_
 refine BG (by kernel_rfl) (?_:GC _ _ _ _)
 refine AV 4 ?_;refine AO rfl (Z9 rfl rfl rfl Tryz.underlying36 Mc (by omega) (by omega) (by omega) rfl rfl (Um (by omega))) ?_;refine GL.step rfl (t_clearN (i:=0) rfl rfl Tryz.underlying36 VE (by decide) rfl (by rw[Gw (by rw[List.length_take,List.length_drop];simp only[Int.toNat_natCast];omega)];simp only[Int.toNat_natCast,List.length_cons,List.length_nil];omega) rfl rfl) ?_
 refine BL 2 ?_;refine Ap ?_;refine GC.ret (AQ 6 [0] [] ?_)
 exact⟨by rw[show(i:Int).toNat - 0+(l.length - ((i:Int)+1).toNat)=l.length - 1 by omega];rfl,congrArg (λx=>[Own.cells b x 102]) (rM (i:=i) hi (by omega) (by omega) (by omega) (by omega)),rfl⟩
abbrev rowP(A:Option Addr)(cp:Nat)(l:List Pk):Own:=.row (.slice A l.length cp) 102 2 l.length (K_ l)
abbrev qO(q:Pk):Own:=rowOf q.A q.cp q.b
abbrev sZ(q:Pk):KF:=⟨q.b,q.bad⟩
theorem pY{w:World}{A:Option Addr}{n cp e sz:Nat}{cs:List Value}(h:(Own.row (.slice A n cp) e sz n cs).holds w):n<=cp/\cp<=9223372036854775807:=by
 by_cases hn:n=0
 ·obtain⟨_,h⟩:=h
  rcases h with⟨h,_⟩|⟨b,cap,cur,hv,_,hb,h1,h2,_⟩
  ·cases h;exact⟨Nat.le_refl _,by omega⟩
  ·cases hv;exact⟨h1,by simpa[maxLen] using h2⟩
 ·obtain⟨b,sp,rfl,g1,g2,g3,g4⟩:=Jw h hn
  exact⟨g2,g3⟩
theorem QM{A:Option Addr}{cp:Nat}{l:List Pk}{R:List Own}(hn:l≠[])(w:World)(h:∀o∈rowP A cp l::R,o.holds w):∃y:Nat×List Value,(A=some ⟨y.1,0,none⟩/\(K_ l++y.2).length=cp * 2/\l.length<=cp/\cp<=9223372036854775807)/\J3 (.cells y.1 (K_ l++y.2) 102::R) (rowP A cp l::R)/\∀o∈Own.cells y.1 (K_ l++y.2) 102::R,o.holds w:=by
 obtain⟨b,sp,rfl,g1,g2,g3,g4⟩:=Jw (h _ (List.mem_cons_self ..)) (λe=>hn (List.eq_nil_of_length_eq_zero e))
 exact⟨(b,sp),⟨rfl,g1,g2,g3⟩,J3.eq rfl,λo ho=>(List.mem_cons.1 ho).elim (λe=>e▸g4) (λho=>h o (List.mem_cons_of_mem _ ho))⟩
theorem QJ{b cp:Nat}{l:List Pk}{sp:List Value}(h1:(K_ l++sp).length=cp * 2)(h2:l.length<=cp)(h3:cp<=9223372036854775807):∀w,(Own.cells b (K_ l++sp) 102).holds w->(rowP (some ⟨b,0,none⟩) cp l).holds w :=
 TD (Jl l) h1 h2 h3
theorem kK{w:World}{S:Blocks}:∀{l:List Pk},(∀q∈l,(qO q).holds w)->(∀q∈l,∀k∈(qO q).keys,S k)->JO kPkt w S (l.map sZ) (K_ l)
 |[],_,_=>rfl
 |q::r,h,hS=>⟨[pkA q,pkB q],K_ r,rfl,⟨((q.A,q.cp),()),⟨pY (h q (List.mem_cons_self ..)),trivial⟩,rfl,λx hx=>by
   rcases List.mem_append.1 hx with hx|hx
   ·rw[List.mem_singleton.1 hx]
    exact PZ (kd:=Kd.u8) (h q (List.mem_cons_self ..)) (hS q (List.mem_cons_self ..)) (LV q.b) (by decide)
   ·cases hx⟩,kK (λq hq=>h q (List.mem_cons_of_mem _ hq)) (λq hq=>hS q (List.mem_cons_of_mem _ hq))⟩
theorem pers_pk{w:World}{S:Blocks}{A:Option Addr}{cp:Nat}{l:List Pk}(h:∀o∈rowP A cp l::l.map qO,o.holds w)(hS:∀k∈keysOf (rowP A cp l::l.map qO),S k):(D7.row kPkt A (l.map sZ)).h w S :=
 PZ (kd:=kPkt) (h _ (List.mem_cons_self ..)) (λk hk=>hS k (Gu.2 ⟨_,List.mem_cons_self ..,hk⟩)) (kK (λq hq=>h _ (List.mem_cons_of_mem _ (List.mem_map_of_mem hq))) (λq hq k hk=>hS k (Gu.2 ⟨_,List.mem_cons_of_mem _ (List.mem_map_of_mem hq),hk⟩))) (by decide)
end Go.Proofs.YtliacpkblicnhaaGreat
namespace Go.Proofs.YtliacpkblicnhaaGreat
open Go Go.Sx Go.Proofs
section
variable (p:Nat)(d s z:Int)(M:Value)(a b:Int)
theorem ndrop_c(t:Nat)(l:List Pk)(sp:List Value)(cp:Nat)(i:Nat)(h1:i<l.length)(hcp:l.length<=cp)(hmax:cp<=9223372036854775807)(hlen:(K_ l++sp).length=cp * 2):Ct Tryz.prog 13 [.pointer (some ⟨p,0,none⟩),.int .i64 (i:Int)] [Ey p d s z (.slice (some ⟨t,0,none⟩) l.length cp) M a b,.cells t (K_ l++sp) 102] [] (λu G Q=>u=.int .i64 0/\G=[Ey p d s z (.slice (some ⟨t,0,none⟩) (l.length - 1) cp) M a b,.cells t (K_ (l.eraseIdx i)++(zpk++sp)) 102]/\Q=[]):=by
 refine Ct.intro Tryz.func13 rfl rfl rfl (λc hc=>?_)
 refine AP 1 ?_;refine AB ?_;refine AV 2 ?_;refine Ah Tryz.call30 [0] [] rfl rfl rfl (by exact Si _ _ _ _ _ _ _ _ _ _ _ (by omega) (by omega)) ?_
 rintro _ _ _ ⟨rfl,rfl,rfl⟩
 refine AL 1 ?_;refine AP 2 ?_;refine AY rfl ?_
 refine GC.skip (?_:GC _ _ _ _)
 refine AV 4 ?_;refine Ad 0 ?_;refine AA 2 ?_;refine AO rfl (EU rfl rfl (Fh (by omega) (by omega))) ?_;refine Ah Tryz.call31 [1] [] rfl rfl rfl (by exact pdel_ct _ _ _ _ _ (by first|assumption|omega) (by assumption) (by assumption)) ?_
 rintro _ _ _ ⟨rfl,rfl,rfl⟩
 refine AA 2 ?_;refine BI 1 ?_;refine BL 1 ?_;refine Ap ?_;refine GC.ret (AQ 4 [1,0] [] ?_)
 exact⟨rfl,rfl,rfl⟩
theorem ndrop_in(A:Option Addr)(l:List Pk)(cp:Nat)(i:Nat)(h1:i<l.length):Ct Tryz.prog 13 [.pointer (some ⟨p,0,none⟩),.int .i64 (i:Int)] (rowP A cp l::[Ey p d s z (.slice A l.length cp) M a b]) [] (λu G Q=>u=.int .i64 0/\G=[Ey p d s z (.slice A (l.eraseIdx i).length cp) M a b,rowP A cp (l.eraseIdx i)]/\Q=[]):=by
 refine Ct.IK (λw h=>QM (λe=>by subst e;simp at h1) w h) (λy hy=>?_)
 obtain⟨rfl,h2,h3,h4⟩:=hy
 have hel:(l.eraseIdx i).length=l.length - 1:=List.length_eraseIdx_of_lt h1
 refine Ct.post (C_ [1,0] rfl (ndrop_c p d s z M a b y.1 l y.2 cp i h1 h3 h4 h2)) ?_
 rintro v H Q' ⟨rfl,rfl,rfl⟩
 refine⟨_,⟨rfl,rfl,rfl⟩,J3.eq rfl,λw h o ho=>?_⟩
 rw[hel] at ho
 rcases List.mem_cons.1 ho with rfl|ho
 ·exact h _ (List.mem_cons_self ..)
 ·rw[List.mem_singleton.1 ho]
  refine QJ (b:=y.1) (sp:=zpk++y.2) ?_ (by omega) h4 w (h _ (List.mem_cons_of_mem _ (List.mem_cons_self ..)))
  have g:=Jl l
  have g':=Jl (l.eraseIdx i)
  simp only[List.length_append,List.length_cons,List.length_nil] at h2 ⊢
  omega
theorem qR(A:Option Addr)(k cp:Nat)(i:Int)(h:¬(0<=i/\i<(k:Int))):Ct Tryz.prog 13 [.pointer (some ⟨p,0,none⟩),.int .i64 i] [Ey p d s z (.slice A k cp) M a b] [] (λu G Q=>u=.int .i64 5/\G=[Ey p d s z (.slice A k cp) M a b]/\Q=[]):=by
 refine Ct.intro Tryz.func13 rfl rfl rfl (λc hc=>?_)
 refine AP 1 ?_;refine AB ?_;refine AV 2 ?_;refine Ah Tryz.call30 [0] [] rfl rfl rfl (by exact XF _ _ _ _ _ _ _ _ _ _ _ (by omega)) ?_
 rintro _ _ _ ⟨rfl,rfl,rfl⟩
 refine AL 1 ?_;refine AP 2 ?_;refine AU rfl ?_;refine AP 2 ?_;refine GC.ret (AQ 4 [0] [] ?_)
 exact⟨rfl,rfl,rfl⟩
theorem qU(A:Option Addr)(l:List Pk)(cp:Nat)(i:Int)(h0:0<=i)(h1:i<(l.length:Int))(hl:(gt l i).b.length<=140737488355328):Ct Tryz.prog 18 [.pointer (some ⟨p,0,none⟩),.int .i64 i] ([Ey p d s z (.slice A l.length cp) M a b]++(rowP A cp l::l.map qO)) [] (λu G Q=>∃A' cp',(gt l i).b.length<=cp'/\cp'<=9223372036854775807/\u=.tuple #[.slice A' (gt l i).b.length cp',.int .i64 0]/\G=[Ey p d s z (.slice A l.length cp) M a b,rowOf A' cp' (gt l i).b]++(rowP A cp l::l.map qO)/\Q=[]):=by
 have hg:gt (l.map sZ) i=sZ (gt l i):=by
  unfold gt
  have:i.toNat<l.length:=by omega
  simp[List.getD_eq_getElem?_getD,this]
 have hc:=bytes_ct p z a b d s M A (l.map sZ) cp i h0 (by rw[List.length_map];exact h1) (by rw[hg];exact hl)
 rw[hg,List.length_map] at hc
 refine Ct.mono (Ct.lend (QL:=[D7.row kPkt A (l.map sZ)]) (Q:=[]) (rowP A cp l::l.map qO) (λw S h hS q hq=>by rw[List.mem_singleton.1 hq];exact pers_pk h hS) (R:=λu G=>∃A' cp',(gt l i).b.length<=cp'/\cp'<=9223372036854775807/\u=.tuple #[.slice A' (gt l i).b.length cp',.int .i64 0]/\G=[Ey p d s z (.slice A l.length cp) M a b,rowOf A' cp' (gt l i).b]) (Ct.mono hc λu G Q h=>?_)) λu G Q h=>?_
 ·obtain⟨A',cp',g1,g2,g3,g4,g5⟩:=h
  exact⟨⟨A',cp',g1,g2,g3,g4⟩,g5⟩
 ·obtain⟨H,⟨A',cp',g1,g2,g3,rfl⟩,rfl,g5⟩:=h
  exact⟨A',cp',g1,g2,g3,rfl,g5⟩
theorem g_(A:Option Addr)(k cp:Nat)(i:Int)(h:¬(0<=i/\i<(k:Int))):Ct Tryz.prog 18 [.pointer (some ⟨p,0,none⟩),.int .i64 i] [Ey p d s z (.slice A k cp) M a b] [] (λu G Q=>u=.tuple #[.slice none 0 0,.int .i64 5]/\G=[Ey p d s z (.slice A k cp) M a b]/\Q=[]):=by
 refine Ct.intro Tryz.func18 rfl rfl rfl (λc hc=>?_)
 refine AP 2 ?_;refine AB ?_;refine AV 2 ?_;refine Ah Tryz.call30 [0] [] rfl rfl rfl (by exact XF _ _ _ _ _ _ _ _ _ _ _ (by omega)) ?_
 rintro _ _ _ ⟨rfl,rfl,rfl⟩
 refine AL 1 ?_;refine AP 2 ?_;refine AU rfl ?_;refine AP 3 ?_;refine GC.ret (BR 4 5 [0] [] ?_)
 exact⟨rfl,rfl,rfl⟩
end
end Go.Proofs.YtliacpkblicnhaaGreat
namespace Go.Proofs.YtliacpkblicnhaaGreat
open Go Go.Sx Go.Proofs
theorem Rl{l:List Pk}{sp:List Value}{i o:Nat}{A:Option Addr}{c:Nat}{b:List UInt8}{bad:Bool}(hq:gt l (i:Int)=⟨A,c,b,bad⟩)(h:i<l.length)(ho:o=i * 2):nth (K_ l++sp) o=some (.slice A b.length c):=by
 have:=(at_pr pkA pkB (sp:=sp) ho h).1
 rw[hq] at this;exact this
theorem lU{l:List Pk}{sp:List Value}{i o:Nat}{A:Option Addr}{c:Nat}{b:List UInt8}{bad:Bool}(hq:gt l (i:Int)=⟨A,c,b,bad⟩)(h:i<l.length)(ho:o=i * 2+1):nth (K_ l++sp) o=some (.bool bad):=by
 have:=(at_pr pkA pkB (sp:=sp) (i:=i) rfl h).2.1
 rw[hq] at this;subst ho;exact this
theorem upd_pkB{l:List Pk}{sp:List Value}{i o:Nat}{A:Option Addr}{c:Nat}{b b':List UInt8}{bad bad':Bool}(hq:gt l (i:Int)=⟨A,c,b,bad⟩)(h:i<l.length)(ho:o=i * 2+1)(hb:b'.length=b.length):upd (K_ l++sp) o [.bool bad']=some (K_ (l.set i ⟨A,c,b',bad'⟩)++sp):=by
 subst ho
 have hl:=Jl l
 have h1:=upd_pr pkA pkB (sp:=sp) (x:=(⟨A,c,b',bad'⟩:Pk)) (i:=i) rfl h
 have h2:=Rl (sp:=sp) hq h rfl
 rw[Qs _ _ _ (by rw[List.length_append,hl];simp;omega)] at h1 ⊢
 rw[<-h1]
 simp only[List.length_cons,List.length_nil,pkA,hb]
 rw[JG] at h2
 have h3:(K_ l++sp).take (i * 2+1)=(K_ l++sp).take (i * 2)++[.slice A b.length c]:=by rw[List.take_add_one,h2];rfl
 rw[h3]
 simp
end Go.Proofs.YtliacpkblicnhaaGreat
namespace Go.Proofs.YtliacpkblicnhaaGreat
open Go Go.Sx Go.Proofs
section
variable (p:Nat)(d s z:Int)(M:Value)(a b:Int)
theorem gX(A:Option Addr)(k cp:Nat)(i at_ mk:Int)(h:¬(0<=i/\i<(k:Int))):Ct Tryz.prog 19 [.pointer (some ⟨p,0,none⟩),.int .i64 i,.int .i64 at_,.int .u8 mk] [Ey p d s z (.slice A k cp) M a b] [] (λu G Q=>u=.int .i64 5/\G=[Ey p d s z (.slice A k cp) M a b]/\Q=[]):=by
 refine Ct.intro Tryz.func19 rfl rfl rfl (λc hc=>?_)
 refine AP 1 ?_;refine AB ?_;refine AV 2 ?_;refine Ah Tryz.call30 [0] [] rfl rfl rfl (by exact XF _ _ _ _ _ _ _ _ _ _ _ (by omega)) ?_
 rintro _ _ _ ⟨rfl,rfl,rfl⟩
 refine AL 1 ?_;refine AP 2 ?_;refine AU rfl ?_;refine AP 2 ?_;refine GC.ret (AQ 8 [0] [] ?_)
 exact⟨rfl,rfl,rfl⟩
theorem gY(t:Nat)(l:List Pk)(sp:List Value)(cp:Nat)(i:Nat)(at_ mk:Int)(A:Option Addr)(c:Nat)(bs:List UInt8)(bad:Bool)(hq:gt l (i:Int)=⟨A,c,bs,bad⟩)(hi:i<l.length)(hf:¬(0<=at_/\at_<(bs.length:Int))):Ct Tryz.prog 19 [.pointer (some ⟨p,0,none⟩),.int .i64 (i:Int),.int .i64 at_,.int .u8 mk] [Ey p d s z (.slice (some ⟨t,0,none⟩) l.length cp) M a b,.cells t (K_ l++sp) 102] [] (λu G Q=>u=.int .i64 5/\G=[Ey p d s z (.slice (some ⟨t,0,none⟩) l.length cp) M a b,.cells t (K_ l++sp) 102]/\Q=[]):=by
 refine Ct.intro Tryz.func19 rfl rfl rfl (λc hc=>?_)
 refine AP 1 ?_;refine AB ?_;refine AV 2 ?_;refine Ah Tryz.call30 [0] [] rfl rfl rfl (by exact Si _ _ _ _ _ _ _ _ _ _ _ (by omega) (by omega)) ?_
 rintro _ _ _ ⟨rfl,rfl,rfl⟩
 refine AL 1 ?_;refine AP 2 ?_;refine AY rfl ?_
 refine GC.skip (?_:GC _ _ _ _)
 refine AV 3 ?_;refine Ad 0 ?_;refine AA 1 ?_;refine AO rfl (G6 rfl rfl Tryz.underlying36 Mc (by omega) (by omega)) ?_;refine AL 1 ?_;refine AB ?_;refine GC.block ?_;refine AV 3 ?_
 refine Ak 26 ?_ ?_
 ·intro h1;try simp only[D6] at h1
  refine AL 9 ?_;refine AU rfl ?_;refine AP 1 ?_;refine GC.ret (AQ 8 [0,0] [] ?_)
  exact⟨rfl,rfl,rfl⟩
 intro h1;try simp only[D6] at h1
 refine AA 4 ?_;refine Au rfl (s:=26) rfl rfl (Ed rfl (EF (i:=1) rfl rfl G_ (Rl hq hi (by simp)))) ?_;refine AL 4 ?_;refine Af ?_ ?_
 ·intro h2;try simp only[D6] at h2
  refine AP 1 ?_;refine GC.ret (AQ 8 [0,0] [] ?_)
  exact⟨rfl,rfl,rfl⟩
 intro h2;try simp only[D6] at h2
 exfalso;omega
theorem gZ(t:Nat)(l:List Pk)(sp:List Value)(cp:Nat)(i:Nat)(at_ mk:Int)(A:Option Addr)(c:Nat)(bs:List UInt8)(hq:gt l (i:Int)=⟨A,c,bs,true⟩)(hi:i<l.length)(hf:0<=at_/\at_<(bs.length:Int)):Ct Tryz.prog 19 [.pointer (some ⟨p,0,none⟩),.int .i64 (i:Int),.int .i64 at_,.int .u8 mk] [Ey p d s z (.slice (some ⟨t,0,none⟩) l.length cp) M a b,.cells t (K_ l++sp) 102] [] (λu G Q=>u=.int .i64 230/\G=[Ey p d s z (.slice (some ⟨t,0,none⟩) l.length cp) M a b,.cells t (K_ l++sp) 102]/\Q=[]):=by
 refine Ct.intro Tryz.func19 rfl rfl rfl (λc hc=>?_)
 refine AP 1 ?_;refine AB ?_;refine AV 2 ?_;refine Ah Tryz.call30 [0] [] rfl rfl rfl (by exact Si _ _ _ _ _ _ _ _ _ _ _ (by omega) (by omega)) ?_
 rintro _ _ _ ⟨rfl,rfl,rfl⟩
 refine AL 1 ?_;refine AP 2 ?_;refine AY rfl ?_
 refine GC.skip (?_:GC _ _ _ _)
 refine AV 3 ?_;refine Ad 0 ?_;refine AA 1 ?_;refine AO rfl (G6 rfl rfl Tryz.underlying36 Mc (by omega) (by omega)) ?_;refine AL 1 ?_;refine AB ?_;refine GC.block ?_;refine AV 3 ?_
 refine Ak 26 ?_ ?_
 ·intro h1;try simp only[D6] at h1
  exfalso;omega
 intro h1;try simp only[D6] at h1
 refine AA 4 ?_;refine Au rfl (s:=26) rfl rfl (Ed rfl (EF (i:=1) rfl rfl G_ (Rl hq hi (by simp)))) ?_;refine AL 4 ?_;refine Af ?_ ?_
 ·intro h2;try simp only[D6] at h2
  exfalso;omega
 intro h2;try simp only[D6] at h2
 refine AV 3 ?_;refine GL.step rfl (Ed rfl (EF (i:=1) rfl rfl jM (lU hq hi (by simp)))) ?_;refine AL 1 ?_;refine AU rfl ?_;refine AP 1 ?_;refine GC.ret (AQ 8 [0,0] [] ?_)
 exact⟨rfl,rfl,rfl⟩
theorem nspoil_c(t:Nat)(l:List Pk)(sp:List Value)(cp:Nat)(i:Nat)(at_:Int)(mk:UInt8)(g:Nat)(c:Nat)(bs:List UInt8)(sp2:List Value)(hq:gt l (i:Int)=⟨some ⟨g,0,none⟩,c,bs,false⟩)(hi:i<l.length)(hf:0<=at_/\at_<(bs.length:Int)):Ct Tryz.prog 19 [.pointer (some ⟨p,0,none⟩),.int .i64 (i:Int),.int .i64 at_,.int .u8 (mk.toNat:Int)] [Ey p d s z (.slice (some ⟨t,0,none⟩) l.length cp) M a b,.cells t (K_ l++sp) 102,.cells g (bs.map JE++sp2) 5] [] (λu G Q=>u=.int .i64 0/\G=[Ey p d s z (.slice (some ⟨t,0,none⟩) l.length cp) M a b,.cells t (K_ (l.set i ⟨some ⟨g,0,none⟩,c,bs.set at_.toNat (gt bs at_ ^^^ mk),true⟩)++sp) 102,.cells g ((bs.set at_.toNat (gt bs at_ ^^^ mk)).map JE++sp2) 5]/\Q=[]):=by
 refine Ct.intro Tryz.func19 rfl rfl rfl (λc hc=>?_)
 refine AP 1 ?_;refine AB ?_;refine AV 2 ?_;refine Ah Tryz.call30 [0] [] rfl rfl rfl (by exact Si _ _ _ _ _ _ _ _ _ _ _ (by omega) (by omega)) ?_
 rintro _ _ _ ⟨rfl,rfl,rfl⟩
 refine AL 1 ?_;refine AP 2 ?_;refine AY rfl ?_
 refine GC.skip (?_:GC _ _ _ _)
 refine AV 3 ?_;refine Ad 0 ?_;refine AA 1 ?_;refine AO rfl (G6 rfl rfl Tryz.underlying36 Mc (by omega) (by omega)) ?_;refine AL 1 ?_;refine AB ?_;refine GC.block ?_;refine AV 3 ?_
 refine Ak 26 ?_ ?_
 ·intro h1;try simp only[D6] at h1
  exfalso;omega
 intro h1;try simp only[D6] at h1
 refine AA 4 ?_;refine Au rfl (s:=26) rfl rfl (Ed rfl (EF (i:=1) rfl rfl G_ (Rl hq hi (by simp)))) ?_;refine AL 4 ?_;refine Af ?_ ?_
 ·intro h2;try simp only[D6] at h2
  exfalso;omega
 intro h2;try simp only[D6] at h2
 refine AV 3 ?_;refine GL.step rfl (Ed rfl (EF (i:=1) rfl rfl jM (lU hq hi (by simp)))) ?_;refine AL 1 ?_;refine AY rfl ?_
 refine GC.skip (?_:GC _ _ _ _)
 refine AV 3 ?_;refine GL.step rfl (Ed rfl (EF (i:=1) rfl rfl G_ (Rl hq hi (by simp)))) ?_;refine AA 1 ?_;refine AO rfl (G6 rfl rfl Tryz.underlying47 Fa (by omega) (by omega)) ?_;refine GL.step rfl (Ed rfl (EF (i:=2) rfl rfl Oa (Rn _ (by omega) (by omega)))) ?_
 refine AA 1 ?_;refine AO rfl (p_xor8 (a:=gt bs at_) (b:=mk) rfl rfl) ?_;refine AO rfl (G6 rfl rfl Tryz.underlying47 Fa (by omega) (by omega)) ?_;refine GL.step rfl (Et (i:=2) rfl rfl rfl rfl Fa rfl (VF _ (by omega) (by omega)) rfl) ?_
 refine BL 3 ?_;refine GL.step rfl (Et (i:=1) rfl rfl rfl rfl VK rfl (upd_pkB (b':=bs.set at_.toNat (gt bs at_ ^^^ mk)) hq hi (by simp) (by simp)) rfl) ?_;refine BL 1 ?_;refine Ap ?_;refine GC.ret (AQ 8 [0,0,0] [] ?_)
 exact⟨rfl,rfl,rfl⟩
end
end Go.Proofs.YtliacpkblicnhaaGreat
namespace Go.Proofs.YtliacpkblicnhaaGreat
open Go Go.Sx Go.Proofs
abbrev lie0:Lie:=⟨none,0,none,0,none,0,none,0,none,0,none,0,none,0,none,0⟩
theorem VP{α:Type}(b:List α)(n:Nat):seg b n b.length=b.drop n:=by simp[seg]
abbrev leftG(p e:Nat)(A:Option Addr)(b:List UInt8)(cp:Nat):List Own:=[.cells p [.slice A b.length cp] e]
theorem Lc(p q:Value)(w:World):CallsD Tryz.prog 48 #[p,q] .returning w λe u' w'=>e=.returned (.tuple #[])/\u'=.returning/\w'=w:=by
 have hn:∀w:World,(binOp BinOp.eql 20 .nilIface .nilIface).run Tryz.prog w=.ok (.bool true) w:=λ_=>by kernel_rfl
 refine callsD_of_wpS Tryz.func48 rfl λc₀ cs hu=>?_
 apply wpS_seq
 apply wpS_region
 simp[wpOpsS,go_sem,recoverD,hu,Tryz.ntmps48,Exit.thenS]
 apply wpS_seq
 apply wpS_seq
 apply wpS_region
 simp[wpOpsS,go_sem,Exit.thenS,hn]
 refine wpS_cond (t:=true) (by simp[Act.eval,Array.replicate]) ?_
 simp only[if_true]
 refine wpS_of_wp (wp_ret ?_)
 cases c₀
 simp_all [bodyPostS,results,Exit.thenS]
theorem rD{e:Entry}(h:Yg e):Lp e:=⟨by have:=h.2.2.2.2.2.1.2.2.2.1.1;omega,by have:=h.2.2.2.2.2.1.2.2.2.2.1;omega,by have:=h.2.2.2.2.2.2.2.1;omega⟩
theorem oZ{s:I4}(h:okStt s):IU s:=⟨by have:=h.2.2.1.1;omega,by have:=h.2.2.2.1.1;omega,by have:=h.2.2.2.2.2.1;omega,λp hp=>by have:=(h.2.2.1.2 p hp).2.2.1;omega,λr hr=>by have:=(h.2.2.2.1.2 r hr).2.2.2.1;omega⟩
theorem msgLen_of{m:GZ}(h:lJ m):FT m:=by
 obtain⟨_,_,_,_,_,_,_,_,_,_,_,h12,h13,Nb,h15,h16⟩:=h
 exact⟨by have:=h12.2.2.2.1.1;omega,by have:=h12.2.2.2.2.1;omega,by have:=h13.2.1;omega,by have:=Nb.2.1;omega,oZ h15,by have:=h16.1;omega,λe he=>rD (h16.2 e he)⟩
theorem quo100{x:Int}(h:0<=x)(h':x<=4611686018427387904):IntKind.i64.wrap (x.tdiv 100)=x / 100:=by
 rw[Int.tdiv_eq_ediv_of_nonneg h]
 exact Fh (by omega) (by omega)
theorem size_ct(m:GZ)(s:Lie)(hm:FT m):Ct Tryz.prog 9 [Ip m s] [] (H9 m s) (λu G Q=>∃z:Int,(z<=60->m.log.length<100000)/\u=.int .i64 z/\G=[]/\Q=[]):=by
 have g1:=hm.d
 have g2:=hm.o
 have g3:=hm.r
 have g4:=hm.s.p
 have g5:=hm.s.r
 have g6:=hm.l
 refine Ct.intro Tryz.func9 rfl rfl rfl (λc hc=>?_)
 refine AX ?_;refine GL.step rfl (Ee rfl rfl rfl) (Aa λIJ=>?_);refine AL 1 ?_;refine AB ?_
 have q1:=quo100 (x:=((m.op.data.length:Int)+(m.op.old.length:Int)+(m.res.data.length:Int))) (by omega) (by omega)
 refine GC.region ?_;refine AA 1 ?_;refine Ad 0 ?_;refine AA 1 ?_;refine AO rfl (EU rfl rfl (Fh (by first|omega|(dsimp only at *;omega)) (by first|omega|(dsimp only at *;omega)))) ?_
 refine AA 2 ?_;refine Ad 0 ?_;refine AA 1 ?_;refine AO rfl (EU rfl rfl (Fh (by first|omega|(dsimp only at *;omega)) (by first|omega|(dsimp only at *;omega)))) ?_
 refine AA 2 ?_;refine Ad 0 ?_;refine AA 1 ?_;refine AO rfl (EU rfl rfl (Fh (by first|omega|(dsimp only at *;omega)) (by first|omega|(dsimp only at *;omega)))) ?_
 refine AA 2 ?_;refine Ad 0 ?_;refine AA 3 ?_;refine Ad 0 ?_;refine AA 1 ?_;refine AO rfl (EU rfl rfl (Fh (by first|omega|(dsimp only at *;omega)) (by first|omega|(dsimp only at *;omega)))) ?_
 refine AA 2 ?_;refine Ad 0 ?_;refine AA 1 ?_;refine AO rfl (EU rfl rfl (Fh (by first|omega|(dsimp only at *;omega)) (by first|omega|(dsimp only at *;omega)))) ?_
 refine AO rfl (O8 rfl rfl (by decide) rfl) ?_;refine AO rfl (EU rfl rfl (Fh (by first|omega|(dsimp only at *;omega)) (by first|omega|(dsimp only at *;omega)))) ?_
 refine AA 1 ?_
 refine Ac (?_:GC _ _ _ _)
 refine AB ?_;refine AP 1 ?_;refine GC.block ?_;refine CV (ks:=[1]) (is:=[0]) (js:=(up 0 8)) (fun(k:Nat) (n:Int)=>k<=m.log.length/\(m.log.length:Int)<=n/\n<=1000000000000000) (fun(k:Nat) (n:Int)=>[(3,.int .i64 n),(4,.int .i64 (k:Int))]) (fun(k:Nat) (n:Int)=>[]) (fun(k:Nat) (n:Int)=>[]) (fun(k:Nat) (n:Int)=>m.log.length - k) (0) (_) rfl rfl rfl (λa w h=>⟨⟨by omega,by omega,by omega⟩,h.Hf (is:=[0]) (js:=(up 0 8)) (ks:=[1]) ⟨rfl,rfl,trivial⟩ rfl rfl rfl⟩) ?_
 intro k n hk
 try dsimp only[List.cons_append,List.nil_append] at hk ⊢
 refine AB ?_;refine AV 2 ?_;refine Ad 0 ?_;refine AA 3 ?_;refine Ak 40 ?_ ?_
 ·intro h1;try simp only[D6] at h1
  refine AL 3 ?_;refine Af ?_ ?_
  ·intro h2;try simp only[D6] at h2
   refine GC.skip (?_:GC _ _ _ _)
   refine AB ?_;refine GC.block ?_
   have hx3:=(hm.e _ (Ec (l:=m.log) (k:=k) (by omega))).d
   have hx4:=(hm.e _ (Ec (l:=m.log) (k:=k) (by omega))).o
   have q2:=quo100 (x:=(((gt m.log (k:Int)).op.data.length:Int)+((gt m.log (k:Int)).op.old.length:Int))) (by omega) (by omega)
   refine BM (y:=.tmp 4) (j:=7) rfl rfl (by first|omega|(dsimp only at *;omega)) (EW (by first|omega|(dsimp only at *;omega)) (by first|omega|(dsimp only at *;omega))) (λZ4 Pg Q7 Vu=>?_)
   rcases Pg with⟨_,⟨_,⟨_,⟨_,⟨_,⟨⟨_,⟨_,⟨_,⟨⟨jP,Y6⟩,⟨Ax50_1,cpx50_1⟩⟩⟩⟩⟩,⟨_,⟨Ax50_2,cpx50_2⟩⟩⟩⟩⟩⟩⟩⟩
   refine BM (y:=.tmp 4) (j:=11) rfl rfl (by first|omega|(dsimp only at *;omega)) (EW (by first|omega|(dsimp only at *;omega)) (by first|omega|(dsimp only at *;omega))) (λp_x58 r_x58 hA_x58 ok_x58=>?_)
   rcases r_x58 with⟨_,⟨_,⟨_,⟨_,⟨_,⟨⟨_,⟨_,⟨_,⟨⟨Ax58_0,cpx58_0⟩,⟨Ax58_1,cpx58_1⟩⟩⟩⟩⟩,⟨_,⟨Ax58_2,cpx58_2⟩⟩⟩⟩⟩⟩⟩⟩
   refine BP Ef (by kernel_rfl) ?_;refine Am 2 ?_;refine GQ.step rfl (Ea (EF (i:=0) rfl rfl ag_62 rfl)) ?_;refine Am 1 ?_;refine GQ.step rfl (EP (Eb Q7 rfl rfl Tryz.underlying62 F9 (by first|omega|(dsimp only at *;omega)) (by first|omega|(dsimp only at *;omega)))) ?_
   refine GQ.step rfl (EP (EM nD rfl)) ?_;refine GQ.step rfl (EP (EM fo_49_3 rfl)) ?_;refine GQ.step rfl (Ea (ES (i:=4) rfl rfl G_ rfl)) ?_;refine Am 2 ?_;refine GQ.step rfl (Ea (EF (i:=0) rfl rfl ag_62 rfl)) ?_
   refine Am 1 ?_;refine GQ.step rfl (EP (Eb hA_x58 rfl rfl Tryz.underlying62 F9 (by first|omega|(dsimp only at *;omega)) (by first|omega|(dsimp only at *;omega)))) ?_
   refine GQ.step rfl (EP (EM nD rfl)) ?_;refine GQ.step rfl (EP (EM fo_49_4 rfl)) ?_;refine GQ.step rfl (Ea (ES (i:=0) rfl rfl G_ rfl)) ?_;refine Am 1 ?_;refine GQ.step rfl (EP (EU rfl rfl (Fh (by first|omega|(dsimp only at *;omega)) (by first|omega|(dsimp only at *;omega))))) ?_
   refine GQ.step rfl (EP (O8 rfl rfl (by decide) rfl)) ?_;refine GQ.step rfl (EP (EU rfl rfl (Fh (by first|omega|(dsimp only at *;omega)) (by first|omega|(dsimp only at *;omega))))) ?_
   refine Am 1 ?_
   refine BO (?_:GC _ _ _ _)
   refine GC.region ?_;refine AA 1 ?_;refine AO rfl (EU rfl rfl (Fh (by first|omega|(dsimp only at *;omega)) (by first|omega|(dsimp only at *;omega)))) ?_
   refine AA 1 ?_;refine Ac ?_
   exact λa w h=>⟨(k+1),(_),(by omega),⟨by omega,by first|omega|(dsimp only;omega),by first|omega|(dsimp only;omega)⟩,h.cut (is:=[0]) (js:=(up 8 8)) ⟨rfl,rfl,rfl,trivial⟩ rfl rfl⟩
  intro h2;try simp only[D6] at h2
  refine GC.exit (?_:GC _ _ _ _)
  refine AB ?_;refine AV 3 ?_;refine Ad 0 ?_;refine AA 2 ?_;refine Ak 71 ?_ ?_
  ·intro h3;try simp only[D6] at h3
   refine AL 6 ?_;refine AU rfl ?_;refine AP 1 ?_;refine GC.ret (AQ 2 [] [] ?_)
   exact⟨_,λh=>by omega,rfl,rfl,rfl⟩
  intro h3;try simp only[D6] at h3
  refine AA 3 ?_;refine Aj 0 ?_;refine AL 2 ?_;refine Af ?_ ?_
  ·intro h4;try simp only[D6] at h4
   refine AP 1 ?_;refine GC.ret (AQ 2 [] [] ?_)
   exact⟨_,λh=>by omega,rfl,rfl,rfl⟩
  intro h4;try simp only[D6] at h4
  refine GC.skip (?_:GC _ _ _ _)
  refine AP 2 ?_;refine GC.ret (AQ 2 [] [] ?_)
  exact⟨_,λh=>by omega,rfl,rfl,rfl⟩
 intro h1;try simp only[D6] at h1
 refine AL 3 ?_;refine AY rfl ?_
 refine GC.exit (?_:GC _ _ _ _)
 refine AB ?_;refine AV 3 ?_;refine Ad 0 ?_;refine AA 2 ?_;refine Ak 71 ?_ ?_
 ·intro h5;try simp only[D6] at h5
  refine AL 6 ?_;refine AU rfl ?_;refine AP 1 ?_;refine GC.ret (AQ 2 [] [] ?_)
  exact⟨_,λh=>by omega,rfl,rfl,rfl⟩
 intro h5;try simp only[D6] at h5
 refine AA 3 ?_;refine Aj 0 ?_;refine AL 2 ?_;refine Af ?_ ?_
 ·intro h6;try simp only[D6] at h6
  refine AP 1 ?_;refine GC.ret (AQ 2 [] [] ?_)
  exact⟨_,λh=>by omega,rfl,rfl,rfl⟩
 intro h6;try simp only[D6] at h6
 refine GC.skip (?_:GC _ _ _ _)
 refine AP 2 ?_;refine GC.ret (AQ 2 [] [] ?_)
 exact⟨_,λh=>by omega,rfl,rfl,rfl⟩
def Iy(n:Nat)(l:List Int):List UInt8:=l.flatMap (λx=>FK n x.toNat)
theorem EL(n:Nat)(l:List Int):(Iy n l).length=n * l.length:=by
 unfold Iy
 induction l with
 |nil=>simp
 |cons x r ih=>rw[List.flatMap_cons,List.length_append,D_,ih,List.length_cons,Nat.mul_succ];omega
theorem OX{n:Nat}{l:List Int}{k:Nat}(h:k<l.length):Iy n (l.take (k+1))=Iy n (l.take k)++FK n (gt l (k:Int)).toNat:=by
 unfold Iy;rw[LP h,List.flatMap_append];simp
def selV:Nat->Value->Value->Value
 |0,a,_=>a
 |_+1,_,b=>b
def selB:Nat->List UInt8->List UInt8
 |0,_=>[]
 |_+1,b=>b
theorem Ii(A:Option Addr)(b:List UInt8)(cp n:Nat)(L:Option Addr)(l:List Int)(cl:Nat)(hn:1<=n)(hn':n<=8)(hb:b.length+8 * l.length<=10000000000000)(hl:∀x∈l,0<=x/\x.toNat<256 ^ n)(h0:l≠[]):Ct Tryz.prog 99 [.slice A b.length cp,.int .i64 (n:Int),.slice L l.length cl] [] [D7.row Kd.u8 A b,D7.row kI L l]
    (λu G Q=>∃A' cp',(b++Iy n l).length<=cp'/\cp'<=9223372036854775807/\u=.slice A' (b++Iy n l).length cp'/\G=[rowOf A' cp' (b++Iy n l)]/\Q=[]):=by
 have h8:256 ^ n<=256 ^ 8:=Nat.pow_le_pow_right (by decide) hn'
 have hln:l.length≠0:=λh=>h0 (List.length_eq_zero_iff.1 h)
 refine Ct.intro Tryz.func99 rfl rfl rfl (λc hc=>?_)
 refine AP 1 ?_
 iterate 2 refine AB ?_
 refine GC.Hu 5 1 ?_;refine GC.region ?_;refine AA 3 ?_
 refine Ac (?_:GC _ _ _ _)
 refine GC.block ?_;refine Bv (ks:=[1,9,10]) (is:=[]) (js:=[0,1]) (fun(k:Nat) (A1:Option Addr) (c1:Nat)=>k<=l.length/\(b++Iy n (l.take k)).length<=max c1 (if k=0 then b.length else 0)/\c1<=9223372036854775807) (fun(k:Nat) (A1:Option Addr) (c1:Nat)=>[(0,selV k (.slice A b.length cp) (.slice A1 (b++Iy n (l.take k)).length c1)),(11,.int .i64 (k:Int))]) (fun(k:Nat) (A1:Option Addr) (c1:Nat)=>[.row (.slice A1 (selB k (b++Iy n (l.take k))).length c1) 5 1 (selB k (b++Iy n (l.take k))).length ((selB k (b++Iy n (l.take k))).map JE)]) (fun(k:Nat) (A1:Option Addr) (c1:Nat)=>[]) (fun(k:Nat) (A1:Option Addr) (c1:Nat)=>l.length - k) (0) (none) (0) rfl rfl rfl (λa w h=>⟨⟨by omega,by simp[Iy],by omega⟩,h.Hf (is:=[0]) (js:=[0,1]) (ks:=[1,9,10]) ⟨rfl,rfl,trivial⟩ rfl rfl rfl⟩) ?_
 intro k A1 c1 hI0
 try dsimp only[List.cons_append,List.nil_append] at hI0 ⊢
 obtain⟨hk,hc1,hc2⟩:=hI0
 refine AP 1 ?_;refine AB ?_;refine Af ?_ ?_
 ·intro h1;try simp only[D6] at h1
  refine GC.skip (?_:GC _ _ _ _)
  refine AB ?_;refine GC.block ?_;refine AB ?_
  have hx:=hl _ (Ec (l:=l) (k:=k) (by omega))
  have hnk:=lZ hn' (show k<=l.length by omega)
  refine GC.region ?_;refine GL.step rfl (Ej (i:=1) rfl rfl rfl rfl Tryz.underlying53 GV (by omega) (EW (by omega) (by omega))) (Aa λp_x13=>Aa λVl=>GL.and λgW=>?_)
  rcases Vl with _
  refine GL.step rfl (Ed rfl (ES (i:=0) rfl rfl Ei rfl)) ?_;refine AA 1 ?_
  refine Ac (?_:GC _ _ _ _)
  rcases k with _|k
  ·dsimp only[selV,selB]
   refine GC.region ?_;refine AA 2 ?_;refine AO rfl (EO (t:=3) (r:=(((gt l ((0:Nat):Int)).toNat:Nat):Int)) (by rw[Tryz.underlying3];simp) Tryz.underlying45 rfl (by rw[bn (by omega) (by omega)];omega)) ?_
   refine AA 1 ?_;refine Ah Tryz.call66 [] [1] rfl rfl rfl (by exact Uz _ b _ (gt l ((0:Nat):Int)).toNat n hn hn' (by omega) hx.2) ?_
   rintro _ _ _ ⟨YA,cp20,V9,k20,rfl,rfl,rfl⟩
   refine AA 4 ?_
   refine Ac (?_:GC _ _ _ _)
   refine GC.region ?_;refine AO rfl (EU rfl rfl (Fh (by omega) (by omega))) ?_;refine AA 1 ?_;refine Ac ?_
   exact λa w h=>⟨(0+1),(YA),(cp20),(by omega),⟨by omega,Nat.le_trans (by rw[OX (by omega)];simpa[Iy] using V9) (Nat.le_max_left _ _),k20⟩,by rw[show Iy n (l.take (0+1))=FK n (gt l ((0:Nat):Int)).toNat from by rw[OX (by omega)];simp[Iy]];exact h.cut (is:=[0]) (js:=[1,2]) ⟨rfl,rfl,rfl,rfl,rfl,trivial⟩ rfl rfl⟩
  dsimp only[selV,selB]
  refine GC.region ?_;refine GL.EN (i:=0) rfl ?_;refine AA 2 ?_;refine AO rfl (EO (t:=3) (r:=(((gt l ((k+1:Nat):Int)).toNat:Nat):Int)) (by rw[Tryz.underlying3];simp) Tryz.underlying45 rfl (by rw[bn (by omega) (by omega)];omega)) ?_
  refine AA 1 ?_;refine Ah Tryz.call66 [] [0] rfl rfl rfl (by exact Uz _ (b++Iy n (l.take (k+1))) _ (gt l ((k+1:Nat):Int)).toNat n hn hn' (by rw[List.length_append,EL,List.length_take,Nat.min_eq_left (by omega)];omega) hx.2) ?_
  rintro _ _ _ ⟨YA,cp20,V9,k20,rfl,rfl,rfl⟩
  refine AA 4 ?_
  refine Ac (?_:GC _ _ _ _)
  refine GC.region ?_;refine AO rfl (EU rfl rfl (Fh (by omega) (by omega))) ?_;refine AA 1 ?_;refine Ac ?_
  exact λa w h=>⟨(k+1+1),(YA),(cp20),(by omega),⟨by omega,Nat.le_trans (by rw[OX (by omega),<-List.append_assoc];exact V9) (Nat.le_max_left _ _),k20⟩,by rw[OX (by omega),<-List.append_assoc];exact h.cut (is:=[0]) (js:=[2,3]) ⟨rfl,rfl,rfl,rfl,rfl,trivial⟩ rfl rfl⟩
 intro h1;try simp only[D6] at h1
 refine GC.exit (?_:GC _ _ _ _)
 refine AP 2 ?_
 obtain rfl:k=l.length:=by omega
 obtain⟨j,hj⟩:∃j,l.length=j+1:=⟨l.length - 1,by omega⟩
 rw[List.take_length,hj] at *
 rw[if_neg (by omega),Nat.max_zero] at hc1
 refine GC.ret (AQ 6 [0] [] ?_)
 exact⟨_,_,hc1,hc2,rfl,rfl,rfl⟩
def G9(x:Int):UInt8:=UInt8.ofNat x.toNat
theorem NT{x:Int}(h:0<=x)(h':x<256):x=(((G9 x).toNat:Nat):Int):=by
 unfold G9
 have:(UInt8.ofNat x.toNat).toNat=x.toNat:=by simp;omega
 rw[this];omega
theorem cvZ{x:Int}(h:0<=x)(h':x<18446744073709551616):IntKind.u64.wrap x=((x.toNat:Nat):Int):=by rw[bn h h'];omega
theorem Gn:(256:Nat) ^ 4=4294967296:=by decide
theorem Gi:(256:Nat) ^ 8=18446744073709551616:=by decide
theorem Gp:(256:Nat) ^ 1=256:=by decide
def Ri(o:LM):List UInt8:=[G9 o.kind]++Lm 4 [o.at_.toNat,o.n.toNat]++FK 4 o.data.length++o.data++FK 4 o.old.length++o.old
def NZ(r:J4):List UInt8:=[G9 r.code]++FK 4 r.data.length++r.data
def JB(g:Ld):List UInt8:=Iy 8 [g.epoch]++Iy 1 [(g.members.length:Int)]++Iy 1 g.members
def He(e:Entry):List UInt8:=[G9 e.kind]++Iy 8 [e.num,e.view,e.client,e.serial]++(if e.kind=2 then JB e.grp else Ri e.op)
theorem NP{o:LM}(h:Jp o):1<=o.kind/\o.kind<=5/\0<=o.at_/\o.at_<=2147483647/\0<=o.n/\o.n<=2147483647/\o.data.length<=262144/\o.old.length<=4096:=by
 obtain⟨h1,h2,h3,h4,h5,h6,h7⟩:=h
 refine⟨?_,?_,h1,h2,h3,h4,h5,h6⟩<;>unfold PD at h7<;>omega
theorem form_ok(o:LM)(h:Jp o)(A:Option Addr)(cp:Nat)(B:Option Addr)(cq:Nat):Ct Tryz.prog 87 [lI o A cp B cq] [] [] (λv G Q=>v=.int .i64 0/\G=[]/\Q=[]):=by
 have:=Oq o.kind o.at_ o.n A o.data.length cp B o.old.length cq
 rw[(D8 ..).2 h] at this
 exact this
theorem IB{o:LM}(h:Jp o):(Ri o).length<=300000:=by
 have:=NP h
 simp[Ri,EG,D_];omega
theorem bQ(o:LM)(A:Option Addr)(cp:Nat)(B:Option Addr)(cq:Nat)(hf:Jp o):Ct Tryz.prog 63 [lI o A cp B cq] [] [D7.row Kd.u8 A o.data,D7.row Kd.u8 B o.old]
    (λu G Q=>∃A' cp',(Ri o).length<=cp'/\cp'<=9223372036854775807/\u=.tuple #[.slice A' (Ri o).length cp',.int .i64 0]/\G=[rowOf A' cp' (Ri o)]/\Q=[]):=by
 obtain⟨r1,r2,r3,r4,r5,r6,r7,r8⟩:=NP hf
 refine Ct.intro Tryz.func63 rfl rfl rfl (λc hc=>?_)
 refine AX ?_;refine GL.step rfl (Ee rfl rfl rfl) (Aa λIJ=>?_);refine AL 2 ?_;refine AB ?_;refine AX ?_;refine Az 0 5 ?_;refine Ah Tryz.call87 [] [] rfl rfl rfl (by exact form_ok o hf _ _ _ _) ?_
 rintro _ _ _ ⟨rfl,rfl,rfl⟩
 refine AL 1 ?_;refine AP 2 ?_;refine AY rfl ?_
 refine GC.skip (?_:GC _ _ _ _)
 refine AV 1 ?_;refine Ad 0 ?_;refine GL.LW 14 rfl (congrArg (Value.int .u8) (NT (by omega) (by omega))) ?_;refine GL.step rfl (EC rfl Tryz.underlying47 Fa Jd rfl rfl rfl rfl rfl rfl) (Aa λb_t15=>?_)
 refine AA 1 ?_;refine Ad 1 ?_;refine AO rfl (EO (t:=3) (r:=((o.at_.toNat:Nat):Int)) (by rw[Tryz.underlying3];simp) Tryz.underlying45 rfl (cvZ (by omega) (by omega))) ?_
 refine AA 1 ?_;refine Ad 1 ?_;refine AO rfl (EO (t:=3) (r:=((o.n.toNat:Nat):Int)) (by rw[Tryz.underlying3];simp) Tryz.underlying45 rfl (cvZ (by omega) (by omega))) ?_
 refine GL.step rfl (EC rfl Tryz.underlying180 UJ ZM rfl rfl rfl rfl rfl rfl) (Aa λb_t22=>?_);refine GL.FD (enc:=JE) (xs:=[G9 o.kind]) (h1:=λ_=>rfl) (i:=1) rfl ?_;refine GL.FD (enc:=uv) (xs:=[o.at_.toNat,o.n.toNat]) (h1:=λ_=>rfl) (i:=0) rfl ?_
 refine Ah Tryz.call62 [] [1,0] rfl rfl rfl (by exact QU _ [G9 o.kind] _ 4 _ [o.at_.toNat,o.n.toNat] _ (by omega) (by omega) (by simp) (by rw[Gn];intro x hx;simp at hx;omega)) ?_
 rintro _ _ _ ⟨A23,cp23,l23,k23,rfl,rfl,rfl⟩
 refine AL 5 ?_;refine AV 2 ?_;refine Ad 1 ?_;refine GL.EN (i:=0) rfl ?_;refine Ah Tryz.call68 [] [0,3] rfl rfl rfl (by exact NI _ ([G9 o.kind]++Lm 4 [o.at_.toNat,o.n.toNat]) _ _ o.data _ (by simp[EG]) (by omega)) ?_
 rintro _ _ _ ⟨A30,cp30,l30,k30,rfl,rfl,rfl⟩
 refine AL 4 ?_;refine AV 2 ?_;refine Ad 1 ?_;refine GL.EN (i:=0) rfl ?_;refine Ah Tryz.call68 [] [0,5] rfl rfl rfl (by exact NI _ ([G9 o.kind]++Lm 4 [o.at_.toNat,o.n.toNat]++FK 4 o.data.length++o.data) _ _ o.old _ (by simp[EG,D_];omega) (by omega)) ?_
 rintro _ _ _ ⟨A37,cp37,l37,k37,rfl,rfl,rfl⟩
 refine AL 4 ?_;refine AP 3 ?_;refine GC.ret (BR 2 3 [0] [] ?_)
 exact⟨_,_,l37,k37,rfl,rfl,rfl⟩
theorem QO{r:J4}(h:Ic r.code r.data.length=true):1<=r.code/\r.code<=4/\r.data.length<=262144:=by
 simp only[Ic,Bool.or_eq_true,Bool.and_eq_true,decide_eq_true_eq] at h;omega
theorem bres_ok(r:J4)(h:Ic r.code r.data.length=true)(A:Option Addr)(cp:Nat):Ct Tryz.prog 88 [.agg #[.int .u8 r.code,.slice A r.data.length cp]] [] [] (λv G Q=>v=.int .i64 0/\G=[]/\Q=[]):=by
 have:=SV r.code A r.data.length cp
 rw[if_pos h] at this
 exact this
theorem X4(r:J4)(A:Option Addr)(cp:Nat)(hf:Ic r.code r.data.length=true):Ct Tryz.prog 64 [.agg #[.int .u8 r.code,.slice A r.data.length cp]] [] [D7.row Kd.u8 A r.data]
    (λu G Q=>∃A' cp',(NZ r).length<=cp'/\cp'<=9223372036854775807/\u=.tuple #[.slice A' (NZ r).length cp',.int .i64 0]/\G=[rowOf A' cp' (NZ r)]/\Q=[]):=by
 obtain⟨r1,r2,r3⟩:=QO hf
 refine Ct.intro Tryz.func64 rfl rfl rfl (λc hc=>?_)
 refine AX ?_;refine GL.step rfl (Ee rfl rfl rfl) (Aa λIJ=>?_);refine AL 2 ?_;refine AB ?_;refine AX ?_;refine Az 0 2 ?_;refine Ah Tryz.call88 [] [] rfl rfl rfl (by exact bres_ok r hf _ _) ?_
 rintro _ _ _ ⟨rfl,rfl,rfl⟩
 refine AL 1 ?_;refine AP 2 ?_;refine AY rfl ?_
 refine GC.skip (?_:GC _ _ _ _)
 refine AV 1 ?_;refine Ad 0 ?_;refine GL.LW 11 rfl (congrArg (Value.int .u8) (NT (by omega) (by omega))) ?_;refine GL.step rfl (EC rfl Tryz.underlying47 Fa Jd rfl rfl rfl rfl rfl rfl) (Aa λXE=>?_)
 refine AA 1 ?_;refine Ad 1 ?_;refine GL.FD (enc:=JE) (xs:=[G9 r.code]) (h1:=λ_=>rfl) (i:=0) rfl ?_;refine Ah Tryz.call68 [] [0,1] rfl rfl rfl (by exact NI _ [G9 r.code] _ _ r.data _ (by simp) (by omega)) ?_
 rintro _ _ _ ⟨jT,cp15,l15,k15,rfl,rfl,rfl⟩
 refine AL 4 ?_;refine GC.ret (BR 2 3 [0] [] ?_)
 exact⟨_,_,l15,k15,rfl,rfl,rfl⟩
theorem Hq{r:J4}(h:Ic r.code r.data.length=true):(NZ r).length<=300000:=by
 have:=QO h
 simp[NZ,D_];omega
theorem aX:∀{l:List Int} {b:Int},LZ b l=true -> -1<=b->∀x∈l,0<=x/\x<64
 |[],b,h,hb,x,hx=>by cases hx
 |y::r,b,h,hb,x,hx=>by
  simp only[LZ,Bool.and_eq_true,decide_eq_true_eq] at h
  obtain⟨⟨h1,h2⟩,h3⟩:=h
  rcases List.mem_cons.1 hx with rfl|hx
  ·omega
  ·exact aX h3 (by omega) x hx
theorem Fp{g:Ld}(h:FP g.epoch g.members=true):(∀x∈g.members,0<=x/\x<64)/\1<=g.members.length/\g.members.length<=9/\0<=g.epoch/\g.epoch<=4611686018427387904:=by
 refine⟨aX (b := -1) ?_ (by omega),grp_len h⟩
 simp only[FP,Bool.and_eq_true] at h
 exact h.2
theorem P7{g:Ld}(h:FP g.epoch g.members=true):(JB g).length<=100:=by
 have:=Fp h
 simp[JB,EL];omega
theorem NJ(n:Nat)(L:Option Addr)(l:List Int)(cl:Nat)(hn:1<=n)(hn':n<=8)(hb:8 * l.length<=10000000000000)(hl:∀x∈l,0<=x/\x.toNat<256 ^ n)(h0:l≠[]):Ct Tryz.prog 99 [.slice none 0 0,.int .i64 (n:Int),.slice L l.length cl] [] [D7.row kI L l]
  (λu G Q=>∃A' cp',(Iy n l).length<=cp'/\cp'<=9223372036854775807/\u=.slice A' (Iy n l).length cp'/\G=[rowOf A' cp' (Iy n l)]/\Q=[]) :=
 Ct.free (Ii none [] 0 n L l cl hn hn' (by simpa using hb) hl h0) gy
theorem mpg_ct(A:Option Addr)(b:List UInt8)(cp:Nat)(g:Ld)(B:Option Addr)(cq:Nat)(hg:FP g.epoch g.members=true)(hb:b.length<=1000000000000):Ct Tryz.prog 100 [.slice A b.length cp,Qj g.epoch B g.members.length cq] [] [D7.row Kd.u8 A b,D7.row kI B g.members]
    (λu G Q=>∃A' cp',(b++JB g).length<=cp'/\cp'<=9223372036854775807/\u=.slice A' (b++JB g).length cp'/\G=[rowOf A' cp' (b++JB g)]/\Q=[]):=by
 obtain⟨r1,r2,r3,r4,r5⟩:=Fp hg
 have hgm:g.members≠[]:=λh=>by rw[h] at r2;simp at r2
 have e:b++Iy 8 [g.epoch]++Iy 1 [(g.members.length:Int)]++Iy 1 g.members=b++JB g:=by simp[JB,List.append_assoc]
 rw[<-e]
 refine Ct.intro Tryz.func100 rfl rfl rfl (λc hc=>?_)
 refine AX ?_;refine GL.step rfl (Ee rfl rfl rfl) (Aa λFQ=>?_);refine AL 1 ?_;refine AB ?_;refine BF (m:=14) (is:=[0]) (js:=[0,1]) Ef rfl rfl rfl ?_;refine AZ 0 [0] [0,1] ?_
 refine AZ 1 [0] [0,1] ?_;refine BA 2 rfl [0] [0,1] (i_mem (EF (i:=0) rfl rfl Ei rfl)) ?_;refine AZ 5 [0] [0,1] ?_;refine BA 6 rfl [0] [0,1] (i_mem (EF (i:=0) rfl rfl JZ rfl)) ?_;refine AZ 7 [0] [0,1] ?_
 refine AZ 10 [0] [0,1] ?_;refine BA 11 rfl [0] [0,1] (i_mem (EF (i:=0) rfl rfl JZ rfl)) ?_;refine Aw [3,8] ?_
 refine E8.cons (i:=3) rfl rfl (EC rfl Tryz.underlying53 GV Ja rfl rfl rfl rfl rfl rfl) (by rintro a w ⟨_,h⟩;exact h.me [1] [0,1]) (BZ λZA=>?_) ?_
 ·refine GA.FD (enc:=iv) (xs:=[g.epoch]) (h1:=λ_=>rfl) (i:=0) rfl ?_;refine Aw [4,8] ?_
  refine E8.cons (i:=4) rfl rfl (EI rfl Tryz.call99 rfl (is:=[]) (js:=[1,0]) rfl rfl (by exact Ii _ b _ 8 _ [g.epoch] _ (by omega) (by omega) (by simp;omega) (by rw[Gi];intro x hx;simp at hx;omega) (by simp))) (by rintro a w ⟨_,_,_,⟨A9,rX,l9,k9,rfl,rfl,rfl⟩,h⟩;exact h.me [1] [1,2]) (GA.ret ?_) ?_
  ·rintro _ _ _ ⟨A9,rX,l9,k9,rfl,rfl,rfl⟩
   refine Aw [8] ?_
   refine E8.cons (i:=8) rfl rfl (EC rfl Tryz.underlying53 GV Ja rfl rfl rfl rfl rfl rfl) (by rintro a w ⟨_,h⟩;exact h.me [2] [1,2]) (BZ λny=>?_) Ag
   refine GA.FD (enc:=iv) (xs:=[(g.members.length:Int)]) (h1:=λ_=>rfl) (i:=0) rfl ?_;refine GA.EN (i:=0) rfl ?_;refine Aw [9] ?_
   refine E8.cons (i:=9) rfl rfl (EI rfl Tryz.call99 rfl (is:=[]) (js:=[0,1]) rfl rfl (by exact Ii _ (b++Iy 8 [g.epoch]) _ 1 _ [(g.members.length:Int)] _ (by omega) (by omega) (by simp[EL];omega) (by rw[Gp];intro x hx;simp at hx;omega) (by simp))) (by rintro a w ⟨_,_,_,⟨A14,XA,l14,k14,rfl,rfl,rfl⟩,h⟩;exact h.me [1] [3,4]) (GA.ret ?_) Ag
   rintro _ _ _ ⟨A14,XA,l14,k14,rfl,rfl,rfl⟩
   refine GA.EN (i:=0) rfl ?_;refine Aw [12] ?_
   refine E8.cons (i:=12) rfl rfl (EI rfl Tryz.call99 rfl (is:=[]) (js:=[0,5]) rfl rfl (by exact Ii _ (b++Iy 8 [g.epoch]++Iy 1 [(g.members.length:Int)]) _ 1 _ g.members _ (by omega) (by omega) (by simp[EL];omega) (by rw[Gp];intro x hx;have:=r1 x hx;omega) hgm)) (by rintro a w ⟨_,_,_,⟨A17,cp17,l17,k17,rfl,rfl,rfl⟩,h⟩;exact h.me [1] [4,5]) (GA.ret ?_) Ag
   rintro _ _ _ ⟨A17,cp17,l17,k17,rfl,rfl,rfl⟩
   refine AZ 13 [1] [4,5] ?_
   refine BG (by kernel_rfl) (?_:GC _ _ _ _)
   refine GC.ret (AQ 4 [0] [] ?_)
   exact⟨_,_,l17,k17,rfl,rfl,rfl⟩
  refine E8.cons (i:=8) rfl rfl (EC rfl Tryz.underlying53 GV Ja rfl rfl rfl rfl rfl rfl) (by rintro a w ⟨_,h⟩;exact h.me [1] [1,2]) (BZ λny=>?_) Ag
  refine Aw [4] ?_
  refine E8.cons (i:=4) rfl rfl (EI rfl Tryz.call99 rfl (is:=[]) (js:=[1,0]) rfl rfl (by exact Ii _ b _ 8 _ [g.epoch] _ (by omega) (by omega) (by simp;omega) (by rw[Gi];intro x hx;simp at hx;omega) (by simp))) (by rintro a w ⟨_,_,_,⟨A9,rX,l9,k9,rfl,rfl,rfl⟩,h⟩;exact h.me [2] [1,2]) (GA.ret ?_) Ag
  rintro _ _ _ ⟨A9,rX,l9,k9,rfl,rfl,rfl⟩
  refine GA.FD (enc:=iv) (xs:=[(g.members.length:Int)]) (h1:=λ_=>rfl) (i:=1) rfl ?_;refine GA.EN (i:=0) rfl ?_;refine Aw [9] ?_
  refine E8.cons (i:=9) rfl rfl (EI rfl Tryz.call99 rfl (is:=[]) (js:=[0,1]) rfl rfl (by exact Ii _ (b++Iy 8 [g.epoch]) _ 1 _ [(g.members.length:Int)] _ (by omega) (by omega) (by simp[EL];omega) (by rw[Gp];intro x hx;simp at hx;omega) (by simp))) (by rintro a w ⟨_,_,_,⟨A14,XA,l14,k14,rfl,rfl,rfl⟩,h⟩;exact h.me [1] [3,4]) (GA.ret ?_) Ag
  rintro _ _ _ ⟨A14,XA,l14,k14,rfl,rfl,rfl⟩
  refine GA.EN (i:=0) rfl ?_;refine Aw [12] ?_
  refine E8.cons (i:=12) rfl rfl (EI rfl Tryz.call99 rfl (is:=[]) (js:=[0,5]) rfl rfl (by exact Ii _ (b++Iy 8 [g.epoch]++Iy 1 [(g.members.length:Int)]) _ 1 _ g.members _ (by omega) (by omega) (by simp[EL];omega) (by rw[Gp];intro x hx;have:=r1 x hx;omega) hgm)) (by rintro a w ⟨_,_,_,⟨A17,cp17,l17,k17,rfl,rfl,rfl⟩,h⟩;exact h.me [1] [4,5]) (GA.ret ?_) Ag
  rintro _ _ _ ⟨A17,cp17,l17,k17,rfl,rfl,rfl⟩
  refine AZ 13 [1] [4,5] ?_
  refine BG (by kernel_rfl) (?_:GC _ _ _ _)
  refine GC.ret (AQ 4 [0] [] ?_)
  exact⟨_,_,l17,k17,rfl,rfl,rfl⟩
 refine E8.cons (i:=8) rfl rfl (EC rfl Tryz.underlying53 GV Ja rfl rfl rfl rfl rfl rfl) (by rintro a w ⟨_,h⟩;exact h.me [1] [0,1]) (BZ λny=>?_) Ag
 refine Aw [3] ?_
 refine E8.cons (i:=3) rfl rfl (EC rfl Tryz.underlying53 GV Ja rfl rfl rfl rfl rfl rfl) (by rintro a w ⟨_,h⟩;exact h.me [2] [0,1]) (BZ λZA=>?_) Ag
 refine GA.FD (enc:=iv) (xs:=[g.epoch]) (h1:=λ_=>rfl) (i:=0) rfl ?_;refine Aw [4] ?_
 refine E8.cons (i:=4) rfl rfl (EI rfl Tryz.call99 rfl (is:=[]) (js:=[1,0]) rfl rfl (by exact Ii _ b _ 8 _ [g.epoch] _ (by omega) (by omega) (by simp;omega) (by rw[Gi];intro x hx;simp at hx;omega) (by simp))) (by rintro a w ⟨_,_,_,⟨A9,rX,l9,k9,rfl,rfl,rfl⟩,h⟩;exact h.me [2] [1,2]) (GA.ret ?_) Ag
 rintro _ _ _ ⟨A9,rX,l9,k9,rfl,rfl,rfl⟩
 refine GA.FD (enc:=iv) (xs:=[(g.members.length:Int)]) (h1:=λ_=>rfl) (i:=1) rfl ?_;refine GA.EN (i:=0) rfl ?_;refine Aw [9] ?_
 refine E8.cons (i:=9) rfl rfl (EI rfl Tryz.call99 rfl (is:=[]) (js:=[0,1]) rfl rfl (by exact Ii _ (b++Iy 8 [g.epoch]) _ 1 _ [(g.members.length:Int)] _ (by omega) (by omega) (by simp[EL];omega) (by rw[Gp];intro x hx;simp at hx;omega) (by simp))) (by rintro a w ⟨_,_,_,⟨A14,XA,l14,k14,rfl,rfl,rfl⟩,h⟩;exact h.me [1] [3,4]) (GA.ret ?_) Ag
 rintro _ _ _ ⟨A14,XA,l14,k14,rfl,rfl,rfl⟩
 refine GA.EN (i:=0) rfl ?_;refine Aw [12] ?_
 refine E8.cons (i:=12) rfl rfl (EI rfl Tryz.call99 rfl (is:=[]) (js:=[0,5]) rfl rfl (by exact Ii _ (b++Iy 8 [g.epoch]++Iy 1 [(g.members.length:Int)]) _ 1 _ g.members _ (by omega) (by omega) (by simp[EL];omega) (by rw[Gp];intro x hx;have:=r1 x hx;omega) hgm)) (by rintro a w ⟨_,_,_,⟨A17,cp17,l17,k17,rfl,rfl,rfl⟩,h⟩;exact h.me [1] [4,5]) (GA.ret ?_) Ag
 rintro _ _ _ ⟨A17,cp17,l17,k17,rfl,rfl,rfl⟩
 refine AZ 13 [1] [4,5] ?_
 refine BG (by kernel_rfl) (?_:GC _ _ _ _)
 refine GC.ret (AQ 4 [0] [] ?_)
 exact⟨_,_,l17,k17,rfl,rfl,rfl⟩
theorem mpg_nil(g:Ld)(B:Option Addr)(cq:Nat)(hg:FP g.epoch g.members=true):Ct Tryz.prog 100 [.slice none 0 0,Qj g.epoch B g.members.length cq] [] [D7.row kI B g.members]
  (λu G Q=>∃A' cp',(JB g).length<=cp'/\cp'<=9223372036854775807/\u=.slice A' (JB g).length cp'/\G=[rowOf A' cp' (JB g)]/\Q=[]) :=
 Ct.free (mpg_ct none [] 0 g B cq hg (by simp)) gy
theorem U3{e:Entry}(h:Eo e):(1<=e.num/\e.num<=4611686018427387904)/\(1<=e.client/\e.client<=4611686018427387904)/\(1<=e.serial/\e.serial<=4611686018427387904)/\(0<=e.view/\e.view<=4611686018427387904)/\(e.kind=1\/e.kind=2)/\(e.kind=2->FP e.grp.epoch e.grp.members=true)/\(e.kind≠2->Jp e.op):=by
 obtain⟨h1,h2,h3,h4,h5⟩:=h
 refine⟨ET h1,ET h2,ET h3,h4,?_,λg=>?_,λg=>?_⟩
 ·rcases h5 with h5|h5<;>omega
 ·rcases h5 with h5|h5
  ·omega
  ·exact h5.2.2.1
 ·rcases h5 with h5|h5
  ·exact h5.2.1
  ·omega
theorem ment_ok(e:Entry)(h:Eo e)(A:Option Addr)(cp:Nat)(B:Option Addr)(cq:Nat)(C:Option Addr)(cr:Nat)(hl:e.grp.members.length<=140737488355328):Ct Tryz.prog 101 [Wj e A cp B cq C cr] [] (Wn e A B C) (λu G Q=>u=.int .i64 0/\G=[]/\Q=[]):=by
 have:=Ns e A cp B cq C cr hl
 rw[show Oy e=0 from if_pos h] at this
 exact this
theorem Ht{e:Entry}(h:Eo e):(He e).length<=400000:=by
 have r:=U3 h
 simp only[He,List.length_append,EL]
 by_cases h2:e.kind=2
 ·rw[if_pos h2];have:=P7 (r.2.2.2.2.2.1 h2);simp;omega
 ·rw[if_neg h2];have:=IB (r.2.2.2.2.2.2 h2);simp;omega
theorem rF(e:Entry)(A:Option Addr)(cp:Nat)(B:Option Addr)(cq:Nat)(C:Option Addr)(cr:Nat)(he_:Eo e)(hl:e.grp.members.length<=140737488355328):Ct Tryz.prog 67 [Wj e A cp B cq C cr] [] (Wn e A B C)
    (λu G Q=>∃A' cp',(He e).length<=cp'/\cp'<=9223372036854775807/\u=.tuple #[.slice A' (He e).length cp',.int .i64 0]/\G=[rowOf A' cp' (He e)]/\Q=[]):=by
 obtain⟨r1,r2,r3,r4,r5,r6,r7⟩:=U3 he_
 refine Ct.intro Tryz.func67 rfl rfl rfl (λc hc=>?_)
 refine AX ?_;refine GL.step rfl (Ee rfl rfl rfl) (Aa λIJ=>?_);refine AL 2 ?_;refine AB ?_;refine AX ?_;refine Az 0 12 ?_;refine Ah Tryz.call101 [] [0,1,2] rfl rfl rfl (by exact ment_ok e he_ _ _ _ _ _ _ hl) ?_
 rintro _ _ _ ⟨rfl,rfl,rfl⟩
 refine AL 1 ?_;refine AP 2 ?_;refine AY rfl ?_
 refine GC.skip (?_:GC _ _ _ _)
 refine AV 1 ?_;refine Ad 0 ?_;refine GL.LW 14 rfl (congrArg (Value.int .u8) (NT (by omega) (by omega))) ?_;refine GL.step rfl (EC rfl Tryz.underlying47 Fa Jd rfl rfl rfl rfl rfl rfl) (Aa λb_t15=>?_)
 refine AA 1 ?_;refine Ad 1 ?_;refine AA 1 ?_;refine Ad 1 ?_;refine AA 1 ?_;refine Ad 1 ?_;refine AA 1 ?_;refine Ad 1 ?_;refine GL.step rfl (EC rfl Tryz.underlying53 GV Ja rfl rfl rfl rfl rfl rfl) (Aa λb_t24=>?_)
 refine GL.FD (enc:=JE) (xs:=[G9 e.kind]) (h1:=λ_=>rfl) (i:=1) rfl ?_;refine GL.FD (enc:=iv) (xs:=[e.num,e.view,e.client,e.serial]) (h1:=λ_=>rfl) (i:=0) rfl ?_;refine Ah Tryz.call99 [] [1,0] rfl rfl rfl (by exact Ii _ [G9 e.kind] _ 8 _ [e.num,e.view,e.client,e.serial] _ (by omega) (by omega) (by simp) (by rw[Gi];intro x hx;simp at hx;omega) (by simp)) ?_
 rintro _ _ _ ⟨A25,cZ,l25,k25,rfl,rfl,rfl⟩
 refine AL 1 ?_;refine AB ?_;refine AV 1 ?_;refine Ad 1 ?_;refine AL 1 ?_;refine Af ?_ ?_
 ·intro h1;try simp only[D6] at h1
  refine AV 2 ?_;refine Az 1 2 ?_;refine GL.EN (i:=0) rfl ?_;refine Ah Tryz.call100 [] [0,5] rfl rfl rfl (by exact mpg_ct _ ([G9 e.kind]++Iy 8 [e.num,e.view,e.client,e.serial]) _ e.grp _ _ (r6 (by assumption)) (by simp[EL])) ?_
  rintro _ _ _ ⟨A32,cp32,l32,k32,rfl,rfl,rfl⟩
  refine AL 2 ?_;refine GC.ret (BR 2 3 [0] [] ?_)
  have eb:He e=[G9 e.kind]++Iy 8 [e.num,e.view,e.client,e.serial]++JB e.grp:=by rw[He,if_pos (by assumption)]
  rw[eb]
  exact⟨_,_,l32,k32,rfl,rfl,rfl⟩
 intro h1;try simp only[D6] at h1
 refine GC.skip (?_:GC _ _ _ _)
 refine AV 1 ?_;refine Az 1 5 ?_;refine Ah Tryz.call63 [] [2,3] rfl rfl rfl (by exact bQ e.op _ _ _ _ (r7 (by assumption))) ?_
 rintro _ _ _ ⟨A36,cO,l36,k36,rfl,rfl,rfl⟩
 refine AL 5 ?_;refine AV 2 ?_;refine GL.EN (i:=0) rfl ?_;refine GL.step rfl (Ep (i:=0) (k:=0) rfl Fv rfl rfl rfl rfl (by have:=IB (r7 (by assumption));simp[EL];omega) (λ_=>rfl)) (Aa λv41=>?_)
 refine GL.rowIs (i:=0) (m':=(([G9 e.kind]++Iy 8 [e.num,e.view,e.client,e.serial]++Ri e.op)).length) (cs':=(([G9 e.kind]++Iy 8 [e.num,e.view,e.client,e.serial]++Ri e.op)).map JE) rfl (by first|(simp only[List.length_append,List.length_cons,List.length_nil,List.append_assoc];done)|(simp only[List.length_append,List.length_cons,List.length_nil,List.append_assoc];omega)|(simp[EL];done)|(simp[EL];omega)|rfl) (by first|(simp only[List.map_append,List.map_cons,List.map_nil,List.append_assoc];done)|(simp[EL];done)|rfl) rfl ?_
 refine GL.shape (i:=0) rfl (λA_mp25 c_mp25 e_mp25 l_mp25 k_mp25=>?_)
 subst e_mp25
 refine AL 3 ?_;refine GC.ret (BR 2 3 [0] [] ?_)
 have eb:He e=[G9 e.kind]++Iy 8 [e.num,e.view,e.client,e.serial]++Ri e.op:=by rw[He,if_neg (by assumption)]
 rw[eb]
 exact⟨_,_,l_mp25,k_mp25,rfl,rfl,rfl⟩
def OE(p:F5):List UInt8:=Iy 4 [p.at_]++Iy 8 [p.ver]++FK 4 p.data.length++p.data
def FZ(r:Row):List UInt8:=Iy 8 [r.client,r.serial]++NZ r.result
def JI(s:I4):List UInt8:=Iy 8 [s.num]++Iy 4 [s.Jo.bl,s.Jo.sz,(s.pages.length:Int)]
def JR(s:I4):List UInt8:=JI s++s.pages.flatMap OE++[G9 (s.rows.length:Int)]++s.rows.flatMap FZ++JB s.grp
theorem MC{α β:Type}[Inhabited α]{f:α->List β}{l:List α}{k:Nat}(h:k<l.length):(l.take (k+1)).flatMap f=(l.take k).flatMap f++f (gt l (k:Int)):=by
 rw[LP h,List.flatMap_append];simp
theorem Y2{α β:Type}{f:α->List β}{n:Nat}:∀{l:List α},(∀x∈l,(f x).length<=n)->(l.flatMap f).length<=l.length * n
 |[],_=>by simp
 |x::r,h=>by
  have h1:=h x (List.mem_cons_self ..)
  have h2:=Y2 (f:=f) (l:=r) λy hy=>h y (List.mem_cons_of_mem _ hy)
  rw[List.flatMap_cons,List.length_append,List.length_cons,Nat.succ_mul];omega
theorem cv8{x:Int}(h:0<=x)(h':x<256):IntKind.u8.wrap x=(((G9 x).toNat:Nat):Int):=by
 rw[<-NT h h'];simp[IntKind.wrap,IntKind.bits,IntKind.signed];omega
theorem aV{bl sz:Int}:∀{l:List F5} {last:Int},IC bl sz last l=true->last<bl->(l.length:Int)<=bl - last - 1
 |[],last,h,hb=>by simp;omega
 |p::r,last,h,hb=>by
  by_cases hbad:Q_ bl sz last p
  ·rw[IC,if_pos hbad] at h;cases h
  ·rw[IC,if_neg hbad] at h
   simp only[Q_,not_or] at hbad
   have:=aV h (by omega)
   rw[List.length_cons];omega
structure dL(s:I4):Prop where
 num:0<=s.num/\s.num<=4611686018427387904
 bl:1<=s.Jo.bl/\s.Jo.bl<=4096
 sz:1<=s.Jo.sz/\s.Jo.sz<=4096
 pl:s.pages.length<=4096
 rl:s.rows.length<=64
 pg:∀p∈s.pages,0<=p.at_/\p.at_<=4096/\1<=p.ver/\p.ver<=4611686018427387904/\p.data.length<=4096
 Zf:∀r∈s.rows,(1<=r.client/\r.client<=4611686018427387904)/\(1<=r.serial/\r.serial<=4611686018427387904)/\Ic r.result.code r.result.data.length=true
 gr:FP s.grp.epoch s.grp.members=true
theorem NM{s:I4}(h:Gj s):dL s:=by
 obtain⟨h1,h2,h3,h4,h5,h6⟩:=h
 simp only[G5] at h3
 refine⟨h1,⟨h3.1,h3.2.1⟩,⟨h3.2.2.1,h3.2.2.2⟩,?_,?_,λp hp=>?_,λr hr=>?_,h2⟩
 ·have:=aV h4 (by omega);omega
 ·simp only[Ie,Bool.and_eq_true,decide_eq_true_eq] at h5;exact h5.1
 ·obtain⟨a,b,c,d,e⟩:=TU h4 (by omega) p hp
  exact⟨a,by omega,c,d,by omega⟩
 ·obtain⟨j,hj,rfl⟩:=Yo hr
  have:=(Zi h5 j hj).1
  simp only[rowOk,Bool.and_eq_true] at this
  exact⟨ET this.1.1,ET this.1.2,this.2⟩
theorem KN{p:F5}(h:p.data.length<=4096):(OE p).length<=5000:=by simp[OE,EL,D_];omega
theorem I9{r:Row}(h:Ic r.result.code r.result.data.length=true):(FZ r).length<=400000:=by
 have:=Hq h;simp[FZ,EL];omega
theorem KL{s:I4}(h:dL s)(k:Nat):((s.pages.take k).flatMap OE).length<=20480000:=by
 have:=Y2 (f:=OE) (n:=5000) (l:=s.pages.take k) λx hx=>KN (h.pg x (List.mem_of_mem_take hx)).2.2.2.2
 have hl:=h.pl
 rw[List.length_take] at this
 have:min k s.pages.length * 5000<=4096 * 5000:=Nat.mul_le_mul_right _ (by omega)
 omega
theorem KJ{s:I4}(h:dL s)(k:Nat):((s.rows.take k).flatMap FZ).length<=25600000:=by
 have:=Y2 (f:=FZ) (n:=400000) (l:=s.rows.take k) λx hx=>I9 (h.Zf x (List.mem_of_mem_take hx)).2.2
 have hl:=h.rl
 rw[List.length_take] at this
 have:min k s.rows.length * 400000<=64 * 400000:=Nat.mul_le_mul_right _ (by omega)
 omega
theorem YS{s:I4}(h:dL s):(s.pages.flatMap OE).length<=20480000:=by have:=KL h s.pages.length;rwa [List.take_length] at this
theorem YL{s:I4}(h:dL s):(s.rows.flatMap FZ).length<=25600000:=by have:=KJ h s.rows.length;rwa [List.take_length] at this
theorem VL(s:I4):(JI s).length=20:=by simp[JI,EL]
theorem held_ok(s:I4)(h:Gj s)(A:Option Addr)(cp:Nat)(B:Option Addr)(cq:Nat)(C:Option Addr)(cr:Nat)(hs:IU s):Ct Tryz.prog 98 [Nw s A cp B cq C cr] [] (NW s A B C) (λu G Q=>∃x,u=.tuple #[.pointer x,.bool true]/\G=[]/\Q=[]):=by
 have:=Yx s A cp B cq C cr hs
 rw[decide_eq_true h] at this
 exact this
theorem zq59_{X:Prop}(h:X:=by(exact λa w h=>⟨(A36),(cO),⟨l36,k36⟩,h.ct [0,0] [3,4,5]⟩)):X:=h
theorem zq60_{X:Prop}(h:X:=by(exact λa w h=>⟨(A55),(rY),⟨l55,k55⟩,h.ct [0,0,0,0] (up 4 5)⟩)):X:=h
set_option maxHeartbeats 2000000 in
theorem Wq(s:I4)(A:Option Addr)(cp:Nat)(B:Option Addr)(cq:Nat)(C:Option Addr)(cr:Nat)(hs:IU s)(hh:Gj s):Ct Tryz.prog 65 [Nw s A cp B cq C cr] [] (NW s A B C)
    (λu G Q=>((JR s).length<=33554432/\∃A' cp',(JR s).length<=cp'/\cp'<=9223372036854775807/\u=.tuple #[.slice A' (JR s).length cp',.int .i64 0]/\G=[rowOf A' cp' (JR s)]/\Q=[])\/(33554432<(JR s).length/\u=.tuple #[.slice none 0 0,.int .i64 2]/\G=[]/\Q=[])):=by
 have hr:=NM hh
 obtain⟨n1,b1,s1,pl,rl,pg,Zf,gr⟩:=NM hh
 have hH:=VL s
 have hpa:=YS hr
 have hra:=YL hr
 have hgl:=P7 gr
 refine Ct.intro Tryz.func65 rfl rfl rfl (λc hc=>?_)
 refine AX ?_;refine GL.step rfl (Ee rfl rfl rfl) (Aa λIJ=>?_);refine AL 2 ?_;refine AB ?_;refine AX ?_;refine Az 0 7 ?_;refine Ah Tryz.call98 [] [0,1,2] rfl rfl rfl (by exact held_ok s hh _ _ _ _ _ _ hs) ?_
 rintro _ _ _ ⟨x17,rfl,rfl,rfl⟩
 refine AL 5 ?_;refine AP 2 ?_;refine AY rfl ?_
 refine GC.skip (?_:GC _ _ _ _)
 refine CQ (ks:=[1,2,3]) (is:=[0]) (js:=[0,1,2]) (fun(A1:Option Addr) (c1:Nat)=>(JI s).length<=c1/\c1<=9223372036854775807) (fun(A1:Option Addr) (c1:Nat)=>[(6,.slice A1 (JI s).length c1)]) (fun(A1:Option Addr) (c1:Nat)=>[rowOf A1 c1 (JI s)]) (fun(A1:Option Addr) (c1:Nat)=>[]) rfl rfl rfl ?_ ?_
 ·refine BF (m:=16) (is:=[0]) (js:=[0,1,2]) Ef rfl rfl rfl ?_;refine AZ 0 [0] [0,1,2] ?_;refine BA 1 rfl [0] [0,1,2] (i_mem (EF (i:=0) rfl rfl Ei rfl)) ?_;refine AZ 4 [0] [0,1,2] ?_
  refine AZ 5 [0] [0,1,2] ?_;refine BA 6 rfl [0] [0,1,2] (i_mem (EF (i:=0) rfl rfl Ei rfl)) ?_;refine AZ 7 [0] [0,1,2] ?_;refine AZ 8 [0] [0,1,2] ?_;refine BA 9 rfl [0] [0,1,2] (i_mem (EF (i:=0) rfl rfl Ei rfl)) ?_
  refine AZ 10 [0] [0,1,2] ?_;refine BA 11 rfl [0] [0,1,2] (i_mem (EF (i:=0) rfl rfl Qq rfl)) ?_;refine AZ 12 [0] [0,1,2] ?_;refine Aw [2,13] ?_
  refine E8.cons (i:=2) rfl rfl (EC rfl Tryz.underlying53 GV Ja rfl rfl rfl rfl rfl rfl) (by rintro a w ⟨_,h⟩;exact h.me [1] [0,1,2]) (BZ λb_t24=>?_) ?_
  ·refine GA.FD (enc:=iv) (xs:=[s.num]) (h1:=λ_=>rfl) (i:=0) rfl ?_;refine Aw [3,13] ?_
   refine E8.cons (i:=3) rfl rfl (EI rfl Tryz.call99 rfl (is:=[]) (js:=[0]) rfl rfl (by exact NJ 8 _ [s.num] _ (by omega) (by omega) (by simp) (by rw[Gi];intro x hx;simp at hx;omega) (by simp))) (by rintro a w ⟨_,_,_,⟨A25,cZ,l25,k25,rfl,rfl,rfl⟩,h⟩;exact h.me [1] [1,2,3]) (GA.ret ?_) ?_
   ·rintro _ _ _ ⟨A25,cZ,l25,k25,rfl,rfl,rfl⟩
    refine Aw [13] ?_
    refine E8.cons (i:=13) rfl rfl (EC rfl Tryz.underlying53 GV Ja rfl rfl rfl rfl rfl rfl) (by rintro a w ⟨_,h⟩;exact h.me [2] [1,2,3]) (BZ λb_t35=>?_) Ag
    refine GA.FD (enc:=iv) (xs:=[s.Jo.bl,s.Jo.sz,(s.pages.length:Int)]) (h1:=λ_=>rfl) (i:=0) rfl ?_;refine GA.EN (i:=0) rfl ?_;refine Aw [14] ?_
    refine E8.cons (i:=14) rfl rfl (EI rfl Tryz.call99 rfl (is:=[]) (js:=[0,1]) rfl rfl (by exact Ii _ (Iy 8 [s.num]) _ 4 _ [s.Jo.bl,s.Jo.sz,(s.pages.length:Int)] _ (by omega) (by omega) (by simp[EL]) (by rw[Gn];intro x hx;simp at hx;omega) (by simp))) (by rintro a w ⟨_,_,_,⟨A36,cO,l36,k36,rfl,rfl,rfl⟩,h⟩;exact h.me [1] [3,4,5]) (GA.ret ?_) Ag
    rintro _ _ _ ⟨A36,cO,l36,k36,rfl,rfl,rfl⟩
    refine AZ 15 [1] [3,4,5] ?_;refine BG (by kernel_rfl) ?_
    exact zq59_
   refine E8.cons (i:=13) rfl rfl (EC rfl Tryz.underlying53 GV Ja rfl rfl rfl rfl rfl rfl) (by rintro a w ⟨_,h⟩;exact h.me [1] [1,2,3]) (BZ λb_t35=>?_) Ag
   refine Aw [3] ?_
   refine E8.cons (i:=3) rfl rfl (EI rfl Tryz.call99 rfl (is:=[]) (js:=[0]) rfl rfl (by exact NJ 8 _ [s.num] _ (by omega) (by omega) (by simp) (by rw[Gi];intro x hx;simp at hx;omega) (by simp))) (by rintro a w ⟨_,_,_,⟨A25,cZ,l25,k25,rfl,rfl,rfl⟩,h⟩;exact h.me [2] [1,2,3]) (GA.ret ?_) Ag
   rintro _ _ _ ⟨A25,cZ,l25,k25,rfl,rfl,rfl⟩
   refine GA.FD (enc:=iv) (xs:=[s.Jo.bl,s.Jo.sz,(s.pages.length:Int)]) (h1:=λ_=>rfl) (i:=1) rfl ?_;refine GA.EN (i:=0) rfl ?_;refine Aw [14] ?_
   refine E8.cons (i:=14) rfl rfl (EI rfl Tryz.call99 rfl (is:=[]) (js:=[0,1]) rfl rfl (by exact Ii _ (Iy 8 [s.num]) _ 4 _ [s.Jo.bl,s.Jo.sz,(s.pages.length:Int)] _ (by omega) (by omega) (by simp[EL]) (by rw[Gn];intro x hx;simp at hx;omega) (by simp))) (by rintro a w ⟨_,_,_,⟨A36,cO,l36,k36,rfl,rfl,rfl⟩,h⟩;exact h.me [1] [3,4,5]) (GA.ret ?_) Ag
   rintro _ _ _ ⟨A36,cO,l36,k36,rfl,rfl,rfl⟩
   refine AZ 15 [1] [3,4,5] ?_;refine BG (by kernel_rfl) ?_
   exact zq59_
  refine E8.cons (i:=13) rfl rfl (EC rfl Tryz.underlying53 GV Ja rfl rfl rfl rfl rfl rfl) (by rintro a w ⟨_,h⟩;exact h.me [1] [0,1,2]) (BZ λb_t35=>?_) Ag
  refine Aw [2] ?_
  refine E8.cons (i:=2) rfl rfl (EC rfl Tryz.underlying53 GV Ja rfl rfl rfl rfl rfl rfl) (by rintro a w ⟨_,h⟩;exact h.me [2] [0,1,2]) (BZ λb_t24=>?_) Ag
  refine GA.FD (enc:=iv) (xs:=[s.num]) (h1:=λ_=>rfl) (i:=0) rfl ?_;refine Aw [3] ?_
  refine E8.cons (i:=3) rfl rfl (EI rfl Tryz.call99 rfl (is:=[]) (js:=[0]) rfl rfl (by exact NJ 8 _ [s.num] _ (by omega) (by omega) (by simp) (by rw[Gi];intro x hx;simp at hx;omega) (by simp))) (by rintro a w ⟨_,_,_,⟨A25,cZ,l25,k25,rfl,rfl,rfl⟩,h⟩;exact h.me [2] [1,2,3]) (GA.ret ?_) Ag
  rintro _ _ _ ⟨A25,cZ,l25,k25,rfl,rfl,rfl⟩
  refine GA.FD (enc:=iv) (xs:=[s.Jo.bl,s.Jo.sz,(s.pages.length:Int)]) (h1:=λ_=>rfl) (i:=1) rfl ?_;refine GA.EN (i:=0) rfl ?_;refine Aw [14] ?_
  refine E8.cons (i:=14) rfl rfl (EI rfl Tryz.call99 rfl (is:=[]) (js:=[0,1]) rfl rfl (by exact Ii _ (Iy 8 [s.num]) _ 4 _ [s.Jo.bl,s.Jo.sz,(s.pages.length:Int)] _ (by omega) (by omega) (by simp[EL]) (by rw[Gn];intro x hx;simp at hx;omega) (by simp))) (by rintro a w ⟨_,_,_,⟨A36,cO,l36,k36,rfl,rfl,rfl⟩,h⟩;exact h.me [1] [3,4,5]) (GA.ret ?_) Ag
  rintro _ _ _ ⟨A36,cO,l36,k36,rfl,rfl,rfl⟩
  refine AZ 15 [1] [3,4,5] ?_;refine BG (by kernel_rfl) ?_
  exact zq59_
 intro A1 c1 hj4
 try dsimp only[List.cons_append,List.nil_append] at hj4 ⊢
 refine AB ?_;refine AV 1 ?_;refine Ad 1 ?_;refine AL 2 ?_;refine GC.block ?_;refine Bv (ks:=[1,38,39]) (is:=[1]) (js:=[0,1,2]) (fun(k:Nat) (A1:Option Addr) (c1:Nat)=>k<=s.pages.length) (fun(k:Nat) (A1:Option Addr) (c1:Nat)=>[(6,.slice A1 (JI s++(s.pages.take k).flatMap OE).length c1),(40,.int .i64 (k:Int))]) (fun(k:Nat) (A1:Option Addr) (c1:Nat)=>[rowOf A1 c1 (JI s++(s.pages.take k).flatMap OE)]) (fun(k:Nat) (A1:Option Addr) (c1:Nat)=>[]) (fun(k:Nat) (A1:Option Addr) (c1:Nat)=>s.pages.length - k) (0) (_) (_) rfl rfl rfl (λa w h=>⟨by omega,by simp only[List.take_zero,List.flatMap_nil,List.append_nil];exact h.Hf (is:=[0,0]) (js:=[0,1,2]) (ks:=[1,38,39]) ⟨rfl,rfl,trivial⟩ rfl rfl rfl⟩) ?_
 intro k A1 c1 hk
 try dsimp only[List.cons_append,List.nil_append] at hk ⊢
 refine AP 1 ?_;refine AB ?_;refine Af ?_ ?_
 ·intro h1;try simp only[D6] at h1
  refine GC.skip (?_:GC _ _ _ _)
  refine AB ?_;refine GC.block ?_;refine AB ?_
  have hx:=pg _ (Ec (l:=s.pages) (k:=k) (by omega))
  refine GC.region ?_;refine GL.step rfl (Ej (i:=0) rfl rfl rfl rfl Tryz.underlying58 Gs (by omega) (EW (by omega) (by omega))) (Aa λp_x42=>Aa λr_x42=>GL.and λok_x42=>?_)
  rcases r_x42 with⟨_,⟨_,⟨Ax42_0,cpx42_0⟩⟩⟩
  refine GL.step rfl (Ed rfl (FX (i:=0) rfl rfl RF (vs:=[_,_,_]) Gs ⟨rfl,rfl,rfl,trivial⟩)) ?_;refine GL.step rfl (EH rfl Je) (Aa λZA=>?_);refine Ar 0 ?_
  refine Ac (?_:GC _ _ _ _)
  refine CQ (ks:=[1,6,38,39,40]) (is:=[0,1,2]) (js:=(up 0 5)) (fun(A2:Option Addr) (c2:Nat)=>(OE (gt s.pages (k:Int))).length<=c2/\c2<=9223372036854775807) (fun(A2:Option Addr) (c2:Nat)=>[(9,.slice A2 (OE (gt s.pages (k:Int))).length c2)]) (fun(A2:Option Addr) (c2:Nat)=>[rowOf A2 c2 (OE (gt s.pages (k:Int)))]) (fun(A2:Option Addr) (c2:Nat)=>[]) rfl rfl rfl ?_ ?_
  ·refine BF (m:=16) (is:=[0,0,0]) (js:=(up 0 5)) Ef rfl rfl rfl ?_;refine AZ 0 [0,0,0] (up 0 5) ?_;refine BA 1 rfl [0,0,0] (up 0 5) (i_mem (EF (i:=0) rfl rfl Ei rfl)) ?_;refine AZ 4 [0,0,0] (up 0 5) ?_
   refine BA 5 rfl [0,0,0] (up 0 5) (i_mem (EF (i:=0) rfl rfl Ei rfl)) ?_;refine AZ 8 [0,0,0] (up 0 5) ?_;refine BA 9 rfl [0,0,0] (up 0 5) (i_mem (EF (i:=0) rfl rfl G_ rfl)) ?_;refine Aw [2,6] ?_
   refine E8.cons (i:=2) rfl rfl (EC rfl Tryz.underlying53 GV Ja rfl rfl rfl rfl rfl rfl) (by rintro a w ⟨_,h⟩;exact h.me [1,1,1] (up 0 5)) (BZ λnZ=>?_) ?_
   ·refine GA.FD (enc:=iv) (xs:=[(gt s.pages (k:Int)).at_]) (h1:=λ_=>rfl) (i:=0) rfl ?_;refine Aw [3,6] ?_
    refine E8.cons (i:=3) rfl rfl (EI rfl Tryz.call99 rfl (is:=[]) (js:=[0]) rfl rfl (by exact NJ 4 _ [(gt s.pages (k:Int)).at_] _ (by omega) (by omega) (by simp) (by rw[Gn];intro x hx;simp at hx;omega) (by simp))) (by rintro a w ⟨_,_,_,⟨A48,jE,l48,k48,rfl,rfl,rfl⟩,h⟩;exact h.me [1,1,1] (up 1 5)) (GA.ret ?_) ?_
    ·rintro _ _ _ ⟨A48,jE,l48,k48,rfl,rfl,rfl⟩
     refine Aw [6] ?_
     refine E8.cons (i:=6) rfl rfl (EC rfl Tryz.underlying53 GV Ja rfl rfl rfl rfl rfl rfl) (by rintro a w ⟨_,h⟩;exact h.me [2,2,2] (up 1 5)) (BZ λb_t51=>?_) Ag
     refine GA.FD (enc:=iv) (xs:=[(gt s.pages (k:Int)).ver]) (h1:=λ_=>rfl) (i:=0) rfl ?_;refine GA.EN (i:=0) rfl ?_;refine Aw [7] ?_
     refine E8.cons (i:=7) rfl rfl (EI rfl Tryz.call99 rfl (is:=[]) (js:=[0,1]) rfl rfl (by exact Ii _ (Iy 4 [(gt s.pages (k:Int)).at_]) _ 8 _ [(gt s.pages (k:Int)).ver] _ (by omega) (by omega) (by simp[EL]) (by rw[Gi];intro x hx;simp at hx;omega) (by simp))) (by rintro a w ⟨_,_,_,⟨A52,cp52,l52,k52,rfl,rfl,rfl⟩,h⟩;exact h.me [1,1,1] (up 3 5)) (GA.ret ?_) Ag
     rintro _ _ _ ⟨A52,cp52,l52,k52,rfl,rfl,rfl⟩
     refine GA.EN (i:=0) rfl ?_;refine Aw [10] ?_
     refine E8.cons (i:=10) rfl rfl (EI rfl Tryz.call68 rfl (is:=[]) (js:=[0,5]) rfl rfl (by exact NI _ (Iy 4 [(gt s.pages (k:Int)).at_]++Iy 8 [(gt s.pages (k:Int)).ver]) _ _ (gt s.pages (k:Int)).data _ (by simp[EL]) (by omega))) (by rintro a w ⟨_,_,_,⟨A55,rY,l55,k55,rfl,rfl,rfl⟩,h⟩;exact h.me [1,1,1] (up 4 5)) (GA.ret ?_) Ag
     rintro _ _ _ ⟨A55,rY,l55,k55,rfl,rfl,rfl⟩
     refine AZ 11 [1,1,1] (up 4 5) ?_;refine AZ 12 [1,1,1] (up 4 5) ?_;refine AZ 13 [1,1,1] (up 4 5) ?_;refine AZ 14 [1,1,1] (up 4 5) ?_;refine AZ 15 [1,1,1] (up 4 5) ?_;refine BG (by kernel_rfl) ?_
     exact zq60_
    refine E8.cons (i:=6) rfl rfl (EC rfl Tryz.underlying53 GV Ja rfl rfl rfl rfl rfl rfl) (by rintro a w ⟨_,h⟩;exact h.me [1,1,1] (up 1 5)) (BZ λb_t51=>?_) Ag
    refine Aw [3] ?_
    refine E8.cons (i:=3) rfl rfl (EI rfl Tryz.call99 rfl (is:=[]) (js:=[0]) rfl rfl (by exact NJ 4 _ [(gt s.pages (k:Int)).at_] _ (by omega) (by omega) (by simp) (by rw[Gn];intro x hx;simp at hx;omega) (by simp))) (by rintro a w ⟨_,_,_,⟨A48,jE,l48,k48,rfl,rfl,rfl⟩,h⟩;exact h.me [2,2,2] (up 1 5)) (GA.ret ?_) Ag
    rintro _ _ _ ⟨A48,jE,l48,k48,rfl,rfl,rfl⟩
    refine GA.FD (enc:=iv) (xs:=[(gt s.pages (k:Int)).ver]) (h1:=λ_=>rfl) (i:=1) rfl ?_;refine GA.EN (i:=0) rfl ?_;refine Aw [7] ?_
    refine E8.cons (i:=7) rfl rfl (EI rfl Tryz.call99 rfl (is:=[]) (js:=[0,1]) rfl rfl (by exact Ii _ (Iy 4 [(gt s.pages (k:Int)).at_]) _ 8 _ [(gt s.pages (k:Int)).ver] _ (by omega) (by omega) (by simp[EL]) (by rw[Gi];intro x hx;simp at hx;omega) (by simp))) (by rintro a w ⟨_,_,_,⟨A52,cp52,l52,k52,rfl,rfl,rfl⟩,h⟩;exact h.me [1,1,1] (up 3 5)) (GA.ret ?_) Ag
    rintro _ _ _ ⟨A52,cp52,l52,k52,rfl,rfl,rfl⟩
    refine GA.EN (i:=0) rfl ?_;refine Aw [10] ?_
    refine E8.cons (i:=10) rfl rfl (EI rfl Tryz.call68 rfl (is:=[]) (js:=[0,5]) rfl rfl (by exact NI _ (Iy 4 [(gt s.pages (k:Int)).at_]++Iy 8 [(gt s.pages (k:Int)).ver]) _ _ (gt s.pages (k:Int)).data _ (by simp[EL]) (by omega))) (by rintro a w ⟨_,_,_,⟨A55,rY,l55,k55,rfl,rfl,rfl⟩,h⟩;exact h.me [1,1,1] (up 4 5)) (GA.ret ?_) Ag
    rintro _ _ _ ⟨A55,rY,l55,k55,rfl,rfl,rfl⟩
    refine AZ 11 [1,1,1] (up 4 5) ?_;refine AZ 12 [1,1,1] (up 4 5) ?_;refine AZ 13 [1,1,1] (up 4 5) ?_;refine AZ 14 [1,1,1] (up 4 5) ?_;refine AZ 15 [1,1,1] (up 4 5) ?_;refine BG (by kernel_rfl) ?_
    exact zq60_
   refine E8.cons (i:=6) rfl rfl (EC rfl Tryz.underlying53 GV Ja rfl rfl rfl rfl rfl rfl) (by rintro a w ⟨_,h⟩;exact h.me [1,1,1] (up 0 5)) (BZ λb_t51=>?_) Ag
   refine Aw [2] ?_
   refine E8.cons (i:=2) rfl rfl (EC rfl Tryz.underlying53 GV Ja rfl rfl rfl rfl rfl rfl) (by rintro a w ⟨_,h⟩;exact h.me [2,2,2] (up 0 5)) (BZ λnZ=>?_) Ag
   refine GA.FD (enc:=iv) (xs:=[(gt s.pages (k:Int)).at_]) (h1:=λ_=>rfl) (i:=0) rfl ?_;refine Aw [3] ?_
   refine E8.cons (i:=3) rfl rfl (EI rfl Tryz.call99 rfl (is:=[]) (js:=[0]) rfl rfl (by exact NJ 4 _ [(gt s.pages (k:Int)).at_] _ (by omega) (by omega) (by simp) (by rw[Gn];intro x hx;simp at hx;omega) (by simp))) (by rintro a w ⟨_,_,_,⟨A48,jE,l48,k48,rfl,rfl,rfl⟩,h⟩;exact h.me [2,2,2] (up 1 5)) (GA.ret ?_) Ag
   rintro _ _ _ ⟨A48,jE,l48,k48,rfl,rfl,rfl⟩
   refine GA.FD (enc:=iv) (xs:=[(gt s.pages (k:Int)).ver]) (h1:=λ_=>rfl) (i:=1) rfl ?_;refine GA.EN (i:=0) rfl ?_;refine Aw [7] ?_
   refine E8.cons (i:=7) rfl rfl (EI rfl Tryz.call99 rfl (is:=[]) (js:=[0,1]) rfl rfl (by exact Ii _ (Iy 4 [(gt s.pages (k:Int)).at_]) _ 8 _ [(gt s.pages (k:Int)).ver] _ (by omega) (by omega) (by simp[EL]) (by rw[Gi];intro x hx;simp at hx;omega) (by simp))) (by rintro a w ⟨_,_,_,⟨A52,cp52,l52,k52,rfl,rfl,rfl⟩,h⟩;exact h.me [1,1,1] (up 3 5)) (GA.ret ?_) Ag
   rintro _ _ _ ⟨A52,cp52,l52,k52,rfl,rfl,rfl⟩
   refine GA.EN (i:=0) rfl ?_;refine Aw [10] ?_
   refine E8.cons (i:=10) rfl rfl (EI rfl Tryz.call68 rfl (is:=[]) (js:=[0,5]) rfl rfl (by exact NI _ (Iy 4 [(gt s.pages (k:Int)).at_]++Iy 8 [(gt s.pages (k:Int)).ver]) _ _ (gt s.pages (k:Int)).data _ (by simp[EL]) (by omega))) (by rintro a w ⟨_,_,_,⟨A55,rY,l55,k55,rfl,rfl,rfl⟩,h⟩;exact h.me [1,1,1] (up 4 5)) (GA.ret ?_) Ag
   rintro _ _ _ ⟨A55,rY,l55,k55,rfl,rfl,rfl⟩
   refine AZ 11 [1,1,1] (up 4 5) ?_;refine AZ 12 [1,1,1] (up 4 5) ?_;refine AZ 13 [1,1,1] (up 4 5) ?_;refine AZ 14 [1,1,1] (up 4 5) ?_;refine AZ 15 [1,1,1] (up 4 5) ?_;refine BG (by kernel_rfl) ?_
   exact zq60_
  intro A2 c2 tJ
  try dsimp only[List.cons_append,List.nil_append] at tJ ⊢
  refine GC.region ?_;refine AA 2 ?_;refine GL.EN (i:=0) rfl ?_;refine GL.step rfl (Ep (i:=1) (k:=0) rfl Fv rfl rfl rfl rfl (by(try simp only[List.length_append,List.length_cons,List.length_nil,List.length_map,EL,EG,D_]);first|omega|(have:=KL hr k;have:=KN (pg _ (Ec (l:=s.pages) (k:=k) (by omega))).2.2.2.2;omega)|(have:=KJ hr k;have:=I9 (Zf _ (Ec (l:=s.rows) (k:=k) (by omega))).2.2;simp only[FZ,List.length_append,EL,List.length_cons,List.length_nil] at this;omega)) (λ_=>rfl)) (Aa λv60=>?_)
  refine GL.rowIs (i:=1) (m':=((JI s++(s.pages.take k).flatMap OE++OE (gt s.pages (k:Int)))).length) (cs':=((JI s++(s.pages.take k).flatMap OE++OE (gt s.pages (k:Int)))).map JE) rfl (by first|(simp only[List.length_append,List.length_cons,List.length_nil,List.append_assoc];done)|(simp only[List.length_append,List.length_cons,List.length_nil,List.append_assoc];omega)|(simp[FZ];done)|(simp[FZ];omega)|rfl) (by first|(simp only[List.map_append,List.map_cons,List.map_nil,List.append_assoc];done)|(simp[FZ];done)|rfl) rfl ?_
  refine GL.shape (i:=1) rfl (λSm SS Oz Ue Uf=>?_)
  subst Oz
  refine AA 1 ?_
  refine Ac (?_:GC _ _ _ _)
  refine GC.region ?_;refine AO rfl (EU rfl rfl (Fh (by omega) (by omega))) ?_;refine AA 1 ?_;refine Ac ?_
  exact λa w h=>⟨(k+1),(Sm),(SS),(by omega),by omega,by rw[MC (by omega),<-List.append_assoc];exact h.ct [1,1] [3,4,5]⟩
 intro h1;try simp only[D6] at h1
 refine GC.exit (?_:GC _ _ _ _)
 refine AB ?_
 obtain rfl:k=s.pages.length:=by omega
 rw[List.take_length]
 refine GC.region ?_;refine AA 2 ?_;refine Ad 1 ?_;refine AA 1 ?_;refine AO rfl (EO (t:=3) (r:=(((G9 (s.rows.length:Int)).toNat:Nat):Int)) (by rw[Tryz.underlying3];simp) Tryz.underlying5 rfl (cv8 (by omega) (by omega))) ?_
 refine GL.step rfl (EC rfl Tryz.underlying47 Fa Jd rfl rfl rfl rfl rfl rfl) (Aa λb_t67=>?_);refine GL.step rfl (Eh (i:=1) (k:=0) rfl Fv rfl rfl rfl rfl rfl (EX rfl) (by(try simp only[List.length_append,List.length_cons,List.length_nil,List.length_map,EL,EG,D_]);first|omega|(have:=KL hr k;have:=KN (pg _ (Ec (l:=s.pages) (k:=k) (by omega))).2.2.2.2;omega)|(have:=KJ hr k;have:=I9 (Zf _ (Ec (l:=s.rows) (k:=k) (by omega))).2.2;simp only[FZ,List.length_append,EL,List.length_cons,List.length_nil] at this;omega)) (λ_=>rfl)) (Aa λv68=>?_)
 refine GL.rowIs (i:=1) (m':=((JI s++s.pages.flatMap OE++[G9 (s.rows.length:Int)])).length) (cs':=((JI s++s.pages.flatMap OE++[G9 (s.rows.length:Int)])).map JE) rfl (by first|(simp only[List.length_append,List.length_cons,List.length_nil,List.append_assoc];done)|(simp only[List.length_append,List.length_cons,List.length_nil,List.append_assoc];omega)|(simp[FZ];done)|(simp[FZ];omega)|rfl) (by first|(simp only[List.map_append,List.map_cons,List.map_nil,List.append_assoc];done)|(simp[FZ];done)|rfl) rfl ?_
 refine GL.shape (i:=1) rfl (λSm SS Oz Ue Uf=>?_)
 subst Oz
 refine AA 1 ?_
 refine Ac (?_:GC _ _ _ _)
 refine AB ?_;refine AV 1 ?_;refine Ad 2 ?_;refine AL 2 ?_;refine GC.block ?_;refine Bv (ks:=[1,70,71]) (is:=[0,2]) (js:=[0,1,2]) (fun(k:Nat) (A1:Option Addr) (c1:Nat)=>k<=s.rows.length) (fun(k:Nat) (A1:Option Addr) (c1:Nat)=>[(6,.slice A1 (JI s++s.pages.flatMap OE++[G9 (s.rows.length:Int)]++(s.rows.take k).flatMap FZ).length c1),(72,.int .i64 (k:Int))]) (fun(k:Nat) (A1:Option Addr) (c1:Nat)=>[rowOf A1 c1 (JI s++s.pages.flatMap OE++[G9 (s.rows.length:Int)]++(s.rows.take k).flatMap FZ)]) (fun(k:Nat) (A1:Option Addr) (c1:Nat)=>[]) (fun(k:Nat) (A1:Option Addr) (c1:Nat)=>s.rows.length - k) (0) (_) (_) rfl rfl rfl (λa w h=>⟨by omega,by simp only[List.take_zero,List.flatMap_nil,List.append_nil];exact h.Hf (is:=[1,0,0]) (js:=[0,1,2]) (ks:=[1,70,71]) ⟨rfl,rfl,trivial⟩ rfl rfl rfl⟩) ?_
 intro k A1 c1 hk
 try dsimp only[List.cons_append,List.nil_append] at hk ⊢
 refine AP 1 ?_;refine AB ?_;refine Af ?_ ?_
 ·intro h2;try simp only[D6] at h2
  refine GC.skip (?_:GC _ _ _ _)
  refine AB ?_;refine GC.block ?_;refine AB ?_
  have hx:=Zf _ (Ec (l:=s.rows) (k:=k) (by omega))
  refine GC.region ?_;refine GL.step rfl (Ej (i:=1) rfl rfl rfl rfl Tryz.underlying59 GY (by omega) (EW (by omega) (by omega))) (Aa λp_x74=>Aa λr_x74=>GL.and λok_x74=>?_)
  rcases r_x74 with⟨_,⟨_,⟨_,⟨Ax74_0,cpx74_0⟩⟩⟩⟩
  refine GL.step rfl (Ed rfl (FX (i:=0) rfl rfl UC (vs:=[_,_,_,_]) GY ⟨rfl,rfl,rfl,rfl,trivial⟩)) ?_;refine GL.step rfl (EH rfl Jq) (Aa λXE=>?_);refine Ar 0 ?_
  refine Ac (?_:GC _ _ _ _)
  refine AV 1 ?_;refine Az 0 2 ?_;refine Ah Tryz.call64 [] [1] rfl rfl rfl (by exact X4 (gt s.rows (k:Int)).result _ _ hx.2.2) ?_
  rintro _ _ _ ⟨A79,cp79,l79,k79,rfl,rfl,rfl⟩
  refine AL 5 ?_;refine GC.region ?_;refine AA 2 ?_;refine Ad 1 ?_;refine AA 1 ?_;refine Ad 1 ?_;refine GL.step rfl (EC rfl Tryz.underlying53 GV Ja rfl rfl rfl rfl rfl rfl) (Aa λb_t87=>?_)
  refine GL.FD (enc:=iv) (xs:=[(gt s.rows (k:Int)).client,(gt s.rows (k:Int)).serial]) (h1:=λ_=>rfl) (i:=0) rfl ?_;refine Ah Tryz.call99 [] [0] rfl rfl rfl (by exact NJ 8 _ [(gt s.rows (k:Int)).client,(gt s.rows (k:Int)).serial] _ (by omega) (by omega) (by simp) (by rw[Gi];intro x hx;simp at hx;omega) (by simp)) ?_
  rintro _ _ _ ⟨A88,cp88,l88,k88,rfl,rfl,rfl⟩
  refine GL.EN (i:=0) rfl ?_;refine GL.step rfl (Ep (i:=2) (k:=0) rfl Fv rfl rfl rfl rfl (by(try simp only[List.length_append,List.length_cons,List.length_nil,List.length_map,EL,EG,D_]);first|omega|(have:=KL hr k;have:=KN (pg _ (Ec (l:=s.pages) (k:=k) (by omega))).2.2.2.2;omega)|(have:=KJ hr k;have:=I9 (Zf _ (Ec (l:=s.rows) (k:=k) (by omega))).2.2;simp only[FZ,List.length_append,EL,List.length_cons,List.length_nil] at this;omega)) (λ_=>rfl)) (Aa λv89=>?_)
  refine AA 1 ?_;refine GL.EN (i:=0) rfl ?_;refine GL.step rfl (Ep (i:=1) (k:=0) rfl Fv rfl rfl rfl rfl (by(try simp only[List.length_append,List.length_cons,List.length_nil,List.length_map,EL,EG,D_]);first|omega|(have:=KL hr k;have:=KN (pg _ (Ec (l:=s.pages) (k:=k) (by omega))).2.2.2.2;omega)|(have:=KJ hr k;have:=I9 (Zf _ (Ec (l:=s.rows) (k:=k) (by omega))).2.2;simp only[FZ,List.length_append,EL,List.length_cons,List.length_nil] at this;omega)) (λ_=>rfl)) (Aa λv91=>?_)
  refine GL.rowIs (i:=1) (m':=((JI s++s.pages.flatMap OE++[G9 (s.rows.length:Int)]++(s.rows.take k).flatMap FZ++FZ (gt s.rows (k:Int)))).length) (cs':=((JI s++s.pages.flatMap OE++[G9 (s.rows.length:Int)]++(s.rows.take k).flatMap FZ++FZ (gt s.rows (k:Int)))).map JE) rfl (by first|(simp only[List.length_append,List.length_cons,List.length_nil,List.append_assoc];done)|(simp only[List.length_append,List.length_cons,List.length_nil,List.append_assoc];omega)|(simp[FZ];done)|(simp[FZ];omega)|rfl) (by first|(simp only[List.map_append,List.map_cons,List.map_nil,List.append_assoc];done)|(simp[FZ];done)|rfl) rfl ?_
  refine GL.shape (i:=1) rfl (λSm SS Oz Ue Uf=>?_)
  subst Oz
  refine AA 1 ?_
  refine Ac (?_:GC _ _ _ _)
  refine GC.region ?_;refine AO rfl (EU rfl rfl (Fh (by omega) (by omega))) ?_;refine AA 1 ?_;refine Ac ?_
  exact λa w h=>⟨(k+1),(Sm),(SS),(by omega),by omega,by rw[MC (by omega),<-List.append_assoc];exact h.ct [1,1,1] [5,6,7]⟩
 intro h2;try simp only[D6] at h2
 refine GC.exit (?_:GC _ _ _ _)
 refine AB ?_
 obtain rfl:k=s.rows.length:=by omega
 rw[List.take_length]
 refine GC.region ?_;refine AA 2 ?_;refine Az 2 2 ?_;refine Ah Tryz.call100 [] [2] rfl rfl rfl (by exact mpg_nil s.grp _ _ gr) ?_
 rintro _ _ _ ⟨A96,cp96,l96,k96,rfl,rfl,rfl⟩
 refine GL.EN (i:=0) rfl ?_;refine GL.step rfl (Ep (i:=0) (k:=0) rfl Fv rfl rfl rfl rfl (by(try simp only[List.length_append,List.length_cons,List.length_nil,List.length_map,EL,EG,D_]);first|omega|(have:=KL hr k;have:=KN (pg _ (Ec (l:=s.pages) (k:=k) (by omega))).2.2.2.2;omega)|(have:=KJ hr k;have:=I9 (Zf _ (Ec (l:=s.rows) (k:=k) (by omega))).2.2;simp only[FZ,List.length_append,EL,List.length_cons,List.length_nil] at this;omega)) (λ_=>rfl)) (Aa λv97=>?_)
 refine GL.rowIs (i:=0) (m':=((JI s++s.pages.flatMap OE++[G9 (s.rows.length:Int)]++s.rows.flatMap FZ++JB s.grp)).length) (cs':=((JI s++s.pages.flatMap OE++[G9 (s.rows.length:Int)]++s.rows.flatMap FZ++JB s.grp)).map JE) rfl (by first|(simp only[List.length_append,List.length_cons,List.length_nil,List.append_assoc];done)|(simp only[List.length_append,List.length_cons,List.length_nil,List.append_assoc];omega)|(simp[FZ];done)|(simp[FZ];omega)|rfl) (by first|(simp only[List.map_append,List.map_cons,List.map_nil,List.append_assoc];done)|(simp[FZ];done)|rfl) rfl ?_
 refine GL.shape (i:=0) rfl (λSm SS Oz Ue Uf=>?_)
 subst Oz
 refine AA 1 ?_
 refine Ac (?_:GC _ _ _ _)
 iterate 2 refine AB ?_
 have hsb:(JI s++s.pages.flatMap OE++[G9 (s.rows.length:Int)]++s.rows.flatMap FZ++JB s.grp).length=(JR s).length:=rfl
 refine GC.region ?_;refine AA 3 ?_
 refine Ac (?_:GC _ _ _ _)
 refine Af ?_ ?_
 ·intro h3;try simp only[D6] at h3
  refine AP 2 ?_;refine GC.ret (BR 2 3 [] [] ?_)
  exact .inr ⟨by omega,rfl,rfl,rfl⟩
 intro h3;try simp only[D6] at h3
 refine GC.skip (?_:GC _ _ _ _)
 refine AP 3 ?_;refine GC.ret (BR 2 3 [0] [] ?_)
 exact .inl ⟨by omega,_,_,Ue,Uf,rfl,rfl,rfl⟩
theorem rE(s:I4)(A:Option Addr)(cp:Nat)(B:Option Addr)(cq:Nat)(C:Option Addr)(cr:Nat)(hs:IU s)(hh:Gj s)(hl:(JR s).length<=33554432):Ct Tryz.prog 65 [Nw s A cp B cq C cr] [] (NW s A B C)
  (λu G Q=>∃A' cp',(JR s).length<=cp'/\cp'<=9223372036854775807/\u=.tuple #[.slice A' (JR s).length cp',.int .i64 0]/\G=[rowOf A' cp' (JR s)]/\Q=[]) :=
 Ct.mono (Wq s A cp B cq C cr hs hh) λu G Q h=>h.elim (λh=>h.2) (λh=>by omega)
theorem bP(s:I4)(A:Option Addr)(cp:Nat)(B:Option Addr)(cq:Nat)(C:Option Addr)(cr:Nat)(hs:IU s)(hh:Gj s)(hl:33554432<(JR s).length):Ct Tryz.prog 65 [Nw s A cp B cq C cr] [] (NW s A B C)
  (λu G Q=>u=.tuple #[.slice none 0 0,.int .i64 2]/\G=[]/\Q=[]) :=
 Ct.mono (Wq s A cp B cq C cr hs hh) λu G Q h=>h.elim (λh=>by omega) (λh=>h.2)
def u64(x:Int):Nat:=(x % 18446744073709551616).toNat
theorem S_(x:Int):u64 x<18446744073709551616:=by unfold u64;omega
theorem KW(x:Int):IntKind.u64.wrap x=((u64 x:Nat):Int):=cvU' x
theorem dX{x:Int}(h:0<=x)(h':x<18446744073709551616):x=((u64 x:Nat):Int):=by unfold u64;omega
theorem Qx(m:GZ):0<=IL m/\IL m<256:=by
 unfold IL Jr
 repeat' split
 all_goals omega
theorem flZ1(l:List Int)(h:∀x∈l,0<=x/\x<256):Iy 1 l=l.map G9:=by
 unfold Iy
 induction l with
 |nil=>rfl
 |cons x r ih =>
  have hx:=h x (List.mem_cons_self ..)
  rw[List.flatMap_cons,ih λy hy=>h y (List.mem_cons_of_mem _ hy),List.map_cons]
  have:x.toNat % 256=x.toNat:=by omega
  simp[FK,G9,this]
def pO(m:GZ):List UInt8:=if m.op=Iw then [] else Ri m.op
def pR(m:GZ):List UInt8:=if m.res=rz then [] else NZ m.res
def pG(m:GZ):List UInt8:=if m.grp=Le then [] else JB m.grp
def pS(m:GZ):List UInt8:=if m.stt=PI then [] else JR m.stt
def hdB(m:GZ):List UInt8:=[G9 m.kind]++Lm 8 [u64 m.src,u64 m.dst,u64 m.epoch,u64 m.view,u64 m.num,u64 m.commit,u64 m.normal,u64 m.Ez,u64 m.client,u64 m.serial]++[G9 (IL m)]
def preB(m:GZ):List UInt8:=hdB m++pO m++pR m++pG m++pS m++FK 4 m.log.length
def FC(m:GZ):List UInt8:=preB m++m.log.flatMap He
structure XH(m:GZ):Prop where
 kind:1<=m.kind/\m.kind<=14
 op:¬m.op=Iw->Jp m.op
 res:¬m.res=rz->Ic m.res.code m.res.data.length=true
 grp:¬m.grp=Le->FP m.grp.epoch m.grp.members=true
 stt:¬m.stt=PI->Gj m.stt
 log:∀e∈m.log,Eo e
theorem Yk{m:GZ}(h:IX m):XH m:=by
 obtain⟨h1,h2,h3,h4,h5,⟨g1,g2,g3,g4⟩,h7⟩:=h
 refine⟨⟨h2,h3⟩,g1.resolve_left,g2.resolve_left,g3.resolve_left,g4.resolve_left,λe he=>?_⟩
 obtain⟨j,hj,rfl⟩:=Yo he
 exact(h7 j hj).1
theorem Yy(m:GZ):(hdB m).length=82:=by simp[hdB,EG]
theorem gB{m:GZ}(h:XH m):(pO m).length<=300000:=by
 unfold pO;split
 ·simp
 ·exact IB (h.op (by assumption))
theorem fZ{m:GZ}(h:XH m):(pR m).length<=300000:=by
 unfold pR;split
 ·simp
 ·exact Hq (h.res (by assumption))
theorem gG{m:GZ}(h:XH m):(pG m).length<=100:=by
 unfold pG;split
 ·simp
 ·exact P7 (h.grp (by assumption))
theorem H7{s:I4}(h:Gj s):(JR s).length<=100000000:=by
 have hr:=NM h
 have:=YS hr
 have:=YL hr
 have:=P7 hr.gr
 have:=VL s
 simp only[JR,List.length_append,List.length_cons,List.length_nil];omega
theorem fV{m:GZ}(h:XH m):(pS m).length<=100000000:=by
 unfold pS;split
 ·simp
 ·exact H7 (h.stt (by assumption))
theorem Zw{m:GZ}(h:XH m):(preB m).length<=200000000:=by
 have:=Yy m
 have:=gB h
 have:=fZ h
 have:=gG h
 have:=fV h
 simp only[preB,List.length_append,D_];omega
theorem Ij{m:GZ}(h:XH m)(k:Nat):((m.log.take k).flatMap He).length<=k * 400000:=by
 have:=Y2 (f:=He) (n:=400000) (l:=m.log.take k) λx hx=>Ht (h.log x (List.mem_of_mem_take hx))
 rw[List.length_take] at this
 exact Nat.le_trans this (Nat.mul_le_mul_right _ (by omega))
theorem Y9{m:GZ}{k:Nat}(hk:k<=m.log.length):(preB m).length+((m.log.take k).flatMap He).length<=(FC m).length:=by
 have e:m.log.flatMap He=(m.log.take k).flatMap He++(m.log.drop k).flatMap He:=by rw[<-List.flatMap_append,List.take_append_drop]
 rw[FC,e];simp only[List.length_append];omega
theorem body_ge'{m:GZ}{k:Nat}(hk:k<m.log.length):(preB m).length+((m.log.take k).flatMap He).length+(He (gt m.log (k:Int))).length<=(FC m).length:=by
 have:=Y9 (m:=m) (k:=k+1) (by omega)
 rw[MC hk,List.length_append] at this
 omega
theorem lH(m:GZ):(pS m).length<=(FC m).length:=by simp only[FC,preB,List.length_append];omega
theorem fM(n:Nat)(L:Option Addr)(l:List Nat)(cl:Nat)(hn:1<=n)(hn':n<=8)(hb:8 * l.length<=100000000000000)(hl:∀x∈l,x<256 ^ n):Ct Tryz.prog 62 [.slice none 0 0,.int .i64 (n:Int),.slice L l.length cl] [] [D7.row kU L l]
  (λu G Q=>∃A' cp',(Lm n l).length<=cp'/\cp'<=9223372036854775807/\u=.tuple #[.slice A' (Lm n l).length cp',.int .i64 0]/\G=[rowOf A' cp' (Lm n l)]/\Q=[]) :=
 Ct.free (QU none [] 0 n L l cl hn hn' (by simpa using hb) hl) gy
theorem flI_flZ{x:Int}(h:0<=x)(h':x<18446744073709551616):Lm 8 [u64 x]=Iy 8 [x]:=by
 have:u64 x=x.toNat:=by unfold u64;omega
 simp[Lm,Iy,this]
theorem zq61_{X:Prop}(h:X:=by(exact λa w h=>⟨(Sm),(SS),trivial,by rw[show pR m=NZ m.res from if_neg (by assumption)];exact h.ct [0,0,0] (up 1 10)⟩)):X:=h
theorem zq62_{X:Prop}(h:X:=by(exact λa w h=>⟨(k+1),(Sm),(SS),(by omega),by omega,by rw[LP (by omega),List.map_append,<-List.append_assoc];exact h.ct [1,1,1,1] (up 1 12)⟩)):X:=h
theorem zq63_{X:Prop}(h:X:=by(exact λa w h=>⟨(_),(_),trivial,by rw[show pG m=Lm 8 [u64 m.grp.epoch]++[G9 (m.grp.members.length:Int)]++(m.grp.members.take m.grp.members.length).map G9 from by rw[pG,if_neg (by assumption),JB,flZ1 [_] (by intro x hx;simp at hx;omega),flZ1 _ (λx hx=>by have:=gr.1 x hx;omega),flI_flZ (by omega) (by omega),List.take_length];rfl];simp only[<-List.append_assoc];exact h.cut (is:=[0,1,1]) (js:=(up 2 10)) ⟨rfl,rfl,rfl,trivial⟩ rfl rfl⟩)):X:=h
theorem zq64_{X:Prop}(h:X:=by(exact λa w h=>⟨(Sm),(SS),trivial,by rw[show pS m=JR m.stt from if_neg (by assumption)];exact h.ct [0,0,0] (up 1 10)⟩)):X:=h
end Go.Proofs.YtliacpkblicnhaaGreat
