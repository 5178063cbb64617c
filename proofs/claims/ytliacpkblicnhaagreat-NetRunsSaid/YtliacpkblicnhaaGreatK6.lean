/- Texts of this claim, in one: what the law leans on (part 6). -/
import Derived.Test.YtliacpkblicnhaaGreatK5
set_option linter.unusedVariables false
set_option linter.unusedSimpArgs false
set_option maxRecDepth 100000
namespace Go.Proofs.YtliacpkblicnhaaGreat
open Go Go.Sx Go.Proofs
theorem kQ(A:Option Addr)(B F:List UInt8)(cp:Nat)(hF:F=HY B)(hB:B.length<=16777216)(G8:∀m M,Hz B=some (m,M)->m.log.length<100000)(hcp:F.length<=cp)(Gl:cp<=9223372036854775807):Ct Tryz.prog 56 [.slice A F.length cp] [] [D7.row Kd.u8 A F] (DecM (MV B)):=by
 have hfl:F.length=B.length+20:=by rw[hF,LJ]
 have hp1:(256:Nat) ^ 1=256:=Gp
 refine Ct.intro Tryz.func56 rfl rfl rfl (λc hc=>?_)
 refine AX ?_;refine GL.step rfl (EH rfl F6) (Aa λGm=>?_);refine AL 1 ?_;refine AX ?_;refine GL.know (q:=D7.row Kd.u8 none []) (λ_ _ _=>.inl rfl) ?_;refine GL.know (q:=D7.row kI none []) (λ_ _ _=>.inl rfl) ?_
 refine GL.know (q:=D7.row GR none []) (λ_ _ _=>.inl rfl) ?_;refine GL.know (q:=D7.row Jz none []) (λ_ _ _=>.inl rfl) ?_;refine GL.know (q:=D7.row JV none []) (λ_ _ _=>.inl rfl) ?_;refine AA 1 ?_
 refine Ah Tryz.call82 [] [5] rfl rfl rfl (by exact Xq _ F _ (by omega) hcp Gl) ?_
 rintro _ _ _ ⟨k11,s11,A11,bd11,cu,n11,l11,c11,hr11,rfl,rfl,rfl⟩
 obtain⟨rfl,rfl,rfl,rfl⟩:=rd_fr hF hB hr11
 rw[(TG hF hB).2.1]
 refine AA 4 ?_;refine GL.step rfl (EH rfl H6) (Aa λKZ=>?_);refine Ar 0 ?_;refine AL 2 ?_;refine AB ?_;refine AP 2 ?_;refine AY rfl ?_
 refine GC.skip (?_:GC _ _ _ _)
 refine AB ?_;refine AV 5 ?_;refine Ak 23 ?_ ?_
 ·intro h1;try simp only[D6] at h1
  exfalso;first|exact h1 trivial|omega|(simp at h1;done)
 intro h1;try simp only[D6] at h1
 refine AA 1 ?_;refine Aj 0 ?_;refine AA 3 ?_;refine Ak 28 ?_ ?_
 ·intro h2;try simp only[D6] at h2
  exfalso;first|exact h2 trivial|omega|(simp at h2;done)
 intro h2;try simp only[D6] at h2
 refine AA 1 ?_;refine Aj 0 ?_;refine AL 2 ?_;refine Af ?_ ?_
 ·intro h3;try simp only[D6] at h3
  exfalso;first|exact h3 trivial|omega|(simp at h3;done)
 intro h3;try simp only[D6] at h3
 refine GC.skip (?_:GC _ _ _ _)
 refine AV 1 ?_;refine Ad 0 ?_;refine AO rfl (ED ze_170 of_170 rfl rfl) ?_;refine GL.step rfl (Ee rfl rfl rfl) (Aa λb_t37=>?_);refine AL 1 ?_;refine AV 1 ?_;refine Ah Tryz.call83 [0] [0] rfl rfl rfl (by exact N9 _ _ _ B _ 1 false (by omega) (by omega) l11 c11 (by omega)) ?_
 rintro _ _ _ ⟨v39,L39,z39,A39,c39,Qz,⟨hv39,hw39,hx39⟩,l39,k39,rfl,rfl,rfl⟩
 refine AO rfl (EO (t:=45) (r:=v39) (by rw[Tryz.underlying45];simp) Tryz.underlying44 rfl (wrap8 (by omega) (by omega))) ?_;refine AO rfl (ED F6 JF rfl rfl) ?_;refine GL.step rfl (EH rfl F6) (Aa λZA=>?_)
 refine Ar 0 ?_;refine BL 1 ?_;refine Ah Tryz.call83 [1] [0] rfl rfl rfl (by exact N9 _ _ _ L39 _ 8 z39 (by omega) (by omega) l39 k39 (by omega)) ?_
 rintro _ _ _ ⟨v43,L43,z43,oJ,nU,OC,⟨hv43,hw43,hx43⟩,iF,k43,rfl,rfl,rfl⟩
 refine AO rfl (NH (t:=45) (by rw[Tryz.underlying45];simp) Tryz.underlying2 rfl) ?_;refine AA 1 ?_;refine BI 1 ?_;refine BL 1 ?_;refine Ah Tryz.call83 [0] [0] rfl rfl rfl (by exact N9 _ _ _ L43 _ 8 z43 (by omega) (by omega) iF k43 (by omega)) ?_
 rintro _ _ _ ⟨v47,L47,z47,A47,c47,XT,⟨hv47,hw47,hx47⟩,l47,k47,rfl,rfl,rfl⟩
 refine AO rfl (NH (t:=45) (by rw[Tryz.underlying45];simp) Tryz.underlying2 rfl) ?_;refine AA 1 ?_;refine BI 1 ?_;refine BL 1 ?_;refine Ah Tryz.call84 [0] [0] rfl rfl rfl (by exact PY _ _ _ L47 _ z47 l47 k47 (by omega)) ?_
 rintro _ _ _ ⟨v51,L51,z51,A51,c51,WH,⟨hv51,hw51,hx51⟩,l51,k51,rfl,rfl,rfl⟩
 refine AA 1 ?_;refine BI 1 ?_;refine BL 1 ?_;refine Ah Tryz.call84 [0] [0] rfl rfl rfl (by exact PY _ _ _ L51 _ z51 l51 k51 (by omega)) ?_
 rintro _ _ _ ⟨v54,L54,z54,A54,c54,hs54,⟨hv54,hw54,hx54⟩,l54,k54,rfl,rfl,rfl⟩
 refine AA 1 ?_;refine BI 1 ?_;refine BL 1 ?_;refine Ah Tryz.call84 [0] [0] rfl rfl rfl (by exact PY _ _ _ L54 _ z54 l54 k54 (by omega)) ?_
 rintro _ _ _ ⟨v57,L57,z57,A57,c57,hs57,⟨hv57,hw57,hx57⟩,l57,k57,rfl,rfl,rfl⟩
 refine AA 1 ?_;refine BI 1 ?_;refine BL 1 ?_;refine Ah Tryz.call84 [0] [0] rfl rfl rfl (by exact PY _ _ _ L57 _ z57 l57 k57 (by omega)) ?_
 rintro _ _ _ ⟨v60,L60,z60,A60,c60,WG,⟨hv60,hw60,hx60⟩,l60,k60,rfl,rfl,rfl⟩
 refine AA 1 ?_;refine BI 1 ?_;refine BL 1 ?_;refine Ah Tryz.call84 [0] [0] rfl rfl rfl (by exact PY _ _ _ L60 _ z60 l60 k60 (by omega)) ?_
 rintro _ _ _ ⟨v63,L63,z63,A63,c63,hs63,⟨hv63,hw63,hx63⟩,l63,k63,rfl,rfl,rfl⟩
 refine AA 1 ?_;refine BI 1 ?_;refine BL 1 ?_;refine Ah Tryz.call83 [0] [0] rfl rfl rfl (by exact N9 _ _ _ L63 _ 8 z63 (by omega) (by omega) l63 k63 (by omega)) ?_
 rintro _ _ _ ⟨v66,L66,z66,A66,c66,hs66,⟨hv66,hw66,hx66⟩,l66,k66,rfl,rfl,rfl⟩
 refine AA 1 ?_;refine BI 1 ?_;refine BL 1 ?_;refine Ah Tryz.call84 [0] [0] rfl rfl rfl (by exact PY _ _ _ L66 _ z66 l66 k66 (by omega)) ?_
 rintro _ _ _ ⟨v69,L69,z69,A69,c69,hs69,⟨hv69,hw69,hx69⟩,l69,k69,rfl,rfl,rfl⟩
 refine AA 1 ?_;refine BI 1 ?_;refine BL 1 ?_;refine Ah Tryz.call84 [0] [0] rfl rfl rfl (by exact PY _ _ _ L69 _ z69 l69 k69 (by omega)) ?_
 rintro _ _ _ ⟨v72,L72,z72,A72,c72,ay,⟨hv72,hw72,hx72⟩,l72,k72,rfl,rfl,rfl⟩
 refine AA 1 ?_;refine BI 1 ?_;refine BL 1 ?_;refine Az 1 28 ?_;refine Ah Tryz.call85 [0] [0] rfl rfl rfl (by exact rrst_ct _ _ v39 (IntKind.i64.wrap v43) (IntKind.i64.wrap v47) v51 v54 v57 v60 v63 v66 v69 v72 _ L72 _ z72 l72 k72 (by omega)) ?_
 rintro _ _ _ ⟨Vx,r76,g76,s76,es76,L76,z76,x76,sQ,c76,Uh,l76,k76,rfl,rfl,rfl⟩
 refine Ar 1 ?_;refine Ap ?_
 iterate 2 refine AB ?_
 have hmsg:=msg_rd Qz OC XT WH hs54 hs57 WG hs63 hs66 hs69 ay Uh
 have hM2:z76=false->Hz B=some ((⟨v39,IntKind.i64.wrap v43,IntKind.i64.wrap v47,v51,v54,v57,v60,v63,v66,v69,v72,Vx,r76,g76,s76,es76⟩:GZ),L76):=λh=>(hmsg.1 (by rw[oC];exact h)).2
 have hM:z76=false->MsgF B (⟨v39,IntKind.i64.wrap v43,IntKind.i64.wrap v47,v51,v54,v57,v60,v63,v66,v69,v72,Vx,r76,g76,s76,es76⟩:GZ) L76:=λh=>Xc (hM2 h)
 refine BF (m:=26) (is:=[0,0,0,0]) (js:=(up 0 27)) Ef rfl rfl rfl ?_;refine AZ 0 [0,0,0,0] (up 0 27) ?_;refine AZ 1 [0,0,0,0] (up 0 27) ?_;refine AZ 2 [0,0,0,0] (up 0 27) ?_;refine BA 3 rfl [0,0,0,0] (up 0 27) (i_mem (EF (i:=0) rfl rfl jM rfl)) ?_
 refine AZ 4 [0,0,0,0] (up 0 27) ?_;refine DL (i:=81) rfl (λh4=>?_) (λh4=>?_)
 ·try simp only[D6] at h4
  refine Bg 5 [0,0,0,0] (up 0 27) ?_;refine Bg 6 [0,0,0,0] (up 0 27) ?_;refine Bg 7 [0,0,0,0] (up 0 27) ?_;refine Bg 8 [0,0,0,0] (up 0 27) ?_;refine Bg 9 [0,0,0,0] (up 0 27) ?_;refine Bg 10 [0,0,0,0] (up 0 27) ?_
  refine AZ 11 [0,0,0,0] (up 0 27) ?_;refine AZ 12 [0,0,0,0] (up 0 27) ?_;refine Bg 13 [0,0,0,0] (up 0 27) ?_;refine Bg 14 [0,0,0,0] (up 0 27) ?_;refine Bg 15 [0,0,0,0] (up 0 27) ?_;refine AZ 16 [0,0,0,0] (up 0 27) ?_
  refine AZ 17 [0,0,0,0] (up 0 27) ?_;refine Bg 18 [0,0,0,0] (up 0 27) ?_;refine Bg 19 [0,0,0,0] (up 0 27) ?_;refine Bg 20 [0,0,0,0] (up 0 27) ?_;refine Bg 21 [0,0,0,0] (up 0 27) ?_;refine Bg 22 [0,0,0,0] (up 0 27) ?_
  refine Bg 23 [0,0,0,0] (up 0 27) ?_;refine Bg 24 [0,0,0,0] (up 0 27) ?_;refine AZ 25 [0,0,0,0] (up 0 27) ?_
  refine BG (by kernel_rfl) (?_:GC _ _ _ _)
  refine AU rfl ?_;refine AX ?_;refine AO rfl (ED F6 JF rfl rfl) ?_;refine Ar 3 ?_;refine AL 1 ?_;refine GC.ret (Fin.c1 2 64 3 3 28 [] [25,25,25,24,23,22,24,21] ?_)
  exact YB
 try simp only[D6] at h4
 refine BN (s:=81) 5 rfl rfl rfl (by kernel_rfl) (by kernel_rfl) (by kernel_rfl) rfl (λa w h=>h.me [0,0,0,0] (up 0 27)) (EK (Fe rfl)) ?_;refine BN (s:=81) 6 rfl rfl rfl (by kernel_rfl) (by kernel_rfl) (by kernel_rfl) rfl (λa w h=>h.me [0,0,0,0] (up 0 27)) (EK (Fb rfl)) ?_
 refine BN (s:=81) 7 rfl rfl rfl (by kernel_rfl) (by kernel_rfl) (by kernel_rfl) rfl (λa w h=>h.me [0,0,0,0] (up 0 27)) (EK (En fo_170_0 rfl)) ?_;refine BN (s:=81) 8 rfl rfl rfl (by kernel_rfl) (by kernel_rfl) (by kernel_rfl) rfl (λa w h=>h.me [0,0,0,0] (up 0 27)) (i_mem (EF (i:=0) rfl rfl G_ rfl)) ?_
 refine BN (s:=81) 9 rfl rfl rfl (by kernel_rfl) (by kernel_rfl) (by kernel_rfl) rfl (λa w h=>h.me [0,0,0,0] (up 0 27)) (EK (p_len Tryz.underlying47 rfl)) ?_;refine BN (s:=81) 10 rfl rfl rfl (by kernel_rfl) (by kernel_rfl) (by kernel_rfl) rfl (λa w h=>h.me [0,0,0,0] (up 0 27)) (EK (p_gtr rfl rfl)) ?_
 refine AZ 11 [0,0,0,0] (up 0 27) ?_;refine AZ 12 [0,0,0,0] (up 0 27) ?_;refine DL (i:=89) rfl (λh5=>?_) (λh5=>?_)
 ·try simp only[D6] at h5
  refine Bg 13 [0,0,0,0] (up 0 27) ?_;refine Bg 14 [0,0,0,0] (up 0 27) ?_;refine Bg 15 [0,0,0,0] (up 0 27) ?_;refine AZ 16 [0,0,0,0] (up 0 27) ?_;refine AZ 17 [0,0,0,0] (up 0 27) ?_;refine Bg 18 [0,0,0,0] (up 0 27) ?_
  refine Bg 19 [0,0,0,0] (up 0 27) ?_;refine Bg 20 [0,0,0,0] (up 0 27) ?_;refine Bg 21 [0,0,0,0] (up 0 27) ?_;refine Bg 22 [0,0,0,0] (up 0 27) ?_;refine Bg 23 [0,0,0,0] (up 0 27) ?_;refine Bg 24 [0,0,0,0] (up 0 27) ?_
  refine AZ 25 [0,0,0,0] (up 0 27) ?_
  refine BG (by kernel_rfl) (?_:GC _ _ _ _)
  refine AU rfl ?_;refine AX ?_;refine AO rfl (ED F6 JF rfl rfl) ?_;refine Ar 3 ?_;refine AL 1 ?_;refine GC.ret (Fin.c1 2 64 3 3 28 [] [25,25,25,24,23,22,24,21] ?_)
  exact YB
 try simp only[D6] at h5
 refine BN (s:=89) 13 rfl rfl rfl (by kernel_rfl) (by kernel_rfl) (by kernel_rfl) rfl (λa w h=>h.me [0,0,0,0] (up 0 27)) (i_mem (G7 (i:=1) rfl rfl NU (vs:=[_,_,_,_,_,_,_,_,_,_,_,_,_,_,_,_,_,_,_,_,_,_,_,_,_,_,_,_]) J7 ⟨rfl,rfl,rfl,rfl,rfl,rfl,rfl,rfl,rfl,rfl,rfl,rfl,rfl,rfl,rfl,rfl,rfl,rfl,rfl,rfl,rfl,rfl,rfl,rfl,rfl,rfl,rfl,rfl,trivial⟩)) ?_
 refine Aw [14] ?_
 refine C9 (i:=14) (s:=89) rfl rfl rfl rfl (EI rfl Tryz.call79 rfl (is:=[]) (js:=(up 0 8)) rfl rfl (by exact YP (⟨v39,IntKind.i64.wrap v43,IntKind.i64.wrap v47,v51,v54,v57,v60,v63,v66,v69,v72,Vx,r76,g76,s76,es76⟩:GZ) x76 (hM (by assumption)).len)) (by rintro a w ⟨_,_,_,⟨rfl,rfl,rfl⟩,h⟩;exact h.me [0,0,0,0] (up 0 27)) (GA.ret ?_) Ag
 rintro _ _ _ ⟨rfl,rfl,rfl⟩
 refine BN (s:=89) 15 rfl rfl rfl (by kernel_rfl) (by kernel_rfl) (by kernel_rfl) rfl (λa w h=>h.me [0,0,0,0] (up 0 27)) (EK (lC rfl rfl)) ?_;refine AZ 16 [0,0,0,0] (up 0 27) ?_;refine AZ 17 [0,0,0,0] (up 0 27) ?_
 refine DL (i:=94) rfl (λh6=>?_) (λh6=>?_)
 ·try simp only[D6] at h6
  refine Bg 18 [0,0,0,0] (up 0 27) ?_;refine Bg 19 [0,0,0,0] (up 0 27) ?_;refine Bg 20 [0,0,0,0] (up 0 27) ?_;refine Bg 21 [0,0,0,0] (up 0 27) ?_;refine Bg 22 [0,0,0,0] (up 0 27) ?_;refine Bg 23 [0,0,0,0] (up 0 27) ?_
  refine Bg 24 [0,0,0,0] (up 0 27) ?_;refine AZ 25 [0,0,0,0] (up 0 27) ?_
  refine BG (by kernel_rfl) (?_:GC _ _ _ _)
  refine AU rfl ?_;refine AX ?_;refine AO rfl (ED F6 JF rfl rfl) ?_;refine Ar 3 ?_;refine AL 1 ?_;refine GC.ret (Fin.c1 2 64 3 3 28 [] [25,25,25,24,23,22,24,21] ?_)
  exact YB
 try simp only[D6] at h6
 refine BN (s:=94) 18 rfl rfl rfl (by kernel_rfl) (by kernel_rfl) (by kernel_rfl) rfl (λa w h=>h.me [0,0,0,0] (up 0 27)) (i_mem (G7 (i:=1) rfl rfl NU (vs:=[_,_,_,_,_,_,_,_,_,_,_,_,_,_,_,_,_,_,_,_,_,_,_,_,_,_,_,_]) J7 ⟨rfl,rfl,rfl,rfl,rfl,rfl,rfl,rfl,rfl,rfl,rfl,rfl,rfl,rfl,rfl,rfl,rfl,rfl,rfl,rfl,rfl,rfl,rfl,rfl,rfl,rfl,rfl,rfl,trivial⟩)) ?_
 refine BN (s:=94) 21 rfl rfl rfl (by kernel_rfl) (by kernel_rfl) (by kernel_rfl) rfl (λa w h=>h.me [0,0,0,0] (up 0 27)) (EK (En fo_121_2 rfl)) ?_;refine BN (s:=94) 22 rfl rfl rfl (by kernel_rfl) (by kernel_rfl) (by kernel_rfl) rfl (λa w h=>h.me [0,0,0,0] (up 0 27)) (i_mem (EF (i:=2) rfl rfl G_ rfl)) ?_
 refine BN (s:=94) 23 rfl rfl rfl (by kernel_rfl) (by kernel_rfl) (by kernel_rfl) rfl (λa w h=>h.me [0,0,0,0] (up 0 27)) (i_mem (Lu (i:=20) rfl rfl Tryz.underlying47 Tryz.underlying5 Tryz.underlying9)) ?_
 refine Aw [19] ?_
 refine C9 (i:=19) (s:=94) rfl rfl rfl rfl (EI rfl Tryz.call81 rfl (is:=[]) (js:=(up 0 8)) rfl rfl (by exact TK (⟨v39,IntKind.i64.wrap v43,IntKind.i64.wrap v47,v51,v54,v57,v60,v63,v66,v69,v72,Vx,r76,g76,s76,es76⟩:GZ) x76 (hM (by assumption)).len (by rw[<-Ru];assumption) (hM (by assumption)).Ez (G8 _ _ (hM2 (by assumption))))) (by rintro a w ⟨_,_,_,⟨A96,bs96,cp96,hi96,hj96,rfl,rfl,rfl⟩,h⟩;exact h.me [0,0,0,0] (up 1 27)) (GA.ret ?_) Ag
 rintro _ _ _ ⟨A96,bs96,cp96,hi96,hj96,rfl,rfl,rfl⟩
 refine Aw [20] ?_
 refine C9 (i:=20) (s:=94) rfl rfl rfl rfl (Ed rfl (Lu (i:=0) rfl rfl Tryz.underlying47 Tryz.underlying5 Tryz.underlying9)) (by rintro a w h;exact h.me [0,0,0,0] (up 1 27)) ?_ Ag
 refine BN (s:=94) 24 rfl rfl rfl (by kernel_rfl) (by kernel_rfl) (by kernel_rfl) rfl (λa w h=>h.me [0,0,0,0] (up 1 27)) (EK (YU rfl rfl)) ?_;refine AZ 25 [0,0,0,0] (up 1 27) ?_
 refine BG (by kernel_rfl) (?_:GC _ _ _ _)
 refine Af ?_ ?_
 ·intro h7;try simp only[D6] at h7
  refine AX ?_;refine AO rfl (ED F6 JF rfl rfl) ?_;refine Ar 3 ?_;refine AL 1 ?_;refine GC.ret (Fin.c1 2 64 3 3 28 [] [26,26,26,25,24,23,25,22] ?_)
  exact YB
 intro h7;try simp only[D6] at h7
 refine GC.skip (?_:GC _ _ _ _)
 refine AX ?_;refine Az 1 28 ?_;refine Ar 3 ?_;refine AL 1 ?_;refine GC.ret (Fin.c1 2 64 3 3 28 [] (up 1 8) ?_)
 exact⟨(⟨v39,IntKind.i64.wrap v43,IntKind.i64.wrap v47,v51,v54,v57,v60,v63,v66,v69,v72,Vx,r76,g76,s76,es76⟩:GZ),x76,0,⟨λ_=>dec_some (hM2 (by assumption)) (by omega) (by assumption) ((nV hB hi96 hj96).1 (ba_eq.1 (by assumption))),λh=>absurd rfl h⟩,rfl,rfl,rfl⟩
abbrev qZ:Kd (Int×Int):=BU (Kd.int .i64) (Kd.int .i64)
abbrev LY(r:Nat)(PV BV:Value)(CA:Option Addr)(n cc:Nat)(a b:Int):Own:=.cells r [PV,BV,.slice CA n cc,.int .i64 a,.int .i64 b] 85
theorem Xt{α:Type}[Inhabited α]{l:List α}{q:α}:q∈l↔∃k:Nat,k<l.length/\gt l (k:Int)=q:=by
 constructor
 ·intro h
  obtain⟨k,hk,he⟩:=List.getElem_of_mem h
  exact⟨k,hk,by unfold gt;simp[List.getD_eq_getElem?_getD,hk,he]⟩
 ·rintro⟨k,hk,rfl⟩
  exact Ec hk
end Go.Proofs.YtliacpkblicnhaaGreat
namespace Go.Proofs.YtliacpkblicnhaaGreat
open Go Go.Sx Go.Proofs
section
variable (r:Nat)(PV BV:Value)(CA:Option Addr)(T:List (Int×Int))(cc:Nat)(a b:Int)
theorem fC(i j:Int)(hT:T.length<=1000000):Ct Tryz.prog 39 [.pointer (some ⟨r,0,none⟩),.int .i64 i,.int .i64 j] [LY r PV BV CA T.length cc a b] [D7.row qZ CA T] (λv G Q=>v=.bool (decide ((i,j)∈T))/\G=[LY r PV BV CA T.length cc a b]/\Q=[]):=by
 refine Ct.intro Tryz.func39 rfl rfl rfl (λc hc=>?_)
 refine AP 1 ?_;refine AB ?_;refine AP 1 ?_;refine GC.block ?_;refine Bd (ks:=[0,1,2]) (is:=[0]) (js:=[0]) (fun(k:Nat)=>k<=T.length/\∀t:Nat,t<k->gt T (t:Int)≠(i,j)) (fun(k:Nat)=>[(7,.int .i64 (k:Int))]) (fun(k:Nat)=>[]) (fun(k:Nat)=>[]) (fun(k:Nat)=>T.length - k) (0) rfl rfl rfl (λa w h=>⟨⟨by omega,λt ht=>by omega⟩,h.Hf (is:=[0]) (js:=[0]) (ks:=[0,1,2]) ⟨rfl,trivial⟩ rfl rfl rfl⟩) ?_
 intro k hk
 try dsimp only[List.cons_append,List.nil_append] at hk ⊢
 obtain⟨hk,hn⟩:=hk
 refine AB ?_;refine AV 4 ?_;refine Ad 0 ?_;refine AL 2 ?_;refine Af ?_ ?_
 ·intro h1;try simp only[D6] at h1
  refine GC.skip (?_:GC _ _ _ _)
  refine AB ?_;refine GC.block ?_;refine AV 3 ?_;refine Ad 0 ?_;refine AA 1 ?_;refine GL.step rfl (Ej (i:=0) rfl rfl rfl rfl Tryz.underlying83 MZ (by omega) (EW (by omega) (by omega))) (Aa λkY=>Aa λRZ=>GL.and λYf=>?_)
  rcases RZ with⟨_,_⟩
  refine AO rfl (EM bH rfl) ?_;refine GL.step rfl (Ed rfl (ES (i:=0) rfl rfl Ei rfl)) ?_;refine AA 3 ?_;refine Ak 27 ?_ ?_
  ·intro h2;try simp only[D6] at h2
   refine AA 3 ?_;refine Aj 0 ?_;refine AA 1 ?_;refine Au rfl (s:=27) rfl rfl (Ej (i:=1) rfl rfl rfl rfl Tryz.underlying83 MZ (by omega) (EW (by omega) (by omega))) (Aa λp_x33=>Aa λr_x33=>GL.and λok_x33=>?_)
   rcases r_x33 with⟨_,_⟩
   refine Ba (s:=27) rfl rfl rfl (EM bG rfl) ?_;refine Au rfl (s:=27) rfl rfl (Ed rfl (ES (i:=0) rfl rfl Ei rfl)) ?_;refine AL 3 ?_;refine Af ?_ ?_
   ·intro h3;try simp only[D6] at h3
    refine AP 1 ?_;refine GC.ret (AQ 6 [0] [] ?_)
    exact⟨congrArg Value.bool (decide_eq_true (Xt.2 ⟨k,by omega,Prod.ext (by assumption) (by assumption)⟩)).symm,rfl,rfl⟩
   intro h3;try simp only[D6] at h3
   refine GC.skip (?_:GC _ _ _ _)
   refine GC.region ?_;refine AA 1 ?_;refine AO rfl (EU rfl rfl (Fh (by omega) (by omega))) ?_;refine AA 1 ?_;refine Ac ?_
   exact λa w h=>⟨(k+1),(by omega),⟨by omega,λt ht=>(Nat.lt_succ_iff_lt_or_eq.1 ht).elim (hn t) (λe=>by subst e;intro e;simp_all)⟩,h.ct [0] [2]⟩
  intro h2;try simp only[D6] at h2
  refine AL 11 ?_;refine AY rfl ?_
  refine GC.skip (?_:GC _ _ _ _)
  refine GC.region ?_;refine AA 1 ?_;refine AO rfl (EU rfl rfl (Fh (by omega) (by omega))) ?_;refine AA 1 ?_;refine Ac ?_
  exact λa w h=>⟨(k+1),(by omega),⟨by omega,λt ht=>(Nat.lt_succ_iff_lt_or_eq.1 ht).elim (hn t) (λe=>by subst e;intro e;simp_all)⟩,h.ct [0] [1]⟩
 intro h1;try simp only[D6] at h1
 refine GC.exit (?_:GC _ _ _ _)
 refine AP 1 ?_;refine GC.ret (AQ 6 [0] [] ?_)
 exact⟨congrArg Value.bool (decide_eq_false (λh=>by obtain⟨t,ht,he⟩:=Xt.1 h;exact hn t (by omega) he)).symm,rfl,rfl⟩
end
end Go.Proofs.YtliacpkblicnhaaGreat
namespace Go.Proofs.YtliacpkblicnhaaGreat
open Go Go.Sx Go.Proofs
theorem Tv{T:List (Int×Int)}{k:Nat}{q:Int×Int}(hk:k<T.length):(T.take (k+1)).filter (λx=>!decide (x=q))=(T.take k).filter (λx=>!decide (x=q))++(if gt T (k:Int)=q then [] else [gt T (k:Int)]):=by
 have e:gt T (k:Int)=T[k]:=by unfold gt;simp[List.getD_eq_getElem?_getD,hk]
 rw[e,List.take_succ_eq_append_getElem hk,List.filter_append]
 congr 1
 by_cases h:T[k]=q<;>simp[h]
end Go.Proofs.YtliacpkblicnhaaGreat
namespace Go.Proofs.YtliacpkblicnhaaGreat
open Go Go.Sx Go.Proofs
section
variable (r:Nat)(PV BV:Value)(CA:Option Addr)(T:List (Int×Int))(cc:Nat)(a b:Int)
def Xp(T:List (Int×Int))(i j:Int)(on:Bool):List (Int×Int):=T.filter (λx=>!decide (x=(i,j)))++(if on then [(i,j)] else [])
theorem rcutx_ct(i j:Int)(on:Bool)(h:¬((0<=i/\i<64)/\0<=j/\j<64)):Ct Tryz.prog 38 [.pointer (some ⟨r,0,none⟩),.int .i64 i,.int .i64 j,.bool on] [LY r PV BV CA T.length cc a b] [] (λv G Q=>v=.int .i64 1/\G=[LY r PV BV CA T.length cc a b]/\Q=[]):=by
 refine Ct.intro Tryz.func38 rfl rfl rfl (λc hc=>?_)
 refine AP 1 ?_;refine AB ?_;refine AV 3 ?_;refine Ak 13 ?_ ?_
 ·intro h1;try simp only[D6] at h1
  refine AL 11 ?_;refine AU rfl ?_;refine AP 1 ?_;refine GC.ret (AQ 8 [0] [] ?_)
  exact⟨rfl,rfl,rfl⟩
 intro h1;try simp only[D6] at h1
 refine AA 4 ?_;refine Ak 17 ?_ ?_
 ·intro h2;try simp only[D6] at h2
  refine AL 7 ?_;refine AU rfl ?_;refine AP 1 ?_;refine GC.ret (AQ 8 [0] [] ?_)
  exact⟨rfl,rfl,rfl⟩
 intro h2;try simp only[D6] at h2
 refine AA 4 ?_;refine Ak 21 ?_ ?_
 ·intro h3;try simp only[D6] at h3
  refine AL 3 ?_;refine AU rfl ?_;refine AP 1 ?_;refine GC.ret (AQ 8 [0] [] ?_)
  exact⟨rfl,rfl,rfl⟩
 intro h3;try simp only[D6] at h3
 refine AL 3 ?_;refine Af ?_ ?_
 ·intro h4;try simp only[D6] at h4
  refine AP 1 ?_;refine GC.ret (AQ 8 [0] [] ?_)
  exact⟨rfl,rfl,rfl⟩
 intro h4;try simp only[D6] at h4
 exfalso;omega
theorem rcut_ct(i j:Int)(on:Bool)(hT:T.length<=1000000)(hi:0<=i/\i<64)(hj:0<=j/\j<64):Ct Tryz.prog 38 [.pointer (some ⟨r,0,none⟩),.int .i64 i,.int .i64 j,.bool on] [LY r PV BV CA T.length cc a b] [D7.row qZ CA T] (λv G Q=>∃CA' cc',v=.int .i64 0/\G=[LY r PV BV CA' (Xp T i j on).length cc' a b]/\Q=[D7.row qZ CA' (Xp T i j on)]):=by
 refine Ct.intro Tryz.func38 rfl rfl rfl (λc hc=>?_)
 refine AP 1 ?_;refine AB ?_;refine AV 3 ?_;refine Ak 13 ?_ ?_
 ·intro h1;try simp only[D6] at h1
  exfalso;omega
 intro h1;try simp only[D6] at h1
 refine AA 4 ?_;refine Ak 17 ?_ ?_
 ·intro h2;try simp only[D6] at h2
  exfalso;omega
 intro h2;try simp only[D6] at h2
 refine AA 4 ?_;refine Ak 21 ?_ ?_
 ·intro h3;try simp only[D6] at h3
  exfalso;omega
 intro h3;try simp only[D6] at h3
 refine AL 3 ?_;refine Af ?_ ?_
 ·intro h4;try simp only[D6] at h4
  exfalso;omega
 intro h4;try simp only[D6] at h4
 refine GC.skip (?_:GC _ _ _ _)
 refine AP 1 ?_;refine AB ?_;refine AX ?_;refine GL.Hu 142 2 ?_;refine GL.know (q:=A_ qZ [] []) (λ_ _ _=>rfl) ?_;refine AL 1 ?_;refine GC.block ?_;refine DT (ks:=[0,1,2,3]) (is:=[1]) (js:=[1]) (fun(k:Nat) (l:List (Int×Int)) (sv:Value) (cs:List Value) (n:Nat)=>k<=T.length/\n=l.length/\n<=k/\l=(T.take k).filter (λx=>!decide (x=(i,j)))) (fun(k:Nat) (l:List (Int×Int)) (sv:Value) (cs:List Value) (n:Nat)=>[(10,.int .i64 (k:Int)),(9,sv)]) (fun(k:Nat) (l:List (Int×Int)) (sv:Value) (cs:List Value) (n:Nat)=>[.row sv 142 2 n cs]) (fun(k:Nat) (l:List (Int×Int)) (sv:Value) (cs:List Value) (n:Nat)=>[A_ qZ l cs]) (fun(k:Nat) (l:List (Int×Int)) (sv:Value) (cs:List Value) (n:Nat)=>T.length - k) (0) ([]) (_) ([]) (0) rfl rfl rfl (λa w h=>⟨⟨by omega,rfl,by omega,by simp⟩,h.Hf (is:=[0,0]) (js:=[0,1]) (ks:=[0,1,2,3]) ⟨rfl,rfl,trivial⟩ rfl rfl rfl⟩) ?_
 intro k l sv cs n hk
 try dsimp only[List.cons_append,List.nil_append] at hk ⊢
 obtain⟨hk,hn,hnk,hf⟩:=hk
 refine AB ?_;refine AV 4 ?_;refine Ad 1 ?_;refine AL 2 ?_;refine Af ?_ ?_
 ·intro h5;try simp only[D6] at h5
  refine GC.skip (?_:GC _ _ _ _)
  refine AB ?_;refine GC.block ?_;refine AV 3 ?_;refine Ad 1 ?_;refine AA 1 ?_;refine GL.step rfl (Ej (i:=1) rfl rfl rfl rfl Tryz.underlying83 MZ (by omega) (EW (by omega) (by omega))) (Aa λp_x39=>Aa λr_x39=>GL.and λok_x39=>?_)
  rcases r_x39 with⟨_,_⟩
  refine AO rfl (EM bH rfl) ?_;refine GL.step rfl (Ed rfl (ES (i:=0) rfl rfl Ei rfl)) ?_;refine AA 3 ?_;refine Ak 44 ?_ ?_
  ·intro h6;try simp only[D6] at h6
   refine AL 11 ?_;refine AU rfl ?_;refine GC.region ?_;refine AA 4 ?_;refine Ad 1 ?_;refine AA 1 ?_;refine GL.step rfl (Ej (i:=2) rfl rfl rfl rfl Tryz.underlying83 MZ (by omega) (EW (by omega) (by omega))) (Aa λp_x62=>Aa λr_x62=>GL.and λok_x62=>?_)
   rcases r_x62 with⟨_,_⟩
   refine GL.step rfl (Ed rfl (FX (i:=0) rfl rfl ag_142 (vs:=[_,_]) MZ ⟨rfl,rfl,trivial⟩)) ?_;refine GL.step rfl (EC rfl Tryz.underlying83 MZ YD rfl rfl rfl rfl rfl rfl) (Aa λb_t64=>?_)
   refine GL.step rfl (Eh (i:=1) (k:=0) rfl el_83 rfl rfl rfl rfl rfl (EX rfl) (by omega) (λ_=>rfl)) (Aa λv65=>?_);refine GL.snoc (j:=2) (js:=[]) (gt T (k:Int)) ((),()) rfl rfl ⟨trivial,trivial⟩ ?_
   refine AA 1 ?_
   refine Ac (?_:GC _ _ _ _)
   refine GC.region ?_;refine AA 1 ?_;refine AO rfl (EU rfl rfl (Fh (by omega) (by omega))) ?_;refine AA 1 ?_;refine Ac ?_
   exact λa w h=>⟨(k+1),(_),(_),(_),(n+1),(by omega),⟨by omega,by simp[hn],by omega,by rw[Tv (by omega),if_neg (by intro e;simp_all),<-hf]⟩,h.cut (is:=[1,1]) (js:=[0,4]) ⟨rfl,rfl,rfl,rfl,rfl,rfl,trivial⟩ rfl rfl⟩
  intro h6;try simp only[D6] at h6
  refine AA 3 ?_;refine Aj 1 ?_;refine AA 1 ?_;refine Au rfl (s:=44) rfl rfl (Ej (i:=2) rfl rfl rfl rfl Tryz.underlying83 MZ (by omega) (EW (by omega) (by omega))) (Aa λZ4=>Aa λPg=>GL.and λVu=>?_)
  rcases Pg with⟨_,_⟩
  refine Ba (s:=44) rfl rfl rfl (EM bG rfl) ?_;refine Au rfl (s:=44) rfl rfl (Ed rfl (ES (i:=0) rfl rfl Ei rfl)) ?_;refine AL 3 ?_;refine Af ?_ ?_
  ·intro h7;try simp only[D6] at h7
   refine GC.region ?_;refine AA 4 ?_;refine Ad 1 ?_;refine AA 1 ?_;refine GL.step rfl (Ej (i:=3) rfl rfl rfl rfl Tryz.underlying83 MZ (by omega) (EW (by omega) (by omega))) (Aa λp_x62=>Aa λr_x62=>GL.and λok_x62=>?_)
   rcases r_x62 with⟨_,_⟩
   refine GL.step rfl (Ed rfl (FX (i:=0) rfl rfl ag_142 (vs:=[_,_]) MZ ⟨rfl,rfl,trivial⟩)) ?_;refine GL.step rfl (EC rfl Tryz.underlying83 MZ YD rfl rfl rfl rfl rfl rfl) (Aa λb_t64=>?_)
   refine GL.step rfl (Eh (i:=1) (k:=0) rfl el_83 rfl rfl rfl rfl rfl (EX rfl) (by omega) (λ_=>rfl)) (Aa λv65=>?_);refine GL.snoc (j:=3) (js:=[]) (gt T (k:Int)) ((),()) rfl rfl ⟨trivial,trivial⟩ ?_
   refine AA 1 ?_
   refine Ac (?_:GC _ _ _ _)
   refine GC.region ?_;refine AA 1 ?_;refine AO rfl (EU rfl rfl (Fh (by omega) (by omega))) ?_;refine AA 1 ?_;refine Ac ?_
   exact λa w h=>⟨(k+1),(_),(_),(_),(n+1),(by omega),⟨by omega,by simp[hn],by omega,by rw[Tv (by omega),if_neg (by intro e;simp_all),<-hf]⟩,h.cut (is:=[1,1]) (js:=[0,5]) ⟨rfl,rfl,rfl,rfl,rfl,rfl,trivial⟩ rfl rfl⟩
  intro h7;try simp only[D6] at h7
  refine GC.skip (?_:GC _ _ _ _)
  refine GC.region ?_;refine AA 1 ?_;refine AO rfl (EU rfl rfl (Fh (by omega) (by omega))) ?_;refine AA 1 ?_;refine Ac ?_
  exact λa w h=>⟨(k+1),(_),(_),(_),(n),(by omega),⟨by omega,hn,by omega,by rw[Tv (by omega),if_pos (by apply Prod.ext<;>simp_all),<-hf,List.append_nil]⟩,h.cut (is:=[0,0]) (js:=[2,3]) ⟨rfl,rfl,rfl,rfl,rfl,rfl,trivial⟩ rfl rfl⟩
 intro h5;try simp only[D6] at h5
 refine GC.exit (?_:GC _ _ _ _)
 refine AB ?_;refine AP 1 ?_;refine Af ?_ ?_
 ·intro h8;try simp only[D6] at h8
  refine GC.region ?_;refine AA 3 ?_;refine AO rfl (ED YD of_142 rfl rfl) ?_;refine GL.step rfl (EC rfl Tryz.underlying83 MZ YD rfl rfl rfl rfl rfl rfl) (Aa λb_t71=>?_);refine GL.step rfl (Eh (i:=1) (k:=0) rfl el_83 rfl rfl rfl rfl rfl (EX rfl) (by omega) (λ_=>rfl)) (Aa λv72=>?_)
  refine GL.snoc (j:=0) (js:=[]) ((i,j):Int×Int) ((),()) rfl rfl ⟨trivial,trivial⟩ ?_;refine AA 1 ?_
  refine Ac (?_:GC _ _ _ _)
  refine AX ?_;refine GL.shape (i:=1) rfl (λA_S c_S e_S l_S k_S=>?_)
  subst e_S
  refine GL.IQ (i:=1) (j:=0) rfl rfl (by decide) ?_;refine AA 4 ?_;refine BI 1 ?_;refine BL 1 ?_;refine Ap ?_;refine GC.ret (AQ 8 [1] [0] ?_)
  have e:l=T.filter (λx=>!decide (x=(i,j))):=by rw[hf,List.take_of_length_le (by omega)]
  subst on
  refine⟨A_S,c_S,rfl,?_,?_⟩<;>simp only[Xp,<-e,hn,if_true,Bool.false_eq_true,if_false,List.append_nil,List.length_append,List.length_cons,List.length_nil,Nat.zero_add]
 intro h8;try simp only[D6] at h8
 refine GC.skip (?_:GC _ _ _ _)
 refine AX ?_;refine GL.shape (i:=0) rfl (λA_S c_S e_S l_S k_S=>?_)
 subst e_S
 refine GL.IQ (i:=0) (j:=0) rfl rfl (by decide) ?_;refine AA 4 ?_;refine BI 0 ?_;refine BL 1 ?_;refine Ap ?_;refine GC.ret (AQ 8 [0] [0] ?_)
 have e:l=T.filter (λx=>!decide (x=(i,j))):=by rw[hf,List.take_of_length_le (by omega)]
 subst on
 refine⟨A_S,c_S,rfl,?_,?_⟩<;>simp only[Xp,<-e,hn,if_true,Bool.false_eq_true,if_false,List.append_nil,List.length_append,List.length_cons,List.length_nil,Nat.zero_add]
end
end Go.Proofs.YtliacpkblicnhaaGreat
namespace Go.Sx
open Go
section
variable {P:Program}{ops:Array Oper}{Z:Exit->Gz}{md:Region.Mode}{S:World->Prop}{u:Nat}
def dI(P:Program)(md:Region.Mode)(ops:Array Oper)(Z:Exit->Gz)(S:World->Prop)(u:Nat):Nat->Array Bool->Act->World->Prop
 |0,l,a,w=>Region.ready md ops l=[]/\Z .normal a w
 |k+1,l,a,w=>(Region.ready md ops l=[]->Z .normal a w) /\
  ∀i∈Region.ready md ops l,wpOp P ops Z i (λb v=>((l.setIfInBounds i true).getD u false=true\/S v)/\dI P md ops Z S u k (l.setIfInBounds i true) b v) a w
theorem dH:∀(k:Nat) (l:Array Bool) (a:Act) (w:World),dI P md ops Z S u k l a w->wpAny P md ops Z k l a w
 |0,_,_,_,h=>h
 |k+1,_,_,_,h=>⟨h.1,λi hi=>wpOp_mono (λb v g=>dH k _ b v g.2) (h.2 i hi)⟩
def waits(md:Region.Mode)(ops:Array Oper)(u i:Nat):Bool:=match ops[u]? with|some o=>o.after.any (λe=>Region.binds md e && e.on == i)|none=>false
theorem dW{i:Nat}(h:waits md ops u i=true):∃o,ops[u]?=some o/\∃e∈o.after,Region.binds md e=true/\e.on=i:=by
 unfold waits at h
 split at h
 ·rename_i o ho
  obtain⟨e,he,hb⟩:=Array.any_eq_true'.1 h
  simp only[Bool.and_eq_true,beq_iff_eq] at hb
  exact⟨o,ho,e,he,hb⟩
 ·cases h
theorem XG{i:Nat}{o:Oper}{v:Value}{T:World->Prop}(hiu:i≠u)(hi:ops[i]?=some o)(hs:∀(j:Nat) (o:Oper) cs b,ops[j]?=some o->o.op≠.select cs b)
  (hZ:∀c a w,Z (.panic c) (a.put o.dst v) w->Z (.panic c) a w):∀(k:Nat) (l:Array Bool) (a:Act) (w:World),
   (∀j x,ops[j]?=some x->j≠i->l.getD j true=false->(∀e∈x.after,Region.binds md e=true->e.on≠i)->o.apart ops x=true) ->
   ((∀w,T w)\/(waits md ops u i=true/\l.getD u false=false/\∀w,S w->T w)) ->
   i∈Region.ready md ops l->YieldsIf P ops T o v a->T w->(l.getD u false=true\/S w) ->
   dI P md ops Z S u k (l.setIfInBounds i true) (a.put o.dst v) w->dI P md ops Z S u (k+1) l a w:=by
 have main:∀(k:Nat) (l:Array Bool) (a:Act) (w:World),
   (∀j x,ops[j]?=some x->j≠i->l.getD j true=false->(∀e∈x.after,Region.binds md e=true->e.on≠i)->o.apart ops x=true) ->
   ((∀w,T w)\/(waits md ops u i=true/\l.getD u false=false/\∀w,S w->T w)) ->
   i∈Region.ready md ops l->YieldsIf P ops T o v a->T w->(l.getD u false=true\/S w) ->
   dI P md ops Z S u k (l.setIfInBounds i true) (a.put o.dst v) w->dI P md ops Z S u (k+1) l a w:=by
  intro k
  induction k with
  |zero =>
   intro l a w _ _ hr hy hT hS H
   refine⟨λh=>(by rw[h] at hr;cases hr),λj hj=>?_⟩
   by_cases e:j=i
   ·subst e
    refine hy.wpOp hi hT ⟨?_,H⟩
    rcases hS with hS|hS
    ·by_cases e:j=u
     ·subst e
      exact .inl (getD_set_true hS)
     ·left;rw[getD_set_ne false e];exact hS
    ·exact .inr hS
   ·have:=ready_mono hj e
    rw[H.1] at this
    cases this
  |succ k ih =>
   intro l a w hf hc hr hy hT hS H
   refine⟨λh=>(by rw[h] at hr;cases hr),λj hj=>?_⟩
   by_cases e:j=i
   ·subst e
    refine hy.wpOp hi hT ⟨?_,H⟩
    rcases hS with hS|hS
    ·by_cases e:j=u
     ·subst e
      exact .inl (getD_set_true hS)
     ·left;rw[getD_set_ne false e];exact hS
    ·exact .inr hS
   ·obtain⟨hu,x,hx,hall⟩:=mem_ready.1 hj
    have h0:=(mem_ready.1 hr).1
    have hno:∀e∈x.after,Region.binds md e=true->e.on≠i:=λe he hb q=>by
     have h1:=hall e he hb
     rw[q] at h1
     rcases Nat.lt_or_ge i l.size with g|g
     ·simp[g] at h0 h1;rw[h0] at h1;cases h1
     ·simp[Array.getElem?_eq_none g] at h1
    have h1:=wpOp_putIf hx (hf j x hx e hu hno) (λcs b=>hs i o cs b hi) (λcs b=>hs j x cs b hx) hZ hy (H.2 j (ready_mono hj e))
    have hf':∀n y,ops[n]?=some y->n≠i->(l.setIfInBounds j true).getD n true=false->(∀e∈y.after,Region.binds md e=true->e.on≠i)->o.apart ops y=true:=λn y hn hne hun hnn=>by
     refine hf n y hn hne ?_ hnn
     by_cases q:j=n
     ·subst q;exact hu
     ·rw[getD_set_ne true q] at hun;exact hun
    refine wpOp_mono (λb t ⟨g1,g2,g3⟩=>?_) h1
    have hcm:(l.setIfInBounds i true).setIfInBounds j true=(l.setIfInBounds j true).setIfInBounds i true:=Array.setIfInBounds_comm _ _ (Ne.symm e)
    rw[hcm] at g2 g3
    rcases hc with hc|⟨c1,c2,c3⟩
    ·have gS:(l.setIfInBounds j true).getD u false=true\/S t:=by
      rcases g2 with g2|g2
      ·left;rw[getD_set_ne false hiu] at g2;exact g2
      ·exact .inr g2
     exact⟨gS,ih _ b t hf' (.inl hc) (ready_mono hr (Ne.symm e)) g1 (hc t) gS g3⟩
    ·obtain⟨y,hy2,q,hq,hqb,rfl⟩:=dW c1
     have ju:j≠u:=λq2=>by
      subst q2
      rw[hx] at hy2
      cases hy2
      exact hno q hq hqb rfl
     have iu:q.on≠u:=λq2=>by
      obtain⟨_,x2,hx2,hall2⟩:=mem_ready.1 hr
      rw[q2] at hx2
      rw[hx2] at hy2
      cases hy2
      have h1:=hall2 q hq hqb
      rcases Nat.lt_or_ge q.on l.size with g|g
      ·simp[g] at h0 h1;rw[h0] at h1;cases h1
      ·simp[Array.getElem?_eq_none g] at h1
     have hlu:(l.setIfInBounds j true).getD u false=false:=by rw[getD_set_ne false ju];exact c2
     have gS:S t:=by
      rcases g2 with g2|g2
      ·rw[getD_set_ne false iu,hlu] at g2;cases g2
      ·exact g2
     exact⟨.inr gS,ih _ b t hf' (.inr ⟨c1,hlu,c3⟩) (ready_mono hr (Ne.symm e)) g1 (c3 t gS) (.inr gS) g3⟩
 exact main
end
end Go.Sx
namespace Go.Sx
open Go
section
variable {P:Program}{c:Cx}{n:Nat}{env env':List (Nat×Value)}{G G' Gr:List Own}{Q Q':List D7}{d:Nat}{ty:TypeId}{pos:String}{Ew:Array Edge}{t:TypeId}
def GU(P:Program)(ops:Array Oper)(M:Gz)(I:World->Prop)(u:Nat)(fuel:Nat)(listed:Array Bool)(A:Gz):Prop:=∀a w,A a w->dI P .any ops (UM M) I u fuel listed a w
def RH(P:Program)(ops:Array Oper)(M:Gz)(I:World->Prop)(u:Nat)(fuel:Nat)(listed:Array Bool)(A:Gz)(rs:List Nat):Prop :=
 ∀i∈rs,∀a w,A a w->wpOp P ops (UM M) i (λa' w'=>((listed.setIfInBounds i true).getD u false=true\/I w')/\dI P .any ops (UM M) I u fuel (listed.setIfInBounds i true) a' w') a w
theorem Dh{R:Exit->Gz}{id m:Nat}{l:List Oper}{is js:List Nat}{GI:List Own}{QI:List D7}(u:Nat)(hm:P.follows .mixedOrders=true)(hsz:l.length=m)(hsel:sel G is=some (GI,Gr))(hq:Eu Q js=some QI)(h:GU P l.toArray (R .normal) (Mem c GI QI) u m (Array.replicate m false) (St c n env G Q)):GC P R (.region id l.toArray true) (St c n env G Q):=λa w ha=>by
 refine Code.wp_mono (λe a w he=>?_) (wp_region_any (Q:=UM (R .normal)) hm (dH (S:=Mem c GI QI) (u:=u) _ _ _ _ ?_))
 ·cases e<;>first|exact he|exact he.elim
 ·subst hsz
  have:=h a _ ha.drew
  simpa using this
end
end Go.Sx
namespace Go.Sx
open Go
section
variable {P:Program}{c:Cx}{n:Nat}{env env':List (Nat×Value)}{G G' Gr:List Own}{Q Q':List D7}{d:Nat}{ty:TypeId}{pos:String}{Ew:Array Edge}{t:TypeId}
variable {ops:Array Oper}{M A B:Gz}{I:World->Prop}{u fuel:Nat}{listed:Array Bool}
theorem Dk(hr:Region.ready .any ops listed=[])(h:∀a w,A a w->M a w):GU P ops M I u fuel listed A:=λa w ha=>by
 cases fuel with
 |zero=>exact⟨hr,h a w ha⟩
 |succ k=>exact⟨λ_=>h a w ha,by rw[hr];simp⟩
theorem Ce{α:Type}{F:α->Gz}(k:∀x,GU P ops M I u fuel listed (F x)):GU P ops M I u fuel listed (λa w=>∃x,F x a w):=λa w ⟨x,hx⟩=>k x a w hx
theorem GU.imp(h:∀a w,A a w->B a w)(k:GU P ops M I u fuel listed B):GU P ops M I u fuel listed A:=λa w ha=>k a w (h a w ha)
theorem GU.shape{i e sz m:Nat}{v:Value}{cs:List Value}(hi:FB G i=some (.row v e sz m cs))(k:∀A cp,v=.slice A m cp->m<=cp->cp<=9223372036854775807->GU P ops M I u fuel listed (St c n env G Q)):GU P ops M I u fuel listed (St c n env G Q):=λa w h=>by
 obtain⟨A,cp,h1,h2,h3⟩:=h.shape hi
 exact k A cp h1 h2 h3 a w h
theorem GU.VH{i b e m sz:Nat}{l:List Value}(hi:FB G i=some (.cells b l e))(hl:l.length=m * sz)(hm:m<=9223372036854775807)(hr:Io G i (.row (.slice (some ⟨b,0,none⟩) m m) e sz m l)=some G')(k:GU P ops M I u fuel listed (St c n env G' Q)):GU P ops M I u fuel listed (St c n env G Q) :=
 GU.imp (λa w h=>h.Qw hi hr rfl (OY hl hm)) k
theorem GU.take{op:Op}{v:Value}(i:Nat)(hi:ops[i]?=some ⟨some d,op,ty,pos,Ew,none⟩)(hs:Region.noSelect ops=true)(hf:Region.free .any ops listed i=true)(hr:(Region.ready .any ops listed).contains i=true)(hd:Nat.blt d n=true)(hiu:Nat.beq i u=false)(hI:listed.getD u false=true\/∀a w,St c n env G Q a w->I w)
  (h:(∀w,True->∀a,Env n env a->(execOp a.eval ⟨some d,op,ty,pos,Ew,none⟩).run P w=.ok (.value v) w)\/(waits .any ops u i=true/\listed.getD u false=false/\Pi P n I env ⟨some d,op,ty,pos,Ew,none⟩ v)) (k:GU P ops M I u fuel (listed.setIfInBounds i true) (St c n ((d,v)::env) G Q)):GU P ops M I u (fuel+1) listed (St c n env G Q):=λa w ha=>by
 have hiu:i≠u:=λe=>by subst e;simp at hiu
 have kk:=k _ w (ha.keep (Fr.refl [] w) (ha.en.put hd v))
 rcases h with h|⟨h1,h2,h3⟩
 ·exact XG (T:=λ_=>True) hiu hi (Region.noSelect_spec hs) (λ_ _ _ h=>h) _ _ _ _ (Region.free_spec hi hf) (.inl λ_=>trivial) (by simpa using hr) (.inl ⟨by simp[Region.wanted],λw' hw'=>h w' hw' a ha.en.toEnv⟩) trivial (hI.imp id (λh=>h a w ha)) kk
 ·have hI':I w:=(hI.resolve_left (by rw[h2];simp)) a w ha
  exact XG (T:=I) hiu hi (Region.noSelect_spec hs) (λ_ _ _ h=>h) _ _ _ _ (Region.free_spec hi hf) (.inr ⟨h1,h2,λ_ h=>h⟩) (by simpa using hr) (.inl ⟨by simp[Region.wanted],λw' hw'=>h3 a w' ha.en.toEnv hw'⟩) hI' (.inr hI') kk
theorem FM{o:Oper}{v:Value}{p:Prop}(h:Pv P n env o v):(∀w,True->∀a,Env n env a->(execOp a.eval o).run P w=.ok (.value v) w)\/p:=.inl λw _ a he=>h a w he
theorem Xg{c':Cx}{GI:List Own}{QI:List D7}{v:Value}{o:Oper}{p q r:Prop}(hp:p)(hq:q)(h:Pm P c' n GI QI env o v):r\/(p/\q/\Pi P n (Mem c' GI QI) env o v):=.inr ⟨hp,hq,i_mem h⟩
theorem GU.all{rs:List Nat}(hr:Region.ready .any ops listed=rs)(hne:rs≠[])(h:RH P ops M I u fuel listed A rs):GU P ops M I u (fuel+1) listed A:=λa w ha=>⟨λh0=>absurd (hr▸h0) hne,λi hi=>h i (hr▸hi) a w ha⟩
theorem Bl:RH P ops M I u fuel listed A []:=λi hi=>by cases hi
theorem RH.cons{o:Oper}{i:Nat}{rs:List Nat}(hi:ops[i]?=some o)(hg:o.guard=none)(h:Tr P o A B)(hI:(listed.setIfInBounds i true).getD u false=true\/∀a w,B a w->I w)(k:GU P ops M I u fuel (listed.setIfInBounds i true) B)(r:RH P ops M I u fuel listed A rs):RH P ops M I u fuel listed A (i::rs):=by
 intro j hj a w ha
 rcases List.mem_cons.1 hj with rfl|hj
 ·unfold wpOp
  rw[hi]
  simp only[Region.wanted,hg,if_true]
  exact .inl (h a w ha _ _ λa' w' hb=>⟨hI.imp id (λh=>h _ _ hb),k a' w' hb⟩)
 ·exact r j hj a w ha
end
end Go.Sx
namespace Go.Sx
open Go
section
variable {P:Program}{c:Cx}{n:Nat}{env:List (Nat×Value)}{G:List Own}{Q:List D7}{R:Exit->Gz}{cd:Code}
theorem GC.setL{α:Type}{kd:Kd α}{j:Nat}{js:List Nat}{m:Nat}{xs:List α}{cs l:List Value}(z':α)(r:kd.Y)(hj:FB Q j=some (A_ kd xs cs))(hz:m<xs.length)(hq:Eu Q js=some (kd.pers z' r))(hok:kd.ok z' r)(hl:kd.cells z' r=l)
  (k:GC P R cd (St c n env G (A_ kd (xs.set m z') (laid cs (m * kd.sz) l)::Q))):GC P R cd (St c n env G Q):=by
 subst hl;exact GC.imp (λa w h=>h.dw (z:=z') hj hz hq hok) k
end
end Go.Sx
namespace Go.Sx
open Go
theorem CP{P:Program}{f:FuncId}{args:List Value}{G:List Own}{Q:List D7}{R:Value->List Own->List D7->Prop}(h:Ct P f args G Q R):Ct P f args G Q (λv G' Q'=>∃Q'',R v G' Q''/\Q'=Q''++Q):=λw S hp=>by
 refine(h w S hp).mono ?_
 rintro e w' ⟨v,G',Q',S',he,hR,hp',hfr,hS,hkk⟩
 have hf:=Om (Gr:=[]) (by rw[List.append_nil];exact hp) hp' hfr hS hkk
 rw[List.append_nil] at hf
 exact⟨v,G',Q'++Q,S',he,⟨Q',hR,rfl⟩,hf,hfr,hS,hkk⟩
theorem CJ{P:Program}{f:FuncId}{args:List Value}{G:List Own}{Q Q':List D7}{R:Value->List Own->List D7->Prop}(hq:∀q∈Q,q∈Q')(h:Ct P f args G Q R):Ct P f args G Q' R:=λw S hp =>
 h w S ⟨hp.own,hp.Oj,hp.out,λq hm=>hp.per q (hq q hm)⟩
theorem CO{P:Program}{f:FuncId}{args:List Value}{G:List Own}{Q:List D7}{R R':Value->List Own->List D7->Prop}(h:Ct P f args G Q R)(hr:∀v G' Q',R v G' Q'->∃Q'',R' v G' Q''/\∀q∈Q'',q∈Q'):Ct P f args G Q R':=λw S hp=>by
 refine(h w S hp).mono ?_
 rintro e w' ⟨v,G',Q',S',he,hR,hp',hfr,hS,hkk⟩
 obtain⟨Q'',h1,h2⟩:=hr v G' Q' hR
 exact⟨v,G',Q'',S',he,h1,⟨hp'.own,hp'.Oj,hp'.out,λq hm=>hp'.per q (h2 q hm)⟩,hfr,hS,hkk⟩
end Go.Sx
namespace Go.Proofs.YtliacpkblicnhaaGreat
open Go Go.Sx Go.Proofs
theorem Zm(m:GZ)(s:Lie)(hm:FT m)(h:IX m):Ct Tryz.prog 79 [Ip m s] [] (H9 m s) (λu G Q=>u=.int .i64 0/\G=[]/\Q=[]):=by
 have:=YP m s hm;rw[OV h] at this;exact this
theorem rchko_no(m:GZ)(s:Lie)(hm:FT m)(h:¬IX m):Ct Tryz.prog 79 [Ip m s] [] (H9 m s) (λu G Q=>u=.int .i64 160/\G=[]/\Q=[]):=by
 have:=YP m s hm;rw[QX h] at this;exact this
abbrev EncQ(x:Int×List UInt8)(u:Value)(G:List Own)(Q:List D7):Prop:=∃A cp,x.2.length<=cp/\cp<=9223372036854775807/\u=.tuple #[.slice A x.2.length cp,.int .i64 x.1]/\G=[]/\Q=[D7.row Kd.u8 A x.2]
theorem qQ(m:GZ)(s:Lie)(hm:FT m)(h:¬IX m):Ct Tryz.prog 55 [Ip m s] [] (H9 m s) (EncQ (160,[])):=by
 refine Ct.intro Tryz.func55 rfl rfl rfl (λc hc=>?_)
 refine AX ?_;refine GL.step rfl (Ee rfl rfl rfl) (Aa λIJ=>?_);refine AL 2 ?_;refine AB ?_;refine AX ?_;refine Az 0 28 ?_;refine Ah Tryz.call79 [] (up 0 8) rfl rfl rfl (by exact rchko_no m s hm h) ?_
 rintro _ _ _ ⟨rfl,rfl,rfl⟩
 refine AL 1 ?_;refine AU rfl ?_;refine AP 2 ?_;refine GC.know (q:=D7.row Kd.u8 none []) (λ_ _ _=>.inl rfl) ?_;refine GC.ret (BR 2 3 [] [0] ?_)
 exact⟨none,0,by simp,by simp,rfl,rfl,rfl⟩
theorem nrenc_ok(m:GZ)(s:Lie)(hm:FT m)(hn:0<=m.Ez/\m.Ez<18446744073709551616)(G8:m.log.length<100000)(h:IX m)(hf:(FC m).length<=16777216):Ct Tryz.prog 55 [Ip m s] [] (H9 m s) (EncQ (0,HY (FC m))):=by
 refine Ct.intro Tryz.func55 rfl rfl rfl (λc hc=>?_)
 refine AX ?_;refine GL.step rfl (Ee rfl rfl rfl) (Aa λIJ=>?_);refine AL 2 ?_;refine AB ?_;refine AX ?_;refine Az 0 28 ?_;refine Ah Tryz.call79 [] (up 0 8) rfl rfl rfl (by exact Zm m s hm h) ?_
 rintro _ _ _ ⟨rfl,rfl,rfl⟩
 refine AL 1 ?_;refine AY rfl ?_
 refine GC.skip (?_:GC _ _ _ _)
 refine AX ?_;refine Az 0 28 ?_;refine Ah Tryz.call81 [] (up 0 8) rfl rfl rfl (by exact TK m s hm h hn G8) ?_
 rintro _ _ _ ⟨A8,bs8,cp8,hi8,tJ,rfl,rfl,rfl⟩
 obtain rfl:=hi8 hf
 refine AO rfl (ED H6 JA rfl rfl) ?_;refine Ah Tryz.call80 [] [0] rfl rfl rfl (by exact pJ _ (FC m) _ hf) ?_
 rintro _ _ _ ⟨A10,cp10,l10,k10,rfl,rfl,rfl⟩
 refine AL 4 ?_;refine GC.EN (i:=0) rfl ?_;refine GC.ret (BR 2 3 [] [0] ?_)
 exact⟨_,_,l10,k10,rfl,rfl,rfl⟩
theorem gq(m:GZ)(s:Lie)(hm:FT m)(hn:0<=m.Ez/\m.Ez<18446744073709551616)(G8:m.log.length<100000)(h:IX m)(hf:¬(FC m).length<=16777216):Ct Tryz.prog 55 [Ip m s] [] (H9 m s) (EncQ (2,[])):=by
 refine Ct.intro Tryz.func55 rfl rfl rfl (λc hc=>?_)
 refine AX ?_;refine GL.step rfl (Ee rfl rfl rfl) (Aa λIJ=>?_);refine AL 2 ?_;refine AB ?_;refine AX ?_;refine Az 0 28 ?_;refine Ah Tryz.call79 [] (up 0 8) rfl rfl rfl (by exact Zm m s hm h) ?_
 rintro _ _ _ ⟨rfl,rfl,rfl⟩
 refine AL 1 ?_;refine AY rfl ?_
 refine GC.skip (?_:GC _ _ _ _)
 refine AX ?_;refine Az 0 28 ?_;refine Ah Tryz.call81 [] (up 0 8) rfl rfl rfl (by exact TK m s hm h hn G8) ?_
 rintro _ _ _ ⟨A8,bs8,cp8,hi8,tJ,rfl,rfl,rfl⟩
 refine AO rfl (ED H6 JA rfl rfl) ?_;refine Ah Tryz.call80 [] [] rfl rfl rfl (by exact Ze _ bs8.length _ (tJ (by omega))) ?_
 rintro _ _ _ ⟨rfl,rfl,rfl⟩
 refine AL 4 ?_;refine GC.know (q:=D7.row Kd.u8 none []) (λ_ _ _=>.inl rfl) ?_;refine GC.ret (BR 2 3 [] [0] ?_)
 exact⟨none,0,by simp,by simp,rfl,rfl,rfl⟩
theorem Vz(m:GZ)(s:Lie)(hm:FT m)(hn:0<=m.Ez/\m.Ez<18446744073709551616)(G8:m.log.length<100000):Ct Tryz.prog 55 [Ip m s] [] (H9 m s) (EncQ (FW m)):=by
 by_cases h:IX m
 ·by_cases hf:(FC m).length<=16777216
  ·rw[show FW m=(0,HY (FC m)) by rw[FW,if_pos h,if_pos hf]];exact nrenc_ok m s hm hn G8 h hf
  ·rw[show FW m=(2,[]) by rw[FW,if_pos h,if_neg hf]];exact gq m s hm hn G8 h hf
 ·rw[show FW m=(160,[]) by rw[FW,if_neg h]];exact qQ m s hm h
theorem rsend_no(r:Nat)(CA:Option Addr)(n cc:Nat)(x1 x2:Int)(m:GZ)(s:Lie)(hm:FT m)(hn:0<=m.Ez/\m.Ez<18446744073709551616)(G8:m.log.length<100000)(PV BV:Value)(hE:¬(FW m).1=0):Ct Tryz.prog 34 [.pointer (some ⟨r,0,none⟩),Ip m s] [LY r PV BV CA n cc x1 x2] (H9 m s) (λv G Q=>v=.int .i64 (FW m).1/\G=[LY r PV BV CA n cc x1 x2]/\Q=[]):=by
 refine Ct.intro Tryz.func34 rfl rfl rfl (λc hc=>?_)
 refine AX ?_;refine GL.step rfl (Ee rfl rfl rfl) (Aa λFQ=>?_);refine AL 1 ?_;refine AX ?_;refine Az 0 28 ?_;refine Ah Tryz.call55 [] (up 0 8) rfl rfl rfl (by exact Vz m s hm hn G8) ?_
 rintro _ _ _ ⟨A9,rX,l9,k9,rfl,rfl,rfl⟩
 refine AL 5 ?_;refine AB ?_;refine AP 2 ?_;refine Af ?_ ?_
 ·intro h1;try simp only[D6] at h1
  refine AP 2 ?_;refine GC.ret (AQ 4 [1] [] ?_)
  exact⟨rfl,rfl,rfl⟩
 intro h1;try simp only[D6] at h1
 exfalso;first|exact hE (Decidable.not_not.1 h1)|exact hE h1
theorem fA(r:Nat)(CA:Option Addr)(T:List (Int×Int))(cc:Nat)(x1 x2:Int)(m:GZ)(s:Lie)(hm:FT m)(hn:0<=m.Ez/\m.Ez<18446744073709551616)(G8:m.log.length<100000)(A:Option Addr)(n cp:Nat)(BV:Value)(hE:(FW m).1=0)(hT:T.length<=1000000)(ha:0<=x1/\x1<=4611686018427387904)(hb:0<=x2/\x2<=4611686018427387904)(hx:(m.src,m.dst)∈T\/4096<=n):Ct Tryz.prog 34 [.pointer (some ⟨r,0,none⟩),Ip m s] [LY r (.slice A n cp) BV CA T.length cc x1 x2] (D7.row qZ CA T::H9 m s) (λv G Q=>v=.int .i64 0/\G=[LY r (.slice A n cp) BV CA T.length cc (x1+1) (x2+1)]/\Q=[]):=by
 refine Ct.intro Tryz.func34 rfl rfl rfl (λc hc=>?_)
 refine AX ?_;refine GL.step rfl (Ee rfl rfl rfl) (Aa λFQ=>?_);refine AL 1 ?_;refine AX ?_;refine Az 0 28 ?_;refine Ah Tryz.call55 [] (up 1 8) rfl rfl rfl (by exact Vz m s hm hn G8) ?_
 rintro _ _ _ ⟨A9,rX,l9,k9,rfl,rfl,rfl⟩
 refine AL 5 ?_;refine AB ?_;refine AP 2 ?_;refine Af ?_ ?_
 ·intro h1;try simp only[D6] at h1
  exfalso;first|exact h1 hE|exact absurd hE h1
 intro h1;try simp only[D6] at h1
 refine GC.skip (?_:GC _ _ _ _)
 refine AV 3 ?_;refine Ad 1 ?_;refine AO rfl (EU rfl rfl (Fh (by omega) (by omega))) ?_;refine AA 2 ?_;refine BI 1 ?_;refine Ap ?_;refine AB ?_;refine AV 2 ?_;refine Ad 0 ?_
 refine AA 1 ?_;refine Ad 0 ?_;refine Ah Tryz.call39 [1] [1] rfl rfl rfl (by exact fC _ _ _ _ _ _ _ _ _ _ (by omega)) ?_
 rintro _ _ _ ⟨rfl,rfl,rfl⟩
 refine AA 1 ?_;refine Ak 28 ?_ ?_
 ·intro h2;try simp only[D6] at h2
  refine AL 7 ?_;refine AU rfl ?_;refine AV 3 ?_;refine Ad 0 ?_;refine AO rfl (EU rfl rfl (Fh (by omega) (by omega))) ?_;refine AA 2 ?_;refine BI 0 ?_;refine BL 1 ?_;refine Ap ?_
  refine GC.ret (AQ 4 [0] [] ?_)
  exact⟨rfl,rfl,rfl⟩
 intro h2;try simp only[D6] at h2
 refine AA 3 ?_;refine Aj 0 ?_;refine AL 3 ?_;refine Af ?_ ?_
 ·intro h3;try simp only[D6] at h3
  refine AV 3 ?_;refine Ad 0 ?_;refine AO rfl (EU rfl rfl (Fh (by omega) (by omega))) ?_;refine AA 2 ?_;refine BI 0 ?_;refine BL 1 ?_;refine Ap ?_;refine GC.ret (AQ 4 [0] [] ?_)
  exact⟨rfl,rfl,rfl⟩
 intro h3;try simp only[D6] at h3
 exfalso;rcases hx with hx|hx;exact absurd hx (by assumption);omega
theorem pW(r:Nat)(CA:Option Addr)(T:List (Int×Int))(cc:Nat)(x1 x2:Int)(m:GZ)(s:Lie)(hm:FT m)(hn:0<=m.Ez/\m.Ez<18446744073709551616)(G8:m.log.length<100000)(P:List (List UInt8))(bs:List Bool)(cs:List Value)(A B:Option Addr)(n cp cq:Nat)(hE:(FW m).1=0)(hT:T.length<=1000000)(ha:0<=x1/\x1<=4611686018427387904)(hx:(m.src,m.dst) ∉ T)(hk:n<4096):Ct Tryz.prog 34 [.pointer (some ⟨r,0,none⟩),Ip m s] [LY r (.slice A n cp) (.slice B n cq) CA T.length cc x1 x2,.row (.slice A n cp) 47 1 n cs,.row (.slice B n cq) 4 1 n (bs.map Value.bool)] (A_ Fz P cs::D7.row qZ CA T::H9 m s)
    (λv G Q=>∃A' cp' B' Uk cs',v=.int .i64 0/\G=[LY r (.slice A' (n+1) cp') (.slice B' (n+1) Uk) CA T.length cc (x1+1) x2,.row (.slice A' (n+1) cp') 47 1 (n+1) cs',.row (.slice B' (n+1) Uk) 4 1 (n+1) (bs.map Value.bool++[.bool false])]/\Q=[A_ Fz (P++[(FW m).2]) cs']):=by
 refine Ct.intro Tryz.func34 rfl rfl rfl (λc hc=>?_)
 refine AX ?_;refine GL.step rfl (Ee rfl rfl rfl) (Aa λFQ=>?_);refine AL 1 ?_;refine AX ?_;refine Az 0 28 ?_;refine Ah Tryz.call55 [] (up 2 8) rfl rfl rfl (by exact Vz m s hm hn G8) ?_
 rintro _ _ _ ⟨A9,rX,l9,k9,rfl,rfl,rfl⟩
 refine AL 5 ?_;refine AB ?_;refine AP 2 ?_;refine Af ?_ ?_
 ·intro h1;try simp only[D6] at h1
  exfalso;first|exact h1 hE|exact absurd hE h1
 intro h1;try simp only[D6] at h1
 refine GC.skip (?_:GC _ _ _ _)
 refine AV 3 ?_;refine Ad 1 ?_;refine AO rfl (EU rfl rfl (Fh (by omega) (by omega))) ?_;refine AA 2 ?_;refine BI 1 ?_;refine Ap ?_;refine AB ?_;refine AV 2 ?_;refine Ad 0 ?_
 refine AA 1 ?_;refine Ad 0 ?_;refine Ah Tryz.call39 [1] [2] rfl rfl rfl (by exact fC _ _ _ _ _ _ _ _ _ _ (by omega)) ?_
 rintro _ _ _ ⟨rfl,rfl,rfl⟩
 refine AA 1 ?_;refine Ak 28 ?_ ?_
 ·intro h2;try simp only[D6] at h2
  exfalso;exact absurd (by assumption) hx
 intro h2;try simp only[D6] at h2
 refine AA 3 ?_;refine Aj 0 ?_;refine AL 3 ?_;refine Af ?_ ?_
 ·intro h3;try simp only[D6] at h3
  exfalso;omega
 intro h3;try simp only[D6] at h3
 refine GC.skip (?_:GC _ _ _ _)
 refine AB ?_;refine Dh (m:=21) (is:=[0,0]) (js:=(up 0 11)) 17 Ef rfl rfl rfl ?_
 refine GU.take 0 rfl (by kernel_rfl) (by kernel_rfl) (by kernel_rfl) rfl rfl (.inr (λa w h=>h.me [0,0] (up 0 11))) (FM (Fe rfl)) ?_
 refine GU.take 1 rfl (by kernel_rfl) (by kernel_rfl) (by kernel_rfl) rfl rfl (.inr (λa w h=>h.me [0,0] (up 0 11))) (FM (Fe rfl)) ?_
 refine GU.take 2 rfl (by kernel_rfl) (by kernel_rfl) (by kernel_rfl) rfl rfl (.inr (λa w h=>h.me [0,0] (up 0 11))) (FM (Fe rfl)) ?_
 refine GU.take 3 rfl (by kernel_rfl) (by kernel_rfl) (by kernel_rfl) rfl rfl (.inr (λa w h=>h.me [0,0] (up 0 11))) (FM (Fb rfl)) ?_
 refine GU.take 4 rfl (by kernel_rfl) (by kernel_rfl) (by kernel_rfl) rfl rfl (.inr (λa w h=>h.me [0,0] (up 0 11))) (FM (En Ou rfl)) ?_
 refine GU.take 5 rfl (by kernel_rfl) (by kernel_rfl) (by kernel_rfl) rfl rfl (.inr (λa w h=>h.me [0,0] (up 0 11))) (Xg (by kernel_rfl) (by kernel_rfl) (EF (i:=0) rfl rfl UQ rfl)) ?_
 refine GU.take 6 rfl (by kernel_rfl) (by kernel_rfl) (by kernel_rfl) rfl rfl (.inr (λa w h=>h.me [0,0] (up 0 11))) (FM (Fe rfl)) ?_
 refine GU.take 9 rfl (by kernel_rfl) (by kernel_rfl) (by kernel_rfl) rfl rfl (.inr (λa w h=>h.me [0,0] (up 0 11))) (FM (Fe rfl)) ?_
 refine GU.take 10 rfl (by kernel_rfl) (by kernel_rfl) (by kernel_rfl) rfl rfl (.inr (λa w h=>h.me [0,0] (up 0 11))) (FM (Fb rfl)) ?_
 refine GU.take 11 rfl (by kernel_rfl) (by kernel_rfl) (by kernel_rfl) rfl rfl (.inr (λa w h=>h.me [0,0] (up 0 11))) (FM (En Ot rfl)) ?_
 refine GU.take 12 rfl (by kernel_rfl) (by kernel_rfl) (by kernel_rfl) rfl rfl (.inr (λa w h=>h.me [0,0] (up 0 11))) (Xg (by kernel_rfl) (by kernel_rfl) (EF (i:=0) rfl rfl oD rfl)) ?_
 refine GU.all (rs:=[7,13]) (by kernel_rfl) (by simp) ?_
 refine RH.cons (i:=7) rfl rfl (EC rfl Tryz.underlying81 Ls jl rfl rfl rfl rfl rfl rfl) (.inr (by rintro a w ⟨_,h⟩;exact h.me [1,1] (up 0 11))) (Ce λb_t50=>?_) ?_
 ·refine GU.all (rs:=[8,13]) (by kernel_rfl) (by simp) ?_
  refine RH.cons (i:=8) rfl rfl (Eh (i:=3) (k:=0) rfl bV rfl rfl rfl rfl rfl (EX rfl) (by omega) (λ_=>rfl)) (.inr (by rintro a w ⟨_,h⟩;exact h.me [1,1] (up 0 11))) (Ce λv51=>?_) ?_
  ·refine GU.shape (i:=3) rfl (λA_v51 c_v51 Ws l_v51 k_v51=>?_)
   subst Ws
   refine GU.all (rs:=[13]) (by kernel_rfl) (by simp) ?_
   refine RH.cons (i:=13) rfl rfl (EC rfl Tryz.underlying82 VK ze_4 rfl rfl rfl rfl rfl rfl) (.inr (by rintro a w ⟨_,h⟩;exact h.me [2,2] (up 0 11))) (Ce λnY=>?_) ?_
   ·refine GU.all (rs:=[14]) (by kernel_rfl) (by simp) ?_
    refine RH.cons (i:=14) rfl rfl (Eh (i:=5) (k:=0) rfl bU rfl rfl rfl rfl rfl (EX rfl) (by omega) (λ_=>rfl)) (.inr (by rintro a w ⟨_,h⟩;exact h.me [2,2] (up 0 11))) (Ce λv57=>?_) ?_
    ·refine GU.shape (i:=5) rfl (λA_v57 c_v57 bW l_v57 k_v57=>?_)
     subst bW
     refine GU.take 15 rfl (by kernel_rfl) (by kernel_rfl) (by kernel_rfl) rfl rfl (.inr (λa w h=>h.me [2,2] (up 0 11))) (FM (Fb rfl)) ?_
     refine GU.take 16 rfl (by kernel_rfl) (by kernel_rfl) (by kernel_rfl) rfl rfl (.inr (λa w h=>h.me [2,2] (up 0 11))) (FM (En Ou rfl)) ?_
     refine GU.all (rs:=[17]) (by kernel_rfl) (by simp) ?_
     refine RH.cons (i:=17) rfl rfl (Et (i:=2) rfl rfl rfl rfl kD rfl rfl rfl) (.inl (by kernel_rfl)) ?_ ?_
     ·refine GU.take 18 rfl (by kernel_rfl) (by kernel_rfl) (by kernel_rfl) rfl rfl (.inl (by kernel_rfl)) (FM (Fb rfl)) ?_
      refine GU.take 19 rfl (by kernel_rfl) (by kernel_rfl) (by kernel_rfl) rfl rfl (.inl (by kernel_rfl)) (FM (En Ot rfl)) ?_
      refine GU.all (rs:=[20]) (by kernel_rfl) (by simp) ?_
      refine RH.cons (i:=20) rfl rfl (Et (i:=2) rfl rfl rfl rfl kC rfl rfl rfl) (.inl (by kernel_rfl)) ?_ ?_
      ·refine Dk (by kernel_rfl) (?_:GC _ _ _ _)
       refine AX ?_;refine GL.snoc (j:=1) (js:=[0]) ((FW m).2) ((A9,rX):Option Addr×Nat) rfl rfl ⟨l9,k9⟩ ?_;refine AL 1 ?_;refine GC.ret (AQ 4 [2,3,3] [0] ?_)
       exact⟨_,_,_,_,_,rfl,rfl,rfl⟩
      exact Bl
     exact Bl
    exact Bl
   exact Bl
  refine RH.cons (i:=13) rfl rfl (EC rfl Tryz.underlying82 VK ze_4 rfl rfl rfl rfl rfl rfl) (.inr (by rintro a w ⟨_,h⟩;exact h.me [2,2] (up 0 11))) (Ce λnY=>?_) ?_
  ·refine GU.all (rs:=[8]) (by kernel_rfl) (by simp) ?_
   refine RH.cons (i:=8) rfl rfl (Eh (i:=4) (k:=1) rfl bV rfl rfl rfl rfl rfl (EX rfl) (by omega) (λ_=>rfl)) (.inr (by rintro a w ⟨_,h⟩;exact h.me [2,2] (up 0 11))) (Ce λv51=>?_) ?_
   ·refine GU.shape (i:=4) rfl (λA_v51 c_v51 Ws l_v51 k_v51=>?_)
    subst Ws
    refine GU.all (rs:=[14]) (by kernel_rfl) (by simp) ?_
    refine RH.cons (i:=14) rfl rfl (Eh (i:=5) (k:=0) rfl bU rfl rfl rfl rfl rfl (EX rfl) (by omega) (λ_=>rfl)) (.inr (by rintro a w ⟨_,h⟩;exact h.me [2,2] (up 0 11))) (Ce λv57=>?_) ?_
    ·refine GU.shape (i:=5) rfl (λA_v57 c_v57 bW l_v57 k_v57=>?_)
     subst bW
     refine GU.take 15 rfl (by kernel_rfl) (by kernel_rfl) (by kernel_rfl) rfl rfl (.inr (λa w h=>h.me [2,2] (up 0 11))) (FM (Fb rfl)) ?_
     refine GU.take 16 rfl (by kernel_rfl) (by kernel_rfl) (by kernel_rfl) rfl rfl (.inr (λa w h=>h.me [2,2] (up 0 11))) (FM (En Ou rfl)) ?_
     refine GU.all (rs:=[17]) (by kernel_rfl) (by simp) ?_
     refine RH.cons (i:=17) rfl rfl (Et (i:=2) rfl rfl rfl rfl kD rfl rfl rfl) (.inl (by kernel_rfl)) ?_ ?_
     ·refine GU.take 18 rfl (by kernel_rfl) (by kernel_rfl) (by kernel_rfl) rfl rfl (.inl (by kernel_rfl)) (FM (Fb rfl)) ?_
      refine GU.take 19 rfl (by kernel_rfl) (by kernel_rfl) (by kernel_rfl) rfl rfl (.inl (by kernel_rfl)) (FM (En Ot rfl)) ?_
      refine GU.all (rs:=[20]) (by kernel_rfl) (by simp) ?_
      refine RH.cons (i:=20) rfl rfl (Et (i:=2) rfl rfl rfl rfl kC rfl rfl rfl) (.inl (by kernel_rfl)) ?_ ?_
      ·refine Dk (by kernel_rfl) (?_:GC _ _ _ _)
       refine AX ?_;refine GL.snoc (j:=1) (js:=[0]) ((FW m).2) ((A9,rX):Option Addr×Nat) rfl rfl ⟨l9,k9⟩ ?_;refine AL 1 ?_;refine GC.ret (AQ 4 [2,3,3] [0] ?_)
       exact⟨_,_,_,_,_,rfl,rfl,rfl⟩
      exact Bl
     exact Bl
    exact Bl
   exact Bl
  exact Bl
 refine RH.cons (i:=13) rfl rfl (EC rfl Tryz.underlying82 VK ze_4 rfl rfl rfl rfl rfl rfl) (.inr (by rintro a w ⟨_,h⟩;exact h.me [1,1] (up 0 11))) (Ce λnY=>?_) ?_
 ·refine GU.all (rs:=[7]) (by kernel_rfl) (by simp) ?_
  refine RH.cons (i:=7) rfl rfl (EC rfl Tryz.underlying81 Ls jl rfl rfl rfl rfl rfl rfl) (.inr (by rintro a w ⟨_,h⟩;exact h.me [2,2] (up 0 11))) (Ce λb_t50=>?_) ?_
  ·refine GU.all (rs:=[8]) (by kernel_rfl) (by simp) ?_
   refine RH.cons (i:=8) rfl rfl (Eh (i:=4) (k:=0) rfl bV rfl rfl rfl rfl rfl (EX rfl) (by omega) (λ_=>rfl)) (.inr (by rintro a w ⟨_,h⟩;exact h.me [2,2] (up 0 11))) (Ce λv51=>?_) ?_
   ·refine GU.shape (i:=4) rfl (λA_v51 c_v51 Ws l_v51 k_v51=>?_)
    subst Ws
    refine GU.all (rs:=[14]) (by kernel_rfl) (by simp) ?_
    refine RH.cons (i:=14) rfl rfl (Eh (i:=5) (k:=1) rfl bU rfl rfl rfl rfl rfl (EX rfl) (by omega) (λ_=>rfl)) (.inr (by rintro a w ⟨_,h⟩;exact h.me [2,2] (up 0 11))) (Ce λv57=>?_) ?_
    ·refine GU.shape (i:=5) rfl (λA_v57 c_v57 bW l_v57 k_v57=>?_)
     subst bW
     refine GU.take 15 rfl (by kernel_rfl) (by kernel_rfl) (by kernel_rfl) rfl rfl (.inr (λa w h=>h.me [2,2] (up 0 11))) (FM (Fb rfl)) ?_
     refine GU.take 16 rfl (by kernel_rfl) (by kernel_rfl) (by kernel_rfl) rfl rfl (.inr (λa w h=>h.me [2,2] (up 0 11))) (FM (En Ou rfl)) ?_
     refine GU.all (rs:=[17]) (by kernel_rfl) (by simp) ?_
     refine RH.cons (i:=17) rfl rfl (Et (i:=2) rfl rfl rfl rfl kD rfl rfl rfl) (.inl (by kernel_rfl)) ?_ ?_
     ·refine GU.take 18 rfl (by kernel_rfl) (by kernel_rfl) (by kernel_rfl) rfl rfl (.inl (by kernel_rfl)) (FM (Fb rfl)) ?_
      refine GU.take 19 rfl (by kernel_rfl) (by kernel_rfl) (by kernel_rfl) rfl rfl (.inl (by kernel_rfl)) (FM (En Ot rfl)) ?_
      refine GU.all (rs:=[20]) (by kernel_rfl) (by simp) ?_
      refine RH.cons (i:=20) rfl rfl (Et (i:=2) rfl rfl rfl rfl kC rfl rfl rfl) (.inl (by kernel_rfl)) ?_ ?_
      ·refine Dk (by kernel_rfl) (?_:GC _ _ _ _)
       refine AX ?_;refine GL.snoc (j:=1) (js:=[0]) ((FW m).2) ((A9,rX):Option Addr×Nat) rfl rfl ⟨l9,k9⟩ ?_;refine AL 1 ?_;refine GC.ret (AQ 4 [2,3,3] [0] ?_)
       exact⟨_,_,_,_,_,rfl,rfl,rfl⟩
      exact Bl
     exact Bl
    exact Bl
   exact Bl
  exact Bl
 exact Bl
theorem Xm{α:Type}(P:List α)(i:Nat):seg P 0 i++seg P (i+1) P.length=P.eraseIdx i:=by
 rw[List.eraseIdx_eq_take_drop_succ]
 simp[seg]
theorem qC(r:Nat)(A:Option Addr)(n cp:Nat)(BV:Value)(CA:Option Addr)(k cc:Nat)(x1 x2:Int)(i:Int)(hi:¬(0<=i/\i<(n:Int))):Ct Tryz.prog 36 [.pointer (some ⟨r,0,none⟩),.int .i64 i] [LY r (.slice A n cp) BV CA k cc x1 x2] [] (λv G Q=>v=.int .i64 5/\G=[LY r (.slice A n cp) BV CA k cc x1 x2]/\Q=[]):=by
 refine Ct.intro Tryz.func36 rfl rfl rfl (λc hc=>?_)
 refine AP 1 ?_;refine AB ?_;refine AV 3 ?_;refine Ak 7 ?_ ?_
 ·intro h1;try simp only[D6] at h1
  refine AL 8 ?_;refine AU rfl ?_;refine AP 1 ?_;refine GC.ret (AQ 4 [0] [] ?_)
  exact⟨rfl,rfl,rfl⟩
 intro h1;try simp only[D6] at h1
 refine AA 4 ?_;refine Aj 0 ?_;refine AL 3 ?_;refine Af ?_ ?_
 ·intro h2;try simp only[D6] at h2
  refine AP 1 ?_;refine GC.ret (AQ 4 [0] [] ?_)
  exact⟨rfl,rfl,rfl⟩
 intro h2;try simp only[D6] at h2
 exfalso;omega
theorem Vd(r:Nat)(P:List (List UInt8))(bs:List Bool)(cs:List Value)(A B:Option Addr)(cp cq:Nat)(CA:Option Addr)(k cc:Nat)(x1 x2:Int)(i:Int)(hn:bs.length=P.length)(hP:P.length<=1000000)(hi:0<=i/\i<(P.length:Int)):Ct Tryz.prog 36 [.pointer (some ⟨r,0,none⟩),.int .i64 i] [LY r (.slice A P.length cp) (.slice B bs.length cq) CA k cc x1 x2,.row (.slice A P.length cp) 47 1 P.length cs,.row (.slice B bs.length cq) 4 1 bs.length (bs.map Value.bool)] [A_ Fz P cs]
    (λv G Q=>∃A' cp' B' Uk cs',v=.int .i64 0/\G=[LY r (.slice A' (P.eraseIdx i.toNat).length cp') (.slice B' (bs.eraseIdx i.toNat).length Uk) CA k cc x1 x2,.row (.slice A' (P.eraseIdx i.toNat).length cp') 47 1 (P.eraseIdx i.toNat).length cs',.row (.slice B' (bs.eraseIdx i.toNat).length Uk) 4 1 (bs.eraseIdx i.toNat).length ((bs.eraseIdx i.toNat).map Value.bool)]/\Q=[A_ Fz (P.eraseIdx i.toNat) cs']):=by
 have s1:=seg_length (xs:=P) (l:=0) (h:=i.toNat) (by omega)
 have s2:=seg_length (xs:=P) (l:=(i+1).toNat) (h:=P.length) (Nat.le_refl _)
 have s3:=seg_length (xs:=bs) (l:=0) (h:=i.toNat) (by omega)
 have s4:=seg_length (xs:=bs) (l:=(i+1).toNat) (h:=bs.length) (Nat.le_refl _)
 have e1:seg P 0 i.toNat++seg P (i+1).toNat P.length=P.eraseIdx i.toNat:=by rw[<-Xm,show(i+1).toNat=i.toNat+1 by omega]
 have e2:seg bs 0 i.toNat++seg bs (i+1).toNat bs.length=bs.eraseIdx i.toNat:=by rw[<-Xm,show(i+1).toNat=i.toNat+1 by omega]
 have n1:0+(seg P 0 i.toNat).length+(seg P (i+1).toNat P.length).length=(P.eraseIdx i.toNat).length:=by rw[<-e1,List.length_append,Nat.zero_add]
 have n2:0+(seg bs 0 i.toNat).length+(seg bs (i+1).toNat bs.length).length=(bs.eraseIdx i.toNat).length:=by rw[<-e2,List.length_append,Nat.zero_add]
 have e3:[]++(seg bs 0 i.toNat).map Value.bool++(seg bs (i+1).toNat bs.length).map Value.bool=(bs.eraseIdx i.toNat).map Value.bool:=by rw[List.nil_append,<-List.map_append,e2]
 refine Ct.intro Tryz.func36 rfl rfl rfl (λc hc=>?_)
 refine AP 1 ?_;refine AB ?_;refine AV 3 ?_;refine Ak 7 ?_ ?_
 ·intro h1;try simp only[D6] at h1
  exfalso;omega
 intro h1;try simp only[D6] at h1
 refine AA 4 ?_;refine Aj 0 ?_;refine AL 3 ?_;refine Af ?_ ?_
 ·intro h2;try simp only[D6] at h2
  exfalso;omega
 intro h2;try simp only[D6] at h2
 refine GC.skip (?_:GC _ _ _ _)
 refine AB ?_;refine GC.shape (i:=1) rfl (λA1 c1 e1 lP kP=>?_)
 cases e1
 refine GC.shape (i:=2) rfl (λA2 c2 e2 lB kB=>?_)
 cases e2
 refine GC.IQ (i:=1) (j:=0) rfl rfl (by decide) ?_;refine GC.know (q:=D7.row Fz (XJ A 1 0 cp) (seg P 0 i.toNat)) (λw S hp=>Oh (kd:=Fz) (hp _ (FI (i:=0) rfl)) (by first|exact Nat.le_refl _|omega) (by omega)) ?_
 refine GC.know (q:=D7.row Fz (XJ A 1 (i+1).toNat cp) (seg P (i+1).toNat (P).length)) (λw S hp=>Oh (kd:=Fz) (hp _ (FI (i:=1) rfl)) (by first|exact Nat.le_refl _|omega) (by omega)) ?_
 refine Dh (m:=20) (is:=[0,0]) (js:=[0,1,2,3]) 19 Ef rfl rfl rfl ?_
 refine GU.take 0 rfl (by kernel_rfl) (by kernel_rfl) (by kernel_rfl) rfl rfl (.inr (λa w h=>h.me [0,0] [0,1,2,3])) (FM (Fe rfl)) ?_
 refine GU.take 2 rfl (by kernel_rfl) (by kernel_rfl) (by kernel_rfl) rfl rfl (.inr (λa w h=>h.me [0,0] [0,1,2,3])) (FM (Fe rfl)) ?_
 refine GU.take 3 rfl (by kernel_rfl) (by kernel_rfl) (by kernel_rfl) rfl rfl (.inr (λa w h=>h.me [0,0] [0,1,2,3])) (FM (Fb rfl)) ?_
 refine GU.take 4 rfl (by kernel_rfl) (by kernel_rfl) (by kernel_rfl) rfl rfl (.inr (λa w h=>h.me [0,0] [0,1,2,3])) (FM (En Ou rfl)) ?_
 refine GU.take 5 rfl (by kernel_rfl) (by kernel_rfl) (by kernel_rfl) rfl rfl (.inr (λa w h=>h.me [0,0] [0,1,2,3])) (Xg (by kernel_rfl) (by kernel_rfl) (EF (i:=0) rfl rfl UQ rfl)) ?_
 refine GU.take 6 rfl (by kernel_rfl) (by kernel_rfl) (by kernel_rfl) rfl rfl (.inr (λa w h=>h.me [0,0] [0,1,2,3])) (FM (Fe rfl)) ?_
 refine GU.take 7 rfl (by kernel_rfl) (by kernel_rfl) (by kernel_rfl) rfl rfl (.inr (λa w h=>h.me [0,0] [0,1,2,3])) (FM (Ux rfl rfl Tryz.underlying81 Ls (by omega) (by omega) (seg_length (xs:=P) (by omega)).symm rfl rfl)) ?_
 refine GU.take 9 rfl (by kernel_rfl) (by kernel_rfl) (by kernel_rfl) rfl rfl (.inr (λa w h=>h.me [0,0] [0,1,2,3])) (FM (Fe rfl)) ?_
 refine GU.take 10 rfl (by kernel_rfl) (by kernel_rfl) (by kernel_rfl) rfl rfl (.inr (λa w h=>h.me [0,0] [0,1,2,3])) (FM (Fb rfl)) ?_
 refine GU.take 11 rfl (by kernel_rfl) (by kernel_rfl) (by kernel_rfl) rfl rfl (.inr (λa w h=>h.me [0,0] [0,1,2,3])) (FM (En Ou rfl)) ?_
 refine GU.take 12 rfl (by kernel_rfl) (by kernel_rfl) (by kernel_rfl) rfl rfl (.inr (λa w h=>h.me [0,0] [0,1,2,3])) (Xg (by kernel_rfl) (by kernel_rfl) (EF (i:=0) rfl rfl UQ rfl)) ?_
 refine GU.take 13 rfl (by kernel_rfl) (by kernel_rfl) (by kernel_rfl) rfl rfl (.inr (λa w h=>h.me [0,0] [0,1,2,3])) (FM (Fe rfl)) ?_
 refine GU.take 14 rfl (by kernel_rfl) (by kernel_rfl) (by kernel_rfl) rfl rfl (.inr (λa w h=>h.me [0,0] [0,1,2,3])) (FM (EU rfl rfl (Fh (by omega) (by omega)))) ?_
 refine GU.take 15 rfl (by kernel_rfl) (by kernel_rfl) (by kernel_rfl) rfl rfl (.inr (λa w h=>h.me [0,0] [0,1,2,3])) (FM (Uw rfl rfl Tryz.underlying81 Ls (by omega) (by omega) (seg_length (xs:=P) (Nat.le_refl _)).symm rfl rfl)) ?_
 refine GU.all (rs:=[1]) (by kernel_rfl) (by simp) ?_
 refine RH.cons (i:=1) rfl rfl (EC rfl Tryz.underlying81 Ls jl rfl rfl rfl rfl rfl rfl) (.inr (by rintro a w ⟨_,h⟩;exact h.me [1,1] [0,1,2,3])) (Ce λb_t17=>?_) ?_
 ·refine GU.VH (i:=0) (m:=0) (sz:=1) rfl rfl (by decide) rfl ?_
  refine GU.all (rs:=[8]) (by kernel_rfl) (by simp) ?_
  refine RH.cons (i:=8) rfl rfl (Xl (i:=0) (k:=1) rfl bV rfl rfl rfl rfl (by omega) (λ_ _=>rfl)) (.inr (by rintro a w ⟨_,_,h⟩;exact h.me [1,1] [1,2,3,4])) (Ce λv24=>Ce λnw_24=>?_) ?_
  ·refine GU.shape (i:=0) rfl (λA_v24 c_v24 Wu l_v24 k_v24=>?_)
   subst Wu
   refine GU.all (rs:=[16]) (by kernel_rfl) (by simp) ?_
   refine RH.cons (i:=16) rfl rfl (Xl (i:=0) (k:=1) rfl bV rfl rfl rfl rfl (by omega) (λ_ _=>rfl)) (.inr (by rintro a w ⟨_,_,h⟩;exact h.me [1,1] [2,3,4,5])) (Ce λv32=>Ce λnw_32=>?_) ?_
   ·refine GU.shape (i:=0) rfl (λA_v32 c_v32 e_v32 l_v32 k_v32=>?_)
    subst e_v32
    refine GU.take 17 rfl (by kernel_rfl) (by kernel_rfl) (by kernel_rfl) rfl rfl (.inr (λa w h=>h.me [1,1] [2,3,4,5])) (FM (Fb rfl)) ?_
    refine GU.take 18 rfl (by kernel_rfl) (by kernel_rfl) (by kernel_rfl) rfl rfl (.inr (λa w h=>h.me [1,1] [2,3,4,5])) (FM (En Ou rfl)) ?_
    refine GU.all (rs:=[19]) (by kernel_rfl) (by simp) ?_
    refine RH.cons (i:=19) rfl rfl (Et (i:=1) rfl rfl rfl rfl kD rfl rfl rfl) (.inl (by kernel_rfl)) ?_ ?_
    ·refine Dk (by kernel_rfl) (?_:GC _ _ _ _)
     refine AB ?_;refine GC.know (q:=A_ Kd.bool bs (bs.map Value.bool)) (λ_ _ _=>LV bs) ?_;refine GC.IQ (i:=2) (j:=0) rfl rfl (by decide) ?_;refine GC.know (q:=D7.row Kd.bool (XJ B 1 0 cq) (seg bs 0 i.toNat)) (λw S hp=>Oh (kd:=Kd.bool) (hp _ (FI (i:=0) rfl)) (by first|exact Nat.le_refl _|omega) (by omega)) ?_
     refine GC.know (q:=D7.row Kd.bool (XJ B 1 (i+1).toNat cq) (seg bs (i+1).toNat (bs).length)) (λw S hp=>Oh (kd:=Kd.bool) (hp _ (FI (i:=1) rfl)) (by first|exact Nat.le_refl _|omega) (by omega)) ?_
     refine Dh (m:=20) (is:=[0,0]) (js:=(up 0 10)) 19 Ef rfl rfl rfl ?_
     refine GU.take 0 rfl (by kernel_rfl) (by kernel_rfl) (by kernel_rfl) rfl rfl (.inr (λa w h=>h.me [0,0] (up 0 10))) (FM (Fe rfl)) ?_
     refine GU.take 2 rfl (by kernel_rfl) (by kernel_rfl) (by kernel_rfl) rfl rfl (.inr (λa w h=>h.me [0,0] (up 0 10))) (FM (Fe rfl)) ?_
     refine GU.take 3 rfl (by kernel_rfl) (by kernel_rfl) (by kernel_rfl) rfl rfl (.inr (λa w h=>h.me [0,0] (up 0 10))) (FM (Fb rfl)) ?_
     refine GU.take 4 rfl (by kernel_rfl) (by kernel_rfl) (by kernel_rfl) rfl rfl (.inr (λa w h=>h.me [0,0] (up 0 10))) (FM (En Ot rfl)) ?_
     refine GU.take 5 rfl (by kernel_rfl) (by kernel_rfl) (by kernel_rfl) rfl rfl (.inr (λa w h=>h.me [0,0] (up 0 10))) (Xg (by kernel_rfl) (by kernel_rfl) (EF (i:=1) rfl rfl oD rfl)) ?_
     refine GU.take 6 rfl (by kernel_rfl) (by kernel_rfl) (by kernel_rfl) rfl rfl (.inr (λa w h=>h.me [0,0] (up 0 10))) (FM (Fe rfl)) ?_
     refine GU.take 7 rfl (by kernel_rfl) (by kernel_rfl) (by kernel_rfl) rfl rfl (.inr (λa w h=>h.me [0,0] (up 0 10))) (FM (Ux rfl rfl Tryz.underlying82 VK (by omega) (by omega) (seg_length (xs:=bs) (by omega)).symm rfl rfl)) ?_
     refine GU.take 9 rfl (by kernel_rfl) (by kernel_rfl) (by kernel_rfl) rfl rfl (.inr (λa w h=>h.me [0,0] (up 0 10))) (FM (Fe rfl)) ?_
     refine GU.take 10 rfl (by kernel_rfl) (by kernel_rfl) (by kernel_rfl) rfl rfl (.inr (λa w h=>h.me [0,0] (up 0 10))) (FM (Fb rfl)) ?_
     refine GU.take 11 rfl (by kernel_rfl) (by kernel_rfl) (by kernel_rfl) rfl rfl (.inr (λa w h=>h.me [0,0] (up 0 10))) (FM (En Ot rfl)) ?_
     refine GU.take 12 rfl (by kernel_rfl) (by kernel_rfl) (by kernel_rfl) rfl rfl (.inr (λa w h=>h.me [0,0] (up 0 10))) (Xg (by kernel_rfl) (by kernel_rfl) (EF (i:=1) rfl rfl oD rfl)) ?_
     refine GU.take 13 rfl (by kernel_rfl) (by kernel_rfl) (by kernel_rfl) rfl rfl (.inr (λa w h=>h.me [0,0] (up 0 10))) (FM (Fe rfl)) ?_
     refine GU.take 14 rfl (by kernel_rfl) (by kernel_rfl) (by kernel_rfl) rfl rfl (.inr (λa w h=>h.me [0,0] (up 0 10))) (FM (EU rfl rfl (Fh (by omega) (by omega)))) ?_
     refine GU.take 15 rfl (by kernel_rfl) (by kernel_rfl) (by kernel_rfl) rfl rfl (.inr (λa w h=>h.me [0,0] (up 0 10))) (FM (Uw rfl rfl Tryz.underlying82 VK (by omega) (by omega) (seg_length (xs:=bs) (Nat.le_refl _)).symm rfl rfl)) ?_
     refine GU.all (rs:=[1]) (by kernel_rfl) (by simp) ?_
     refine RH.cons (i:=1) rfl rfl (EC rfl Tryz.underlying82 VK ze_4 rfl rfl rfl rfl rfl rfl) (.inr (by rintro a w ⟨_,h⟩;exact h.me [1,1] (up 0 10))) (Ce λb_t36=>?_) ?_
     ·refine GU.VH (i:=0) (m:=0) (sz:=1) rfl rfl (by decide) rfl ?_
      refine GU.all (rs:=[8]) (by kernel_rfl) (by simp) ?_
      refine RH.cons (i:=8) rfl rfl (Ep (i:=0) (k:=1) rfl bU rfl rfl rfl rfl (by omega) (λ_=>rfl)) (.inr (by rintro a w ⟨_,h⟩;exact h.me [1,1] (up 0 10))) (Ce λv43=>?_) ?_
      ·refine GU.shape (i:=0) rfl (λA_v43 c_v43 e_v43 l_v43 k_v43=>?_)
       subst e_v43
       refine GU.all (rs:=[16]) (by kernel_rfl) (by simp) ?_
       refine RH.cons (i:=16) rfl rfl (Ep (i:=0) (k:=0) rfl bU rfl rfl rfl rfl (by omega) (λ_=>rfl)) (.inr (by rintro a w ⟨_,h⟩;exact h.me [1,1] (up 0 10))) (Ce λv51=>?_) ?_
       ·refine GU.shape (i:=0) rfl (λA_v51 c_v51 Ws l_v51 k_v51=>?_)
        subst Ws
        refine GU.take 17 rfl (by kernel_rfl) (by kernel_rfl) (by kernel_rfl) rfl rfl (.inr (λa w h=>h.me [1,1] (up 0 10))) (FM (Fb rfl)) ?_
        refine GU.take 18 rfl (by kernel_rfl) (by kernel_rfl) (by kernel_rfl) rfl rfl (.inr (λa w h=>h.me [1,1] (up 0 10))) (FM (En Ot rfl)) ?_
        refine GU.all (rs:=[19]) (by kernel_rfl) (by simp) ?_
        refine RH.cons (i:=19) rfl rfl (Et (i:=2) rfl rfl rfl rfl kC rfl rfl rfl) (.inl (by kernel_rfl)) ?_ ?_
        ·refine Dk (by kernel_rfl) (?_:GC _ _ _ _)
         refine AX ?_;refine GL.know (q:=A_ Fz (P.eraseIdx i.toNat) ([]++nw_24++nw_32)) (λw S hp=>by rw[<-e1];exact JO.append (hp _ (FI (i:=4) rfl)) (hp _ (FI (i:=5) rfl))) ?_
         refine AL 1 ?_;refine GC.ret (AQ 4 [2,1,0] [0] ?_)
         rw[n1,n2,e3]
         exact⟨_,_,_,_,_,rfl,rfl,rfl⟩
        exact Bl
       exact Bl
      exact Bl
     exact Bl
    exact Bl
   exact Bl
  exact Bl
 exact Bl
def good(b:List UInt8):Prop:=XM b=0/\Jc b+20=b.length/\(gt b 2).toNat=4/\GH (seg b 4 12)=0
def TL(b:List UInt8):Int:=if XM b=0 then 160 else XM b
theorem jq(A:Option Addr)(b:List UInt8)(cp:Nat)(hb:b.length<=100000000)(hcp:b.length<=cp)(Gl:cp<=9223372036854775807)(hbad:¬good b):Ct Tryz.prog 24 [.slice A b.length cp] [] [D7.row Kd.u8 A b] (λu G Q=>u=.tuple #[msgZ,.int .i64 (TL b)]/\G=[]/\Q=[]):=by
 refine Ct.WA Tryz.func24 rfl rfl rfl (λc hc tK=>?_)
 refine AX ?_;refine GL.step rfl (EH rfl F6) (Aa λGm=>?_);refine GL.step rfl (EH rfl ji) (Aa λFQ=>?_);refine BL 1 ?_;refine Ah Tryz.call47 [] [0] rfl rfl rfl (by exact bD _ b _ (by omega) hcp Gl) ?_
 rintro _ _ _ ⟨k13,s13,A13,bd13,sD,n13,tH,c13,hr13,rfl,rfl,rfl⟩
 refine AA 4 ?_;refine GL.step rfl (EH rfl H6) (Aa λKZ=>?_);refine Ar 0 ?_;refine AL 2 ?_;refine AB ?_;refine AP 2 ?_;refine Af ?_ ?_
 ·intro h1;try simp only[D6] at h1
  refine AX ?_;refine AO rfl (ED F6 JF rfl rfl) ?_;refine AA 1 ?_;refine Ar 2 ?_;refine BI 1 ?_;refine Ap ?_;refine GC.ret ?_
  refine λa w h=>DU tK (rs:=[.cell 2 64,.cell 3 68]) (vs:=[_,_]) (is:=[]) (js:=[]) rfl ⟨⟨2,_,_,_,_,rfl,rfl,.inr ⟨[_,_,_,_,_,_,_,_,_,_,_,_,_,_,_,_,_,_,_,_,_,_,_,_,_,_,_,_],rfl,NU,J7,⟨rfl,rfl,rfl,rfl,rfl,rfl,rfl,rfl,rfl,rfl,rfl,rfl,rfl,rfl,rfl,rfl,rfl,rfl,rfl,rfl,rfl,rfl,rfl,rfl,rfl,rfl,rfl,rfl,trivial⟩⟩⟩,⟨1,_,_,_,_,rfl,rfl,.inl ⟨JC,rfl⟩⟩,trivial⟩ rfl rfl ?_ h
  clear h
  rw[TL,if_neg (by assumption)]
  exact⟨rfl,rfl,rfl⟩
 intro h1;try simp only[D6] at h1
 refine GC.skip (?_:GC _ _ _ _)
 refine AB ?_;refine AV 5 ?_;refine Ak 25 ?_ ?_
 ·intro h2;try simp only[D6] at h2
  refine AL 9 ?_;refine AU rfl ?_;refine AX ?_;refine AO rfl (ED F6 JF rfl rfl) ?_;refine Ar 2 ?_;refine BI 1 ?_;refine Ap ?_;refine GC.ret ?_
  refine λa w h=>DU tK (rs:=[.cell 2 64,.cell 3 68]) (vs:=[_,_]) (is:=[]) (js:=[]) rfl ⟨⟨2,_,_,_,_,rfl,rfl,.inr ⟨[_,_,_,_,_,_,_,_,_,_,_,_,_,_,_,_,_,_,_,_,_,_,_,_,_,_,_,_],rfl,NU,J7,⟨rfl,rfl,rfl,rfl,rfl,rfl,rfl,rfl,rfl,rfl,rfl,rfl,rfl,rfl,rfl,rfl,rfl,rfl,rfl,rfl,rfl,rfl,rfl,rfl,rfl,rfl,rfl,rfl,trivial⟩⟩⟩,⟨1,_,_,_,_,rfl,rfl,.inl ⟨JC,rfl⟩⟩,trivial⟩ rfl rfl ?_ h
  clear h
  rw[TL,if_pos (by assumption)]
  exact⟨rfl,rfl,rfl⟩
 intro h2;try simp only[D6] at h2
 refine AA 1 ?_;refine Aj 0 ?_;refine AA 3 ?_;refine Ak 30 ?_ ?_
 ·intro h3;try simp only[D6] at h3
  refine AL 4 ?_;refine AU rfl ?_;refine AX ?_;refine AO rfl (ED F6 JF rfl rfl) ?_;refine Ar 2 ?_;refine BI 1 ?_;refine Ap ?_;refine GC.ret ?_
  refine λa w h=>DU tK (rs:=[.cell 2 64,.cell 3 68]) (vs:=[_,_]) (is:=[]) (js:=[]) rfl ⟨⟨2,_,_,_,_,rfl,rfl,.inr ⟨[_,_,_,_,_,_,_,_,_,_,_,_,_,_,_,_,_,_,_,_,_,_,_,_,_,_,_,_],rfl,NU,J7,⟨rfl,rfl,rfl,rfl,rfl,rfl,rfl,rfl,rfl,rfl,rfl,rfl,rfl,rfl,rfl,rfl,rfl,rfl,rfl,rfl,rfl,rfl,rfl,rfl,rfl,rfl,rfl,rfl,trivial⟩⟩⟩,⟨1,_,_,_,_,rfl,rfl,.inl ⟨JC,rfl⟩⟩,trivial⟩ rfl rfl ?_ h
  clear h
  rw[TL,if_pos (by assumption)]
  exact⟨rfl,rfl,rfl⟩
 intro h3;try simp only[D6] at h3
 refine AA 1 ?_;refine Aj 0 ?_;refine AL 2 ?_;refine Af ?_ ?_
 ·intro h4;try simp only[D6] at h4
  refine AX ?_;refine AO rfl (ED F6 JF rfl rfl) ?_;refine Ar 2 ?_;refine BI 1 ?_;refine Ap ?_;refine GC.ret ?_
  refine λa w h=>DU tK (rs:=[.cell 2 64,.cell 3 68]) (vs:=[_,_]) (is:=[]) (js:=[]) rfl ⟨⟨2,_,_,_,_,rfl,rfl,.inr ⟨[_,_,_,_,_,_,_,_,_,_,_,_,_,_,_,_,_,_,_,_,_,_,_,_,_,_,_,_],rfl,NU,J7,⟨rfl,rfl,rfl,rfl,rfl,rfl,rfl,rfl,rfl,rfl,rfl,rfl,rfl,rfl,rfl,rfl,rfl,rfl,rfl,rfl,rfl,rfl,rfl,rfl,rfl,rfl,rfl,rfl,trivial⟩⟩⟩,⟨1,_,_,_,_,rfl,rfl,.inl ⟨JC,rfl⟩⟩,trivial⟩ rfl rfl ?_ h
  clear h
  rw[TL,if_pos (by assumption)]
  exact⟨rfl,rfl,rfl⟩
 intro h4;try simp only[D6] at h4
 exfalso;obtain⟨f1,f2,f3,f4,_⟩:=hr13 (by omega);exact hbad ⟨by omega,by omega,by omega,by omega⟩
theorem kN(A:Option Addr)(b:List UInt8)(cp:Nat)(hb:b.length<=100000000)(hcp:b.length<=cp)(Gl:cp<=9223372036854775807)(hbad:¬good b):Ct Tryz.prog 56 [.slice A b.length cp] [] [D7.row Kd.u8 A b] (λu G Q=>u=.tuple #[msgZ,.int .i64 (TL b)]/\G=[]/\Q=[]):=by
 refine Ct.intro Tryz.func56 rfl rfl rfl (λc hc=>?_)
 refine AX ?_;refine GL.step rfl (EH rfl F6) (Aa λGm=>?_);refine AL 1 ?_;refine AV 1 ?_;refine Ah Tryz.call82 [] [0] rfl rfl rfl (by exact Xq _ b _ (by omega) hcp Gl) ?_
 rintro _ _ _ ⟨k11,s11,A11,bd11,cu,n11,l11,c11,hr11,rfl,rfl,rfl⟩
 refine AA 4 ?_;refine GL.step rfl (EH rfl H6) (Aa λKZ=>?_);refine Ar 0 ?_;refine AL 2 ?_;refine AB ?_;refine AP 2 ?_;refine Af ?_ ?_
 ·intro h1;try simp only[D6] at h1
  refine AX ?_;refine AO rfl (ED F6 JF rfl rfl) ?_;refine AA 1 ?_;refine Ar 1 ?_;refine AL 1 ?_;refine GC.ret (Fin.c1 2 64 3 1 28 [] [] ?_)
  rw[TL,if_neg (by assumption)]
  exact⟨rfl,rfl,rfl⟩
 intro h1;try simp only[D6] at h1
 refine GC.skip (?_:GC _ _ _ _)
 refine AB ?_;refine AV 5 ?_;refine Ak 23 ?_ ?_
 ·intro h2;try simp only[D6] at h2
  refine AL 9 ?_;refine AU rfl ?_;refine AX ?_;refine AO rfl (ED F6 JF rfl rfl) ?_;refine Ar 1 ?_;refine AL 1 ?_;refine GC.ret (Fin.c1 2 64 3 1 28 [] [] ?_)
  rw[TL,if_pos (by assumption)]
  exact⟨rfl,rfl,rfl⟩
 intro h2;try simp only[D6] at h2
 refine AA 1 ?_;refine Aj 0 ?_;refine AA 3 ?_;refine Ak 28 ?_ ?_
 ·intro h3;try simp only[D6] at h3
  refine AL 4 ?_;refine AU rfl ?_;refine AX ?_;refine AO rfl (ED F6 JF rfl rfl) ?_;refine Ar 1 ?_;refine AL 1 ?_;refine GC.ret (Fin.c1 2 64 3 1 28 [] [] ?_)
  rw[TL,if_pos (by assumption)]
  exact⟨rfl,rfl,rfl⟩
 intro h3;try simp only[D6] at h3
 refine AA 1 ?_;refine Aj 0 ?_;refine AL 2 ?_;refine Af ?_ ?_
 ·intro h4;try simp only[D6] at h4
  refine AX ?_;refine AO rfl (ED F6 JF rfl rfl) ?_;refine Ar 1 ?_;refine AL 1 ?_;refine GC.ret (Fin.c1 2 64 3 1 28 [] [] ?_)
  rw[TL,if_pos (by assumption)]
  exact⟨rfl,rfl,rfl⟩
 intro h4;try simp only[D6] at h4
 exfalso;obtain⟨f1,f2,f3,f4,_⟩:=hr11 (by omega);exact hbad ⟨by omega,by omega,by omega,by omega⟩
abbrev Vb(r:Nat)(P:List (List UInt8))(bs:List Bool)(cs:List Value)(A B:Option Addr)(cp cq:Nat)(CA:Option Addr)(k cc:Nat)(x1 x2:Int):List Own:=[LY r (.slice A P.length cp) (.slice B bs.length cq) CA k cc x1 x2,.row (.slice A P.length cp) 47 1 P.length cs,.row (.slice B bs.length cq) 4 1 bs.length (bs.map Value.bool)]
theorem pK(r:Nat)(A:Option Addr)(n cp:Nat)(BV:Value)(CA:Option Addr)(k cc:Nat)(x1 x2:Int)(i:Int)(keep:Bool)(hi:¬(0<=i/\i<(n:Int))):Ct Tryz.prog 35 [.pointer (some ⟨r,0,none⟩),.int .i64 i,.bool keep] [LY r (.slice A n cp) BV CA k cc x1 x2] [] (λu G Q=>u=.tuple #[msgZ,.int .i64 5]/\G=[LY r (.slice A n cp) BV CA k cc x1 x2]/\Q=[]):=by
 refine Ct.intro Tryz.func35 rfl rfl rfl (λc hc=>?_)
 refine AX ?_;refine GL.step rfl (EH rfl F6) (Aa λKr=>?_);refine AL 1 ?_;refine AB ?_;refine AV 3 ?_;refine Ak 11 ?_ ?_
 ·intro h1;try simp only[D6] at h1
  refine AL 8 ?_;refine AU rfl ?_;refine AX ?_;refine AO rfl (ED F6 JF rfl rfl) ?_;refine Ar 0 ?_;refine AL 1 ?_;refine GC.ret (Fin.c1 6 64 7 0 28 [1] [] ?_)
  exact⟨rfl,rfl,rfl⟩
 intro h1;try simp only[D6] at h1
 refine AA 4 ?_;refine Aj 1 ?_;refine AL 3 ?_;refine Af ?_ ?_
 ·intro h2;try simp only[D6] at h2
  refine AX ?_;refine AO rfl (ED F6 JF rfl rfl) ?_;refine Ar 0 ?_;refine AL 1 ?_;refine GC.ret (Fin.c1 6 64 7 0 28 [1] [] ?_)
  exact⟨rfl,rfl,rfl⟩
 intro h2;try simp only[D6] at h2
 exfalso;omega
theorem rtake_ok(r:Nat)(P:List (List UInt8))(bs:List Bool)(cs:List Value)(A B:Option Addr)(cp cq:Nat)(CA:Option Addr)(k cc:Nat)(x1 x2:Int)(i:Int)(keep:Bool)(m:GZ)(hn:bs.length=P.length)(hP:P.length<=1000000)(hi:0<=i/\i<(P.length:Int))(hF:dM (gt P i) m):Ct Tryz.prog 35 [.pointer (some ⟨r,0,none⟩),.int .i64 i,.bool keep] (Vb r P bs cs A B cp cq CA k cc x1 x2) [A_ Fz P cs]
    (λu G Q=>∃A' cp' B' Uk cs' s,u=.tuple #[Ip m s,.int .i64 0]/\G=Vb r (if keep then P else P.eraseIdx i.toNat) (if keep then bs else bs.eraseIdx i.toNat) cs' A' B' cp' Uk CA k cc x1 x2/\Q=A_ Fz (if keep then P else P.eraseIdx i.toNat) cs'::H9 m s):=by
 have hn0:P.length≠0:=by omega
 refine Ct.intro Tryz.func35 rfl rfl rfl (λc hc=>?_)
 refine AX ?_;refine GL.step rfl (EH rfl F6) (Aa λKr=>?_);refine AL 1 ?_;refine AB ?_;refine AV 3 ?_;refine Ak 11 ?_ ?_
 ·intro h1;try simp only[D6] at h1
  exfalso;omega
 intro h1;try simp only[D6] at h1
 refine AA 4 ?_;refine Aj 1 ?_;refine AL 3 ?_;refine Af ?_ ?_
 ·intro h2;try simp only[D6] at h2
  exfalso;omega
 intro h2;try simp only[D6] at h2
 refine GC.skip (?_:GC _ _ _ _)
 refine AX ?_;refine GL.Ql (i:=2) rfl hn0 (λ_ _=>rfl) (λb_R PE tN tC su sW=>?_)
 subst tN
 refine GL.aU (j:=0) (m:=i) (PE) rfl (by omega) (EW (by omega) (by omega)) (λr_e Rj Ti=>?_)
 rcases r_e with⟨A_e,c_e⟩
 refine AA 3 ?_;refine Ad 1 ?_;refine AA 1 ?_;refine AO rfl (G6 rfl rfl Tryz.underlying81 Ls (by omega) (by omega)) ?_;refine GL.step rfl (Ed rfl (EF (i:=2) rfl rfl G_ (Ti 0 _ rfl))) ?_
 refine AL 1 ?_
 iterate 2 refine AB ?_
 refine CY (j:=1) rfl (λhcl=>?_);refine CW (i:=2) (sz:=1) (m:=P.length) cs PE rfl rfl hcl tC su sW rfl ?_;refine GC.region ?_;refine AA 2 ?_
 refine Ac (?_:GC _ _ _ _)
 refine Af ?_ ?_
 ·intro h3;try simp only[D6] at h3
  refine GC.region ?_;refine AA 2 ?_;refine Ah Tryz.call36 [1,1,1] [1] rfl rfl rfl (by exact Vd r P bs cs _ _ _ _ _ _ _ _ _ i hn hP hi) ?_
  rintro _ _ _ ⟨A5,c5,B5,d5,cs5,rfl,rfl,rfl⟩
  refine Ac (?_:GC _ _ _ _)
  refine AV 1 ?_;refine Ah Tryz.call56 [] [1] rfl rfl rfl (by exact kQ _ (FC m) (gt P i) _ hF.eq hF.len hF.log' Rj.1 Rj.2) ?_
  rintro _ _ _ ⟨m34,s34,k34,hd34,rfl,rfl,rfl⟩
  obtain⟨rfl,rfl⟩:=hF.two hd34
  refine AA 2 ?_;refine Ar 3 ?_;refine AL 1 ?_;refine GC.ret (Fin.c1 6 64 7 3 28 [0,0,0] [8,0,1,2,3,4,5,6,7] ?_)
  subst keep
  exact⟨_,_,_,_,_,_,rfl,rfl,rfl⟩
 intro h3;try simp only[D6] at h3
 refine GC.skip (?_:GC _ _ _ _)
 refine AV 1 ?_;refine Ah Tryz.call56 [] [0] rfl rfl rfl (by exact kQ _ (FC m) (gt P i) _ hF.eq hF.len hF.log' Rj.1 Rj.2) ?_
 rintro _ _ _ ⟨m34,s34,k34,hd34,rfl,rfl,rfl⟩
 obtain⟨rfl,rfl⟩:=hF.two hd34
 refine AA 2 ?_;refine Ar 0 ?_;refine AL 1 ?_;refine GC.ret (Fin.c1 6 64 7 0 28 [1,1,1] [9,0,1,2,3,4,5,6,7] ?_)
 subst keep
 exact⟨_,_,_,_,_,_,rfl,rfl,rfl⟩
theorem rtake_no(r:Nat)(P:List (List UInt8))(bs:List Bool)(cs:List Value)(A B:Option Addr)(cp cq:Nat)(CA:Option Addr)(k cc:Nat)(x1 x2:Int)(i:Int)(keep:Bool)(hn:bs.length=P.length)(hP:P.length<=1000000)(hi:0<=i/\i<(P.length:Int))(hb:(gt P i).length<=100000000)(hbad:¬good (gt P i)):Ct Tryz.prog 35 [.pointer (some ⟨r,0,none⟩),.int .i64 i,.bool keep] (Vb r P bs cs A B cp cq CA k cc x1 x2) [A_ Fz P cs]
    (λu G Q=>∃A' cp' B' Uk cs',u=.tuple #[msgZ,.int .i64 (TL (gt P i))]/\G=Vb r (if keep then P else P.eraseIdx i.toNat) (if keep then bs else bs.eraseIdx i.toNat) cs' A' B' cp' Uk CA k cc x1 x2/\Q=[A_ Fz (if keep then P else P.eraseIdx i.toNat) cs']):=by
 have hn0:P.length≠0:=by omega
 refine Ct.intro Tryz.func35 rfl rfl rfl (λc hc=>?_)
 refine AX ?_;refine GL.step rfl (EH rfl F6) (Aa λKr=>?_);refine AL 1 ?_;refine AB ?_;refine AV 3 ?_;refine Ak 11 ?_ ?_
 ·intro h1;try simp only[D6] at h1
  exfalso;omega
 intro h1;try simp only[D6] at h1
 refine AA 4 ?_;refine Aj 1 ?_;refine AL 3 ?_;refine Af ?_ ?_
 ·intro h2;try simp only[D6] at h2
  exfalso;omega
 intro h2;try simp only[D6] at h2
 refine GC.skip (?_:GC _ _ _ _)
 refine AX ?_;refine GL.Ql (i:=2) rfl hn0 (λ_ _=>rfl) (λb_R PE tN tC su sW=>?_)
 subst tN
 refine GL.aU (j:=0) (m:=i) (PE) rfl (by omega) (EW (by omega) (by omega)) (λr_e Rj Ti=>?_)
 rcases r_e with⟨A_e,c_e⟩
 refine AA 3 ?_;refine Ad 1 ?_;refine AA 1 ?_;refine AO rfl (G6 rfl rfl Tryz.underlying81 Ls (by omega) (by omega)) ?_;refine GL.step rfl (Ed rfl (EF (i:=2) rfl rfl G_ (Ti 0 _ rfl))) ?_
 refine AL 1 ?_
 iterate 2 refine AB ?_
 refine CY (j:=1) rfl (λhcl=>?_);refine CW (i:=2) (sz:=1) (m:=P.length) cs PE rfl rfl hcl tC su sW rfl ?_;refine GC.region ?_;refine AA 2 ?_
 refine Ac (?_:GC _ _ _ _)
 refine Af ?_ ?_
 ·intro h3;try simp only[D6] at h3
  refine GC.region ?_;refine AA 2 ?_;refine Ah Tryz.call36 [1,1,1] [1] rfl rfl rfl (by exact Vd r P bs cs _ _ _ _ _ _ _ _ _ i hn hP hi) ?_
  rintro _ _ _ ⟨A5,c5,B5,d5,cs5,rfl,rfl,rfl⟩
  refine Ac (?_:GC _ _ _ _)
  refine AV 1 ?_;refine Ah Tryz.call56 [] [1] rfl rfl rfl (by exact kN _ (gt P i) _ hb Rj.1 Rj.2 hbad) ?_
  rintro _ _ _ ⟨rfl,rfl,rfl⟩
  refine AA 2 ?_;refine Ar 3 ?_;refine AL 1 ?_;refine GC.ret (Fin.c1 6 64 7 3 28 [0,0,0] [0] ?_)
  subst keep
  exact⟨_,_,_,_,_,rfl,rfl,rfl⟩
 intro h3;try simp only[D6] at h3
 refine GC.skip (?_:GC _ _ _ _)
 refine AV 1 ?_;refine Ah Tryz.call56 [] [0] rfl rfl rfl (by exact kN _ (gt P i) _ hb Rj.1 Rj.2 hbad) ?_
 rintro _ _ _ ⟨rfl,rfl,rfl⟩
 refine AA 2 ?_;refine Ar 0 ?_;refine AL 1 ?_;refine GC.ret (Fin.c1 6 64 7 0 28 [1,1,1] [1] ?_)
 subst keep
 exact⟨_,_,_,_,_,rfl,rfl,rfl⟩
theorem eX(r:Nat)(A:Option Addr)(n cp:Nat)(BV:Value)(CA:Option Addr)(k cc:Nat)(x1 x2:Int)(i at_ mk:Int)(hi:¬(0<=i/\i<(n:Int))):Ct Tryz.prog 37 [.pointer (some ⟨r,0,none⟩),.int .i64 i,.int .i64 at_,.int .u8 mk] [LY r (.slice A n cp) BV CA k cc x1 x2] [] (λu G Q=>u=.int .i64 5/\G=[LY r (.slice A n cp) BV CA k cc x1 x2]/\Q=[]):=by
 refine Ct.intro Tryz.func37 rfl rfl rfl (λc hc=>?_)
 refine AP 1 ?_;refine AB ?_;refine AV 3 ?_;refine Ak 12 ?_ ?_
 ·intro h1;try simp only[D6] at h1
  refine AL 24 ?_;refine AU rfl ?_;refine AP 1 ?_;refine GC.ret (AQ 8 [0] [] ?_)
  exact⟨rfl,rfl,rfl⟩
 intro h1;try simp only[D6] at h1
 refine AA 4 ?_;refine Aj 0 ?_;refine AA 4 ?_;refine Ak 21 ?_ ?_
 ·intro h2;try simp only[D6] at h2
  refine AL 15 ?_;refine AU rfl ?_;refine AP 1 ?_;refine GC.ret (AQ 8 [0] [] ?_)
  exact⟨rfl,rfl,rfl⟩
 intro h2;try simp only[D6] at h2
 exfalso;omega
theorem eY(r:Nat)(P:List (List UInt8))(cs:List Value)(A:Option Addr)(cp:Nat)(BV:Value)(CA:Option Addr)(k cc:Nat)(x1 x2:Int)(i at_ mk:Int)(hi:0<=i/\i<(P.length:Int))(hf:¬(0<=at_/\at_<((gt P i).length:Int))):Ct Tryz.prog 37 [.pointer (some ⟨r,0,none⟩),.int .i64 i,.int .i64 at_,.int .u8 mk] [LY r (.slice A P.length cp) BV CA k cc x1 x2,.row (.slice A P.length cp) 47 1 P.length cs] [A_ Fz P cs] (λu G Q=>u=.int .i64 5/\G=[LY r (.slice A P.length cp) BV CA k cc x1 x2,.row (.slice A P.length cp) 47 1 P.length cs]/\Q=[]):=by
 have hn0:P.length≠0:=by omega
 refine Ct.intro Tryz.func37 rfl rfl rfl (λc hc=>?_)
 refine AP 1 ?_;refine AB ?_;refine AX ?_;refine GL.Ql (i:=1) rfl hn0 (λ_ _=>rfl) (λb_R PE tN tC su sW=>?_)
 subst tN
 refine GL.aU (j:=0) (m:=i) (PE) rfl (by omega) (EW (by omega) (by omega)) (λr_e Rj Ti=>?_)
 rcases r_e with⟨A_e,c_e⟩
 refine AA 3 ?_;refine Ak 12 ?_ ?_
 ·intro h1;try simp only[D6] at h1
  exfalso;omega
 intro h1;try simp only[D6] at h1
 refine AA 4 ?_;refine Aj 0 ?_;refine AA 4 ?_;refine Ak 21 ?_ ?_
 ·intro h2;try simp only[D6] at h2
  exfalso;omega
 intro h2;try simp only[D6] at h2
 refine AA 4 ?_;refine Ak 25 ?_ ?_
 ·intro h3;try simp only[D6] at h3
  refine AL 11 ?_;refine AU rfl ?_;refine AP 1 ?_;refine CY (j:=1) rfl (λhcl=>?_);refine CW (i:=1) (sz:=1) (m:=P.length) cs PE rfl rfl hcl tC su sW rfl ?_;refine GC.ret (AQ 8 [0,0] [] ?_)
  exact⟨rfl,rfl,rfl⟩
 intro h3;try simp only[D6] at h3
 refine AA 4 ?_;refine Aj 0 ?_;refine AA 1 ?_;refine Ba (s:=25) rfl rfl rfl (G6 rfl rfl Tryz.underlying81 Ls (by omega) (by omega)) ?_;refine Au rfl (s:=25) rfl rfl (Ed rfl (EF (i:=1) rfl rfl G_ (Ti 0 _ rfl))) ?_
 refine AL 3 ?_;refine Af ?_ ?_
 ·intro h4;try simp only[D6] at h4
  refine AP 1 ?_;refine CY (j:=1) rfl (λhcl=>?_);refine CW (i:=1) (sz:=1) (m:=P.length) cs PE rfl rfl hcl tC su sW rfl ?_;refine GC.ret (AQ 8 [0,0] [] ?_)
  exact⟨rfl,rfl,rfl⟩
 intro h4;try simp only[D6] at h4
 exfalso;omega
theorem eu(r:Nat)(P:List (List UInt8))(bs:List Bool)(cs:List Value)(A B:Option Addr)(cp cq:Nat)(CA:Option Addr)(k cc:Nat)(x1 x2:Int)(i at_ mk:Int)(hn:bs.length=P.length)(hi:0<=i/\i<(P.length:Int))(hf:0<=at_/\at_<((gt P i).length:Int))(hb:gt bs i=true):Ct Tryz.prog 37 [.pointer (some ⟨r,0,none⟩),.int .i64 i,.int .i64 at_,.int .u8 mk] (Vb r P bs cs A B cp cq CA k cc x1 x2) [A_ Fz P cs] (λu G Q=>∃A' B',u=.int .i64 230/\G=Vb r P bs cs A' B' cp cq CA k cc x1 x2/\Q=[]):=by
 have hn0:P.length≠0:=by omega
 have hn1:bs.length≠0:=by omega
 refine Ct.intro Tryz.func37 rfl rfl rfl (λc hc=>?_)
 refine AP 1 ?_;refine AB ?_;refine AX ?_;refine GL.Ql (i:=1) rfl hn0 (λ_ _=>rfl) (λb_R PE tN tC su sW=>?_)
 subst tN
 refine GL.Ql (i:=2) rfl hn1 (λ_ _=>rfl) (λb_B sp_B f_B n_B o_B q_B=>?_)
 subst f_B
 refine GL.aU (j:=0) (m:=i) (PE) rfl (by omega) (EW (by omega) (by omega)) (λr_e Rj Ti=>?_)
 rcases r_e with⟨A_e,c_e⟩
 refine AA 3 ?_;refine Ak 12 ?_ ?_
 ·intro h1;try simp only[D6] at h1
  exfalso;omega
 intro h1;try simp only[D6] at h1
 refine AA 4 ?_;refine Aj 0 ?_;refine AA 4 ?_;refine Ak 21 ?_ ?_
 ·intro h2;try simp only[D6] at h2
  exfalso;omega
 intro h2;try simp only[D6] at h2
 refine AA 4 ?_;refine Ak 25 ?_ ?_
 ·intro h3;try simp only[D6] at h3
  exfalso;omega
 intro h3;try simp only[D6] at h3
 refine AA 4 ?_;refine Aj 0 ?_;refine AA 1 ?_;refine Ba (s:=25) rfl rfl rfl (G6 rfl rfl Tryz.underlying81 Ls (by omega) (by omega)) ?_;refine Au rfl (s:=25) rfl rfl (Ed rfl (EF (i:=1) rfl rfl G_ (Ti 0 _ rfl))) ?_
 refine AL 3 ?_;refine Af ?_ ?_
 ·intro h4;try simp only[D6] at h4
  exfalso;omega
 intro h4;try simp only[D6] at h4
 refine GC.skip (?_:GC _ _ _ _)
 refine AB ?_;refine AV 3 ?_;refine Ad 0 ?_;refine AA 1 ?_;refine AO rfl (G6 rfl rfl Tryz.underlying82 VK (by omega) (by omega)) ?_;refine GL.step rfl (Ed rfl (EF (i:=2) rfl rfl jM ((Rn _ (by omega) (by omega)).trans (congrArg (λb=>some (Value.bool b)) hb)))) ?_
 refine Ap ?_;refine AU rfl ?_;refine AP 1 ?_;refine CY (j:=1) rfl (λhcl=>?_);refine CW (i:=1) (sz:=1) (m:=P.length) cs PE rfl rfl hcl tC su sW rfl ?_;refine CW (i:=2) (sz:=1) (m:=bs.length) (bs.map Value.bool) sp_B rfl rfl (by simp) n_B o_B q_B rfl ?_
 refine GC.ret (AQ 8 [0,0,0] [] ?_)
 exact⟨_,_,rfl,rfl,rfl⟩
theorem pV(r:Nat)(P:List (List UInt8))(bs:List Bool)(cs:List Value)(A B:Option Addr)(cp cq:Nat)(CA:Option Addr)(k cc:Nat)(x1 x2:Int)(i at_:Int)(mk:UInt8)(hn:bs.length=P.length)(hl:(gt P i).length<=140737488355328)(hi:0<=i/\i<(P.length:Int))(hf:0<=at_/\at_<((gt P i).length:Int))(hb:gt bs i=false):Ct Tryz.prog 37 [.pointer (some ⟨r,0,none⟩),.int .i64 i,.int .i64 at_,.int .u8 (mk.toNat:Int)] (Vb r P bs cs A B cp cq CA k cc x1 x2) [A_ Fz P cs] (λu G Q=>∃A' B' cs',u=.int .i64 0/\G=Vb r (P.set i.toNat ((gt P i).set at_.toNat (gt (gt P i) at_ ^^^ mk))) (bs.set i.toNat true) cs' A' B' cp cq CA k cc x1 x2/\Q=[A_ Fz (P.set i.toNat ((gt P i).set at_.toNat (gt (gt P i) at_ ^^^ mk))) cs']):=by
 have hn0:P.length≠0:=by omega
 have hn1:bs.length≠0:=by omega
 have hn2:(gt P i).length≠0:=by omega
 refine Ct.intro Tryz.func37 rfl rfl rfl (λc hc=>?_)
 refine AP 1 ?_;refine AB ?_;refine AX ?_;refine GL.Ql (i:=1) rfl hn0 (λ_ _=>rfl) (λb_R PE tN tC su sW=>?_)
 subst tN
 refine GL.Ql (i:=2) rfl hn1 (λ_ _=>rfl) (λb_B sp_B f_B n_B o_B q_B=>?_)
 subst f_B
 refine GL.aU (j:=0) (m:=i) (PE) rfl (by omega) (EW (by omega) (by omega)) (λr_e Rj Ti=>?_)
 rcases r_e with⟨A_e,c_e⟩
 refine AA 3 ?_;refine Ak 12 ?_ ?_
 ·intro h1;try simp only[D6] at h1
  exfalso;omega
 intro h1;try simp only[D6] at h1
 refine AA 4 ?_;refine Aj 0 ?_;refine AA 4 ?_;refine Ak 21 ?_ ?_
 ·intro h2;try simp only[D6] at h2
  exfalso;omega
 intro h2;try simp only[D6] at h2
 refine AA 4 ?_;refine Ak 25 ?_ ?_
 ·intro h3;try simp only[D6] at h3
  exfalso;omega
 intro h3;try simp only[D6] at h3
 refine AA 4 ?_;refine Aj 0 ?_;refine AA 1 ?_;refine Ba (s:=25) rfl rfl rfl (G6 rfl rfl Tryz.underlying81 Ls (by omega) (by omega)) ?_;refine Au rfl (s:=25) rfl rfl (Ed rfl (EF (i:=1) rfl rfl G_ (Ti 0 _ rfl))) ?_
 refine AL 3 ?_;refine Af ?_ ?_
 ·intro h4;try simp only[D6] at h4
  exfalso;omega
 intro h4;try simp only[D6] at h4
 refine GC.skip (?_:GC _ _ _ _)
 refine AB ?_;refine AV 3 ?_;refine Ad 0 ?_;refine AA 1 ?_;refine AO rfl (G6 rfl rfl Tryz.underlying82 VK (by omega) (by omega)) ?_;refine GL.step rfl (Ed rfl (EF (i:=2) rfl rfl jM ((Rn _ (by omega) (by omega)).trans (congrArg (λb=>some (Value.bool b)) hb)))) ?_
 refine Ap ?_;refine AY rfl ?_
 refine GC.skip (?_:GC _ _ _ _)
 refine AX ?_;refine GL.step rfl (EC rfl Tryz.underlying47 Fa Jd rfl rfl rfl rfl rfl rfl) (Aa λb_t44=>?_);refine AA 3 ?_;refine Ad 1 ?_;refine AA 1 ?_;refine AO rfl (G6 rfl rfl Tryz.underlying81 Ls (by omega) (by omega)) ?_
 refine GL.step rfl (Ed rfl (EF (i:=2) rfl rfl G_ (Ti 0 _ rfl))) ?_;refine Ci (i:=0) (m:=0) (sz:=1) rfl rfl (by decide) rfl ?_;refine GL.step rfl (Ep (i:=0) (k:=0) rfl Fv rfl rfl rfl rfl (by omega) (λ_=>rfl)) (Aa λv52=>?_)
 refine AL 1 ?_;refine AX ?_;refine GL.rowIs (i:=0) (m':=((gt P i)).length) (cs':=((gt P i)).map JE) rfl (by first|(simp only[List.length_append,List.length_cons,List.length_nil,List.append_assoc];done)|(simp only[List.length_append,List.length_cons,List.length_nil,List.append_assoc];omega)|(simp;done)|(simp;omega)|rfl) (by first|(simp only[List.map_append,List.map_cons,List.map_nil,List.append_assoc];done)|(simp;done)|rfl) rfl ?_
 refine GL.shape (i:=0) rfl (λA_t44 c_t44 e_t44 l_t44 k_t44=>?_)
 subst e_t44
 refine GL.Ql (i:=0) rfl (hn2) (λ_ _=>rfl) (λb_u sp_u e_u n_u l_u k_u=>?_)
 subst e_u
 refine AA 4 ?_;refine AO rfl (G6 rfl rfl Tryz.underlying47 Fa (by omega) (by omega)) ?_;refine GL.step rfl (Ed rfl (EF (i:=0) rfl rfl Oa (Rn _ (by omega) (by omega)))) ?_;refine AA 1 ?_
 refine AO rfl (p_xor8 (a:=gt (gt P i) at_) (b:=mk) rfl rfl) ?_;refine AO rfl (G6 rfl rfl Tryz.underlying47 Fa (by omega) (by omega)) ?_;refine GL.step rfl (Et (i:=0) rfl rfl rfl rfl Fa rfl (VF _ (by omega) (by omega)) rfl) ?_
 refine Ap ?_;refine AB ?_;refine CY (j:=1) rfl (λhcl0=>?_)
 have hcl:cs.length=P.length:=hcl0.trans (Nat.mul_one _)
 refine BF (m:=15) (is:=[0,0]) (js:=[0,1]) Ef rfl rfl rfl ?_;refine AZ 0 [0,0] [0,1] ?_;refine AZ 1 [0,0] [0,1] ?_;refine AZ 2 [0,0] [0,1] ?_;refine BA 3 rfl [0,0] [0,1] (i_mem (EF (i:=1) rfl rfl UQ rfl)) ?_
 refine AZ 4 [0,0] [0,1] ?_;refine AZ 5 [0,0] [0,1] ?_;refine AZ 6 [0,0] [0,1] ?_;refine AZ 7 [0,0] [0,1] ?_;refine BA 8 rfl [0,0] [0,1] (i_mem (EF (i:=1) rfl rfl oD rfl)) ?_;refine AZ 9 [0,0] [0,1] ?_
 refine AZ 10 [0,0] [0,1] ?_;refine BA 11 rfl [0,0] [0,1] (EK (G6 rfl rfl Tryz.underlying81 Ls (by omega) (by omega))) ?_;refine Aw [12] ?_
 refine E8.cons (i:=12) rfl rfl (Et (i:=2) rfl rfl rfl rfl Ls rfl (ZR (by simp;omega)) rfl) (by rintro a w h;exact h.me [0,0] [0,1]) ?_ Ag
 refine BA 13 rfl [0,0] [0,1] (EK (G6 rfl rfl Tryz.underlying82 VK (by omega) (by omega))) ?_;refine Aw [14] ?_
 refine E8.cons (i:=14) rfl rfl (Et (i:=3) rfl rfl rfl rfl VK rfl (VF _ (by omega) (by omega)) rfl) (by rintro a w h;exact h.me [0,0] [0,1]) ?_ Ag
 refine BG (by kernel_rfl) (?_:GC _ _ _ _)
 refine AB ?_;refine CW (i:=0) (sz:=1) (m:=(gt P i).length) (((gt P i).set at_.toNat (gt (gt P i) at_ ^^^ mk)).map JE) sp_u rfl rfl (by simp) (by simpa using n_u) l_u k_u rfl ?_;refine GC.EN (i:=0) rfl ?_
 refine GC.setL (kd:=Fz) (j:=2) (js:=[0]) (m:=i.toNat) ((gt P i).set at_.toNat (gt (gt P i) at_ ^^^ mk)) (some ⟨b_u,0,none⟩,c_t44) rfl (by omega) rfl ⟨by rw[List.length_set];exact l_u,k_u⟩ (congrArg (λn=>[Value.slice (some ⟨b_u,0,none⟩) n c_t44]) List.length_set) ?_
 refine CW (i:=1) (sz:=1) (m:=P.length) (laid cs (i.toNat * 1) [.slice (some ⟨b_u,0,none⟩) (gt P i).length c_t44]) PE rfl rfl (by rw[Gw (by simp;omega)];omega) (by rw[List.length_append,Gw (by simp;omega),<-List.length_append];exact tC) su sW rfl ?_
 refine CW (i:=2) (sz:=1) (m:=bs.length) ((bs.set i.toNat true).map Value.bool) sp_B rfl rfl (by simp) (by simpa using n_B) o_B q_B rfl ?_;refine GC.region ?_;refine AA 1 ?_
 refine Ac (?_:GC _ _ _ _)
 refine GC.ret (AQ 8 [0,0,0] [0] ?_)
 refine⟨some ⟨b_R,0,none⟩,some ⟨b_B,0,none⟩,_,rfl,?_,rfl⟩
 simp only[Vb,LY,List.length_set]
 rfl
structure RY where
 T:List (Int×Int)
 cs:List Value
 A:Option Addr
 B:Option Addr
 CA:Option Addr
 cp:Nat
 cq:Nat
 cc:Nat
abbrev rG(r:Nat)(x:NX)(y:RY):List Own:=Vb r (x.ps.map KF.b) (x.ps.map KF.bad) y.cs y.A y.B y.cp y.cq y.CA y.T.length y.cc x.sent x.lost
abbrev rQ(x:NX)(y:RY):List D7:=[A_ Fz (x.ps.map KF.b) y.cs,D7.row qZ y.CA y.T]
structure PkOk(q:KF):Prop where
 fr:q.bad=false->∃m,dM q.b m/\FT m
 or:(∃m,dM q.b m/\FT m)\/¬good q.b
 len:q.b.length<=16777236
structure NR(x:NX)(y:RY)(k:Nat):Prop where
 len:x.ps.length<=k
 s0:0<=x.sent
 s1:x.sent<=k
 l0:0<=x.lost
 l1:x.lost<=k
 tl:y.T.length<=k
 tt:∀q,q∈y.T↔q∈x.T
 pk:∀q∈x.ps,PkOk q
 nd:x.T.Nodup
theorem NR.same{x:NX}{y:RY}{k:Nat}(h:NR x y k):NR x y (k+1):=⟨by have:=h.len;omega,h.s0,by have:=h.s1;omega,h.l0,by have:=h.l1;omega,by have:=h.tl;omega,h.tt,h.pk,h.nd⟩
theorem rcut_iff{T U:List (Int×Int)}{p:Int×Int}{on:Bool}(h:∀q,q∈T↔q∈U)(hn:U.Nodup)(q:Int×Int):q∈T.filter (λx=>!decide (x=p))++(if on then [p] else [])↔q∈(if on then O9 U p else U.erase p):=by
 rw[List.mem_append,List.mem_filter,h q]
 cases on
 ·simp[hn.mem_erase_iff,and_comm]
 ·unfold O9
  by_cases hp:p∈U
  ·simp only[hp,if_true]
   by_cases e:q=p
   ·subst e;simp[hp]
   ·simp[e]
  ·simp only[hp,if_true,if_false]
   by_cases e:q=p
   ·subst e;simp
   ·simp[e]
theorem cut_nd{U:List (Int×Int)}{p:Int×Int}{on:Bool}(hn:U.Nodup):(if on then O9 U p else U.erase p).Nodup:=by
 cases on
 ·simpa using hn.erase p
 ·unfold O9
  by_cases hp:p∈U
  ·simpa[hp] using hn
  ·simp only[hp,if_true,if_false]
   rw[List.nodup_append]
   exact⟨hn,by simp,λa ha b hb e=>by rw[List.mem_singleton.1 hb] at e;subst e;exact hp ha⟩
theorem Y1{α β:Type}[Inhabited α][Inhabited β](f:α->β){l:List α}{i:Int}(h0:0<=i)(h1:i<(l.length:Int)):gt (l.map f) i=f (gt l i):=by
 unfold gt
 have:i.toNat<l.length:=by omega
 simp[List.getD_eq_getElem?_getD,this]
theorem WO{α:Type}[Inhabited α]{l:List α}{i:Int}(h0:0<=i)(h1:i<(l.length:Int)):gt l i∈l:=List.mem_of_getElem? (EW h0 h1)
end Go.Proofs.YtliacpkblicnhaaGreat
namespace Go.Proofs.YtliacpkblicnhaaGreat
open Go Go.Sx Go.Proofs
section
variable (r:Nat)(x:NX)(y:RY)(k:Nat)
theorem xis_ct(i j:Int)(h:NR x y k)(hk:k<=100000):Ct Tryz.prog 39 [.pointer (some ⟨r,0,none⟩),.int .i64 i,.int .i64 j] (rG r x y) (rQ x y) (λv G Q=>v=.bool (decide ((i,j)∈x.T))/\G=rG r x y/\Q=[]):=by
 refine CJ (Q:=[D7.row qZ y.CA y.T]) (λq hq=>List.mem_cons_of_mem _ hq) (Ct.mono (Ct.frame (fC r _ _ y.CA y.T y.cc x.sent x.lost i j (by have:=h.tl;omega)) _) ?_)
 rintro v G Q ⟨H,⟨rfl,rfl,rfl⟩,rfl⟩
 exact⟨by simp only[h.tt],rfl,rfl⟩
abbrev RefS(r:Nat)(u:Value)(x:NX)(k:Nat)(v:Value)(G:List Own)(Q:List D7):Prop:=∃y,NR x y k/\v=u/\G=rG r x y/\Q=rQ x y
theorem xcut_ct(i j:Int)(on:Bool)(h:NR x y k)(hk:k<=100000):Ct Tryz.prog 38 [.pointer (some ⟨r,0,none⟩),.int .i64 i,.int .i64 j,.bool on] (rG r x y) (rQ x y) (RefS r (.int .i64 (cutE i j)) (x.cutF i j on) (k+1)):=by
 unfold cutE NX.cutF
 by_cases hc:(0<=i/\i<64)/\0<=j/\j<64
 ·rw[if_pos hc,if_pos hc]
  refine CO (CP (CJ (Q:=[D7.row qZ y.CA y.T]) (λq hq=>List.mem_cons_of_mem _ hq) (Ct.frame (rcut_ct r _ _ y.CA y.T y.cc x.sent x.lost i j on (by have:=h.tl;omega) hc.1 hc.2) _))) ?_
  rintro v G Q ⟨Q'',⟨H,⟨CA,cc,rfl,rfl,rfl⟩,rfl⟩,rfl⟩
  refine⟨_,⟨⟨Xp y.T i j on,y.cs,y.A,y.B,CA,y.cp,y.cq,cc⟩,⟨h.same.len,h.same.s0,h.same.s1,h.same.l0,h.same.l1,?_,λq=>rcut_iff h.tt h.nd q,h.pk,cut_nd h.nd⟩,rfl,rfl,rfl⟩,λq hq=>?_⟩
  ·have:=h.tl
   have:=List.length_filter_le (λx=>!decide (x=(i,j))) y.T
   simp only[Xp,List.length_append]
   split<;>simp<;>omega
  ·simp only[List.mem_cons,List.not_mem_nil,or_false] at hq
   rcases hq with rfl|rfl<;>simp[NX.cut]
 ·rw[if_neg hc,if_neg hc]
  refine CO (CP (CJ (Q:=[]) (λq hq=>by cases hq) (Ct.frame (rcutx_ct r _ _ y.CA y.T y.cc x.sent x.lost i j on hc) _))) ?_
  rintro v G Q ⟨Q'',⟨H,⟨rfl,rfl,rfl⟩,rfl⟩,rfl⟩
  exact⟨_,⟨y,h.same,rfl,rfl,rfl⟩,λq hq=>by simpa using hq⟩
end
end Go.Proofs.YtliacpkblicnhaaGreat
namespace Go.Proofs.YtliacpkblicnhaaGreat
open Go Go.Sx Go.Proofs
theorem fJ(r:Nat)(x:NX)(y:RY):rG r x y=[LY r (.slice y.A x.ps.length y.cp) (.slice y.B x.ps.length y.cq) y.CA y.T.length y.cc x.sent x.lost,.row (.slice y.A x.ps.length y.cp) 47 1 x.ps.length y.cs,.row (.slice y.B x.ps.length y.cq) 4 1 x.ps.length ((x.ps.map KF.bad).map Value.bool)]:=by
 simp only[rG,Vb,List.length_map]
theorem fr_len{b:List UInt8}{m:GZ}(h:dM b m):b.length<=16777236:=by rw[h.eq,LJ];have:=h.len;omega
theorem nC{b:List UInt8}{m:GZ}(h:dM b m):good b:=by
 obtain⟨g1,g2,g3,g4,_⟩:=TG h.eq h.len
 exact⟨g2,by rw[g1,h.eq,LJ],g3,g4⟩
theorem bad_good{b:List UInt8}(h:rdBad b):¬good b:=fun⟨g1,g2,_⟩=>by
 rcases h with h|h
 ·exact h g1
 ·omega
theorem fr_one{b:List UInt8}{m n:GZ}(h:dM b m)(g:dM b n):m=n:=by
 have e:FC m=FC n:=by
  obtain⟨h1,_,_,_,h2⟩:=TG h.eq h.len
  obtain⟨g1,_,_,_,g2⟩:=TG g.eq g.len
  rw[<-h2,<-h1,g1,g2]
 have a:=Sz h.ok h.non h.log h.len
 have c:=Sz g.ok g.non g.log g.len
 rw[e,c] at a
 exact(Option.some.inj a).symm
theorem NR.sendNo{x:NX}{y:RY}{k:Nat}{m:GZ}(h:NR x y k)(he:¬(FW m).1=0):NR (x.send m) y (k+1):=by rw[YK he];exact h.same
theorem NR.lost{x:NX}{y:RY}{k:Nat}(h:NR x y k):NR { x with sent:=x.sent+1,lost:=x.lost+1 } y (k+1):=by
 have g2:=h.s0;have g3:=h.s1;have g4:=h.l0;have g5:=h.l1
 exact⟨h.same.len,by show 0<=x.sent+1;omega,by show x.sent+1<=_;omega,by show 0<=x.lost+1;omega,by show x.lost+1<=_;omega,h.same.tl,h.tt,h.pk,h.nd⟩
theorem NR.put{x:NX}{y z:RY}{k:Nat}{m:GZ}(h:NR x y k)(he:(FW m).1=0)(hm:FT m)(hn:0<=m.Ez/\m.Ez<18446744073709551616)(G8:m.log.length<100000)(hz:z.T=y.T):NR { x with ps:=x.ps++[⟨(FW m).2,false⟩],sent:=x.sent+1 } z (k+1):=by
 obtain⟨hok,hL,hF⟩:=rH he
 have g1:=h.len;have g2:=h.s0;have g3:=h.s1;have g4:=h.l0;have g5:=h.l1
 refine⟨by simp;omega,by show 0<=x.sent+1;omega,by show x.sent+1<=_;omega,g4,by show x.lost<=_;omega,by rw[hz];exact h.same.tl,by rw[hz];exact h.tt,λq hq=>?_,h.nd⟩
 rcases List.mem_append.1 hq with hq|hq
 ·exact h.pk q hq
 ·rw[List.mem_singleton.1 hq]
  have hf:dM (FW m).2 m:=⟨hok,hn,G8,hL,hF⟩
  exact⟨λ_=>⟨m,hf,hm⟩,.inl ⟨m,hf,hm⟩,fr_len hf⟩
theorem NR.drop{x:NX}{y z:RY}{k:Nat}(h:NR x y k)(i:Int)(hz:z.T=y.T):NR (x.drop i) z (k+1):=by
 obtain⟨g1,g2,g3⟩:=rJ x i
 have hs:=h.same
 have e:(x.drop i).T=x.T:=by unfold NX.drop;split<;>rfl
 have l:(x.drop i).ps.length<=x.ps.length:=by
  unfold NX.drop;split
  ·exact(List.length_eraseIdx_le ..)
  ·exact Nat.le_refl _
 exact⟨by have:=h.len;omega,by rw[g2];exact hs.s0,by rw[g2];exact hs.s1,by rw[g3];exact hs.l0,by rw[g3];exact hs.l1,by rw[hz];exact hs.tl,by rw[hz,e];exact h.tt,λq hq=>h.pk q (g1 q hq),by rw[e];exact h.nd⟩
end Go.Proofs.YtliacpkblicnhaaGreat
namespace Go.Proofs.YtliacpkblicnhaaGreat
open Go Go.Sx Go.Proofs
section
variable (r:Nat)(x:NX)(y:RY)(k:Nat)
theorem xsend_ct(m:GZ)(s:Lie)(h:NR x y k)(hk:k<=1000)(hm:FT m)(hn:0<=m.Ez/\m.Ez<18446744073709551616)(G8:m.log.length<100000):Ct Tryz.prog 34 [.pointer (some ⟨r,0,none⟩),Ip m s] (rG r x y) (rQ x y++H9 m s) (RefS r (.int .i64 (FW m).1) (x.send m) (k+1)):=by
 have g1:=h.len;have g2:=h.s0;have g3:=h.s1;have g4:=h.l0;have g5:=h.l1;have g6:=h.tl
 by_cases hE:(FW m).1=0
 ·rw[fJ,hE]
  by_cases hx:(m.src,m.dst)∈x.T\/4096<=x.ps.length
  ·refine CO (CP (CJ (Q:=D7.row qZ y.CA y.T::H9 m s) (λq hq=>List.mem_cons_of_mem _ hq) (Ct.frame (fA r y.CA y.T y.cc x.sent x.lost m s hm hn G8 y.A x.ps.length y.cp _ hE (by omega) (by omega) (by omega) (hx.imp (h.tt _).2 id)) _))) ?_
   rintro v G Q ⟨Q'',⟨H,⟨rfl,rfl,rfl⟩,rfl⟩,rfl⟩
   have e:x.send m={ x with sent:=x.sent+1,lost:=x.lost+1 }:=by rw[NX.send,if_pos hE,if_pos hx]
   rw[e]
   exact⟨rQ x y,⟨y,h.lost,rfl,by rw[fJ];rfl,rfl⟩,λq hq=>by simp only[List.mem_cons,List.not_mem_nil,or_false] at hq;rcases hq with rfl|rfl<;>simp⟩
  ·refine CO (CP (pW r y.CA y.T y.cc x.sent x.lost m s hm hn G8 (x.ps.map KF.b) (x.ps.map KF.bad) y.cs y.A y.B x.ps.length y.cp y.cq hE (by omega) (by omega) (λh'=>hx (.inl ((h.tt _).1 h'))) (by omega))) ?_
   rintro v G Q ⟨Q'',⟨A',cp',B',Uk,cs',rfl,rfl,rfl⟩,rfl⟩
   have e:x.send m={ x with ps:=x.ps++[⟨(FW m).2,false⟩],sent:=x.sent+1 }:=by rw[NX.send,if_pos hE,if_neg hx]
   rw[e]
   refine⟨rQ _ ⟨y.T,cs',A',B',y.CA,cp',Uk,y.cc⟩,⟨⟨y.T,cs',A',B',y.CA,cp',Uk,y.cc⟩,h.put hE hm hn G8 rfl,rfl,?_,rfl⟩,λq hq=>?_⟩
   ·rw[fJ];simp
   ·simp only[List.mem_cons,List.not_mem_nil,or_false] at hq
    rcases hq with rfl|rfl<;>simp
 ·refine CO (CP (CJ (Q:=H9 m s) (λq hq=>List.mem_append_right _ hq) (Ct.frame (rsend_no r y.CA y.T.length y.cc x.sent x.lost m s hm hn G8 _ _ hE) _))) ?_
  rintro v G Q ⟨Q'',⟨H,⟨rfl,rfl,rfl⟩,rfl⟩,rfl⟩
  refine⟨rQ x y,⟨y,h.sendNo hE,rfl,by rw[YK hE];rfl,by rw[YK hE]⟩,λq hq=>by simp only[List.mem_cons,List.not_mem_nil,or_false] at hq;rcases hq with rfl|rfl<;>simp⟩
theorem xdrop_ct(i:Int)(h:NR x y k)(hk:k<=1000):Ct Tryz.prog 36 [.pointer (some ⟨r,0,none⟩),.int .i64 i] (rG r x y) (rQ x y) (RefS r (.int .i64 (x.at i)) (x.drop i) (k+1)):=by
 have g1:=h.len
 by_cases hi:0<=i/\i<(x.ps.length:Int)
 ·refine CO (CP (CJ (Q:=[A_ Fz (x.ps.map KF.b) y.cs]) (λq hq=>by simp only[List.mem_singleton] at hq;simp[hq]) (Vd r (x.ps.map KF.b) (x.ps.map KF.bad) y.cs y.A y.B y.cp y.cq y.CA y.T.length y.cc x.sent x.lost i (by simp) (by rw[List.length_map];omega) (by rw[List.length_map];exact hi)))) ?_
  rintro v G Q ⟨Q'',⟨A',cp',B',Uk,cs',rfl,rfl,rfl⟩,rfl⟩
  have e:x.drop i={ x with ps:=x.ps.eraseIdx i.toNat }:=by rw[NX.drop,if_pos hi]
  have e1:(x.ps.map KF.b).eraseIdx i.toNat=(x.ps.eraseIdx i.toNat).map KF.b:=by simp[List.eraseIdx_eq_take_drop_succ,List.map_take,List.map_drop]
  have e2:(x.ps.map KF.bad).eraseIdx i.toNat=(x.ps.eraseIdx i.toNat).map KF.bad:=by simp[List.eraseIdx_eq_take_drop_succ,List.map_take,List.map_drop]
  rw[e1,e2]
  refine⟨rQ (x.drop i) ⟨y.T,cs',A',B',y.CA,cp',Uk,y.cc⟩,⟨⟨y.T,cs',A',B',y.CA,cp',Uk,y.cc⟩,h.drop i rfl,by rw[NX.at,if_pos hi],by rw[e],rfl⟩,λq hq=>?_⟩
  rw[e] at hq
  simp only[List.mem_cons,List.not_mem_nil,or_false] at hq
  rcases hq with rfl|rfl<;>simp
 ·refine CO (CP (CJ (Q:=[]) (λq hq=>by cases hq) (Ct.frame (qC r y.A _ y.cp _ y.CA y.T.length y.cc x.sent x.lost i (by rw[List.length_map];exact hi)) _))) ?_
  rintro v G Q ⟨Q'',⟨H,⟨rfl,rfl,rfl⟩,rfl⟩,rfl⟩
  have e:x.drop i=x:=by rw[NX.drop,if_neg hi]
  exact⟨rQ x y,⟨y,h.drop i rfl,by rw[NX.at,if_neg hi],by rw[e];rfl,by rw[e]⟩,λq hq=>by simpa using hq⟩
end
end Go.Proofs.YtliacpkblicnhaaGreat
namespace Go.Proofs.YtliacpkblicnhaaGreat
open Go Go.Sx Go.Proofs
theorem xor0(b:UInt8):b ^^^ 0=b:=by simp
theorem set_gt(b:List UInt8)(k:Nat):b.set k (gt b (k:Int))=b:=by
 apply List.ext_getElem?
 intro i
 rw[List.getElem?_set]
 split
 ·rename_i e
  subst e
  split
  ·rename_i hk
   unfold gt
   simp[List.getD_eq_getElem?_getD,hk]
  ·rw[List.getElem?_eq_none (by omega)]
 ·rfl
theorem spoil_ok{b:List UInt8}{m:GZ}{k:Nat}{mk:UInt8}(h:dM b m)(hm:FT m)(hk:k<b.length):PkOk ⟨b.set k (gt b (k:Int) ^^^ mk),true⟩:=by
 refine⟨λe=>(by cases e),?_,by show(b.set _ _).length<=_;rw[List.length_set];exact fr_len h⟩
 by_cases e:mk=0
 ·subst e
  rw[xor0,set_gt]
  exact .inl ⟨m,h,hm⟩
 ·exact .inr (bad_good (dz_turn h.eq h.len hk e))
theorem NR.Ib{x:NX}{y z:RY}{k:Nat}(h:NR x y k)(i at_:Int)(mk:UInt8)(hz:z.T=y.T):NR (x.Ib i at_ mk).2 z (k+1):=by
 have hs:=h.same
 unfold NX.Ib
 split
 ·rename_i hc
  split
  ·exact⟨hs.len,hs.s0,hs.s1,hs.l0,hs.l1,by rw[hz];exact hs.tl,by rw[hz];exact h.tt,h.pk,h.nd⟩
  ·rename_i hb
   refine⟨by rw[List.length_set];exact hs.len,hs.s0,hs.s1,hs.l0,hs.l1,by rw[hz];exact hs.tl,by rw[hz];exact h.tt,λq hq=>?_,h.nd⟩
   have hp:=h.pk _ (WO hc.1 hc.2.1)
   rcases List.mem_or_eq_of_mem_set hq with hq|rfl
   ·exact h.pk q hq
   ·obtain⟨m,hf,hm⟩:=hp.fr (by simpa using hb)
    obtain⟨n,rfl⟩:=Int.eq_ofNat_of_zero_le hc.2.2.1
    exact spoil_ok (k:=n) hf hm (by omega)
 ·exact⟨hs.len,hs.s0,hs.s1,hs.l0,hs.l1,by rw[hz];exact hs.tl,by rw[hz];exact h.tt,h.pk,h.nd⟩
def dJ(x:NX)(i:Int)(m:GZ)(e:Int):Prop:=(¬(0<=i/\i<(x.ps.length:Int))/\m=UW/\e=5)\/((0<=i/\i<(x.ps.length:Int))/\dM (gt x.ps i).b m/\e=0)\/((0<=i/\i<(x.ps.length:Int))/\¬good (gt x.ps i).b/\m=UW/\e=TL (gt x.ps i).b)
theorem dJ.one{x:NX}{i:Int}{m n:GZ}{e f:Int}(h:dJ x i m e)(g:dJ x i n f):m=n/\e=f:=by
 rcases h with⟨h1,rfl,rfl⟩|⟨h1,h2,rfl⟩|⟨h1,h2,rfl,rfl⟩<;>rcases g with⟨g1,rfl,rfl⟩|⟨g1,g2,rfl⟩|⟨g1,g2,rfl,rfl⟩
 ·exact⟨rfl,rfl⟩
 ·exact absurd g1 h1
 ·exact absurd g1 h1
 ·exact absurd h1 g1
 ·exact⟨fr_one h2 g2,rfl⟩
 ·exact absurd (nC h2) g2
 ·exact absurd h1 g1
 ·exact absurd (nC g2) h2
 ·exact⟨rfl,rfl⟩
theorem jf:FT UW:=⟨by decide,by decide,by decide,by decide,⟨by decide,by decide,by decide,by simp[UW,PI],by simp[UW,PI]⟩,by decide,by simp[UW]⟩
theorem NR.take{x:NX}{y z:RY}{k:Nat}(h:NR x y k)(i:Int)(keep:Bool)(hz:z.T=y.T):NR (x.take i keep) z (k+1):=by
 unfold NX.take
 split
 ·have hs:=h.same
  exact⟨hs.len,hs.s0,hs.s1,hs.l0,hs.l1,by rw[hz];exact hs.tl,by rw[hz];exact h.tt,h.pk,h.nd⟩
 ·exact h.drop i hz
abbrev ZN:Lie:=⟨none,0,none,0,none,0,none,0,none,0,none,0,none,0,none,0⟩
end Go.Proofs.YtliacpkblicnhaaGreat
namespace Go.Proofs.YtliacpkblicnhaaGreat
open Go Go.Sx Go.Proofs
section
variable (r p:Nat)(K:List Nat)(x:NX)(y:RY)(k:Nat)
theorem ntake_no(i:Int)(keep:Bool)(hi:0<=i/\i<(x.ps.length:Int))(hb:(gt x.ps i).b.length<=100000000)(hbad:¬good (gt x.ps i).b):Ct Tryz.prog 11 [.pointer (some ⟨p,0,none⟩),.int .i64 i,.bool keep] [JK p K x] [] (λu G Q=>∃K,u=.tuple #[msgZ,.int .i64 (TL (gt x.ps i).b)]/\G=[JK p K (x.take i keep)]/\Q=[]):=by
 refine Ct.intro Tryz.func11 rfl rfl rfl (λc hc=>?_)
 refine AX ?_;refine GL.step rfl (EH rfl F6) (Aa λKr=>?_);refine AL 1 ?_;refine AV 2 ?_;refine Ah Tryz.call18 [1] [] rfl rfl rfl (by exact TR _ _ _ _ hi (by omega)) ?_
 rintro _ _ _ ⟨K13,A13,sD,tH,k13,rfl,rfl,rfl⟩
 refine AL 5 ?_;refine AB ?_;refine AP 2 ?_;refine AY rfl ?_
 refine GC.skip (?_:GC _ _ _ _)
 refine AB ?_;refine AP 2 ?_;refine Af ?_ ?_
 ·intro h1;try simp only[D6] at h1
  refine GC.region ?_;refine AA 2 ?_;refine Ah Tryz.call13 [0] [] rfl rfl rfl (by exact V3 _ _ _ _) ?_
  rintro _ _ _ ⟨K24,rfl,rfl,rfl⟩
  refine Ac (?_:GC _ _ _ _)
  refine AX ?_;refine GL.EN (i:=1) rfl ?_;refine AA 1 ?_;refine Ah Tryz.call24 [] [0] rfl rfl rfl (by exact jq _ (gt x.ps i).b _ hb tH k13 hbad) ?_
  rintro _ _ _ ⟨rfl,rfl,rfl⟩
  refine AA 2 ?_;refine Ar 1 ?_;refine AL 1 ?_;refine GC.ret (Fin.c1 6 64 7 1 28 [0] [] ?_)
  exact⟨_,rfl,by subst keep;rfl,rfl⟩
 intro h1;try simp only[D6] at h1
 refine GC.skip (?_:GC _ _ _ _)
 refine AX ?_;refine GL.EN (i:=1) rfl ?_;refine AA 1 ?_;refine Ah Tryz.call24 [] [0] rfl rfl rfl (by exact jq _ (gt x.ps i).b _ hb tH k13 hbad) ?_
 rintro _ _ _ ⟨rfl,rfl,rfl⟩
 refine AA 2 ?_;refine Ar 1 ?_;refine AL 1 ?_;refine GC.ret (Fin.c1 6 64 7 1 28 [0] [] ?_)
 exact⟨_,rfl,by subst keep;rfl,rfl⟩
theorem zrows{q:D7}(h:q∈H9 UW ZN):∀w S,q.h w S:=by
 intro w S
 simp only[List.mem_cons,List.not_mem_nil,or_false] at h
 rcases h with rfl|rfl|rfl|rfl|rfl|rfl|rfl|rfl<;>exact .inl rfl
theorem Ct.know{P:Program}{f:FuncId}{args:List Value}{G:List Own}{Q QN:List D7}{R:Value->List Own->List D7->Prop}(h:Ct P f args G Q R)(hq:∀q∈QN,∀w S,q.h w S):Ct P f args G Q (λv G' Q'=>∃Q'',R v G' Q''/\Q'=QN++Q''):=λw S hp=>by
 refine(h w S hp).mono ?_
 rintro e w' ⟨v,G',Q',S',he,hR,hp',hfr,hS,hkk⟩
 exact⟨v,G',QN++Q',S',he,⟨Q',hR,rfl⟩,⟨hp'.own,hp'.Oj,hp'.out,λq hm=>(List.mem_append.1 hm).elim (λh=>hq q h _ _) (hp'.per q)⟩,hfr,hS,hkk⟩
theorem qM(i:Int)(keep:Bool)(h:NR x y k):Ct Tryz.prog 11 [.pointer (some ⟨p,0,none⟩),.int .i64 i,.bool keep] [JK p K x] [] (λu G Q=>∃(K:List Nat) (m:GZ) (s:Lie) (e:Int),dJ x i m e/\FT m/\u=.tuple #[Ip m s,.int .i64 e]/\G=[JK p K (x.take i keep)]/\Q=H9 m s):=by
 by_cases hi:0<=i/\i<(x.ps.length:Int)
 ·have hp:=h.pk _ (WO hi.1 hi.2)
  rcases hp.or with⟨m,hf,hm⟩|hb
  ·refine Ct.mono (aG p K x i keep m hi hf) λu G Q ⟨K,s,h1,h2,h3⟩=>?_
   exact⟨K,m,s,0,.inr (.inl ⟨hi,hf,rfl⟩),hm,h1,h2,h3⟩
  ·refine Ct.mono (Ct.know (QN:=H9 UW ZN) (ntake_no p K x i keep hi (by have:=hp.len;omega) hb) λq hq=>zrows hq) ?_
   rintro u G Q ⟨Q'',⟨K,h1,h2,rfl⟩,rfl⟩
   exact⟨K,UW,ZN,_,.inr (.inr ⟨hi,hb,rfl,rfl⟩),jf,h1,h2,by rw[List.append_nil]⟩
 ·refine Ct.mono (qL p K x i keep hi) λu G Q ⟨K,h1,h2,h3⟩=>?_
  have e:x.take i keep=x:=by unfold NX.take NX.drop;split<;>simp[hi]
  exact⟨K,UW,_,5,.inl ⟨hi,rfl,rfl⟩,jf,h1,by rw[e];exact h2,h3⟩
theorem xtake_ct(i:Int)(keep:Bool)(h:NR x y k)(hk:k<=1000):Ct Tryz.prog 35 [.pointer (some ⟨r,0,none⟩),.int .i64 i,.bool keep] (rG r x y) (rQ x y) (λu G Q=>∃(z:RY) (m:GZ) (s:Lie) (e:Int),dJ x i m e/\FT m/\NR (x.take i keep) z (k+1)/\u=.tuple #[Ip m s,.int .i64 e]/\G=rG r (x.take i keep) z/\Q=rQ (x.take i keep) z++H9 m s):=by
 have g1:=h.len
 by_cases hi:0<=i/\i<(x.ps.length:Int)
 ·have hp:=h.pk _ (WO hi.1 hi.2)
  have eg:gt (x.ps.map KF.b) i=(gt x.ps i).b:=Y1 KF.b hi.1 hi.2
  have e1:(if keep then x.ps.map KF.b else (x.ps.map KF.b).eraseIdx i.toNat)=(x.take i keep).ps.map KF.b:=by
   unfold NX.take NX.drop
   split
   ·rfl
   ·simp[hi,List.eraseIdx_eq_take_drop_succ,List.map_take,List.map_drop]
  have e2:(if keep then x.ps.map KF.bad else (x.ps.map KF.bad).eraseIdx i.toNat)=(x.take i keep).ps.map KF.bad:=by
   unfold NX.take NX.drop
   split
   ·rfl
   ·simp[hi,List.eraseIdx_eq_take_drop_succ,List.map_take,List.map_drop]
  have e3:(x.take i keep).sent=x.sent/\(x.take i keep).lost=x.lost:=by
   unfold NX.take NX.drop
   repeat' split
   all_goals exact⟨rfl,rfl⟩
  rcases hp.or with⟨m,hf,hm⟩|hb
  ·refine CO (CP (CJ (Q:=[A_ Fz (x.ps.map KF.b) y.cs]) (λq hq=>by simp only[List.mem_singleton] at hq;simp[hq]) (rtake_ok r (x.ps.map KF.b) (x.ps.map KF.bad) y.cs y.A y.B y.cp y.cq y.CA y.T.length y.cc x.sent x.lost i keep m (by simp) (by rw[List.length_map];omega) (by rw[List.length_map];exact hi) (by rw[eg];exact hf)))) ?_
   rintro u G Q ⟨Q'',⟨A',cp',B',Uk,cs',s,rfl,rfl,rfl⟩,rfl⟩
   rw[e1,e2]
   refine⟨_,⟨⟨y.T,cs',A',B',y.CA,cp',Uk,y.cc⟩,m,s,0,.inr (.inl ⟨hi,hf,rfl⟩),hm,h.take i keep rfl,rfl,by simp only[rG,e3.1,e3.2],rfl⟩,λq hq=>?_⟩
   simp only[List.mem_append,List.mem_cons,List.not_mem_nil,or_false] at hq ⊢
   rcases hq with(rfl|rfl)|hq
   ·simp
   ·simp
   ·simp[hq]
  ·refine CO (Ct.know (QN:=H9 UW ZN) (CP (CJ (Q:=[A_ Fz (x.ps.map KF.b) y.cs]) (λq hq=>by simp only[List.mem_singleton] at hq;simp[hq]) (rtake_no r (x.ps.map KF.b) (x.ps.map KF.bad) y.cs y.A y.B y.cp y.cq y.CA y.T.length y.cc x.sent x.lost i keep (by simp) (by rw[List.length_map];omega) (by rw[List.length_map];exact hi) (by rw[eg];have:=hp.len;omega) (by rw[eg];exact hb)))) λq hq=>zrows hq) ?_
   rintro u G Q ⟨Q3,⟨Q'',⟨A',cp',B',Uk,cs',rfl,rfl,rfl⟩,rfl⟩,rfl⟩
   rw[e1,e2,eg]
   refine⟨_,⟨⟨y.T,cs',A',B',y.CA,cp',Uk,y.cc⟩,UW,ZN,_,.inr (.inr ⟨hi,hb,rfl,rfl⟩),jf,h.take i keep rfl,rfl,by simp only[rG,e3.1,e3.2],rfl⟩,λq hq=>?_⟩
   simp only[List.mem_append,List.mem_cons,List.not_mem_nil,or_false] at hq ⊢
   rcases hq with(rfl|rfl)|hq
   ·simp
   ·simp
   ·simp[hq]
 ·refine CO (Ct.know (QN:=H9 UW ZN) (CP (CJ (Q:=[]) (λq hq=>by cases hq) (Ct.frame (pK r y.A _ y.cp _ y.CA y.T.length y.cc x.sent x.lost i keep (by rw[List.length_map];exact hi)) _))) λq hq=>zrows hq) ?_
  rintro u G Q ⟨Q3,⟨Q'',⟨H,⟨rfl,rfl,rfl⟩,rfl⟩,rfl⟩,rfl⟩
  have e:x.take i keep=x:=by unfold NX.take NX.drop;split<;>simp[hi]
  rw[e]
  refine⟨rQ x y++H9 UW ZN,⟨y,UW,ZN,5,.inl ⟨hi,rfl,rfl⟩,jf,h.same,rfl,rfl,rfl⟩,λq hq=>?_⟩
  simp only[List.mem_append,List.mem_cons,List.not_mem_nil,or_false] at hq ⊢
  rcases hq with(rfl|rfl)|hq
  ·simp
  ·simp
  ·simp[hq]
theorem oM(i at_:Int)(mk:UInt8)(h:NR x y k):Ct Tryz.prog 37 [.pointer (some ⟨r,0,none⟩),.int .i64 i,.int .i64 at_,.int .u8 (mk.toNat:Int)] (rG r x y) (rQ x y) (RefS r (.int .i64 (x.Ib i at_ mk).1) (x.Ib i at_ mk).2 (k+1)):=by
 have g1:=h.len
 have hs:=h.Ib i at_ mk (z:=y) rfl
 by_cases hi:0<=i/\i<(x.ps.length:Int)
 ·have hp:=h.pk _ (WO hi.1 hi.2)
  have eg:gt (x.ps.map KF.b) i=(gt x.ps i).b:=Y1 KF.b hi.1 hi.2
  have eb:gt (x.ps.map KF.bad) i=(gt x.ps i).bad:=Y1 KF.bad hi.1 hi.2
  by_cases hf:0<=at_/\at_<((gt x.ps i).b.length:Int)
  ·by_cases hb:(gt x.ps i).bad=true
   ·have e:x.Ib i at_ mk=(230,x):=by rw[NX.Ib,if_pos ⟨hi.1,hi.2,hf.1,hf.2⟩,if_pos hb]
    rw[e] at hs ⊢
    refine CO (CP (CJ (Q:=[A_ Fz (x.ps.map KF.b) y.cs]) (λq hq=>by simp only[List.mem_singleton] at hq;simp[hq]) (eu r (x.ps.map KF.b) (x.ps.map KF.bad) y.cs y.A y.B y.cp y.cq y.CA y.T.length y.cc x.sent x.lost i at_ mk.toNat (by simp) (by rw[List.length_map];exact hi) (by rw[eg];exact hf) (by rw[eb];exact hb)))) ?_
    rintro u G Q ⟨Q'',⟨A',B',rfl,rfl,rfl⟩,rfl⟩
    exact⟨rQ x y,⟨⟨y.T,y.cs,A',B',y.CA,y.cp,y.cq,y.cc⟩,⟨hs.len,hs.s0,hs.s1,hs.l0,hs.l1,hs.tl,hs.tt,hs.pk,hs.nd⟩,rfl,rfl,rfl⟩,λq hq=>by simpa using hq⟩
   ·have hb':(gt x.ps i).bad=false:=by simpa using hb
    have e:x.Ib i at_ mk=(0,{ x with ps:=x.ps.set i.toNat ⟨(gt x.ps i).b.set at_.toNat (gt (gt x.ps i).b at_ ^^^ mk),true⟩ }):=by rw[NX.Ib,if_pos ⟨hi.1,hi.2,hf.1,hf.2⟩,if_neg hb]
    rw[e] at hs ⊢
    refine CO (CP (CJ (Q:=[A_ Fz (x.ps.map KF.b) y.cs]) (λq hq=>by simp only[List.mem_singleton] at hq;simp[hq]) (pV r (x.ps.map KF.b) (x.ps.map KF.bad) y.cs y.A y.B y.cp y.cq y.CA y.T.length y.cc x.sent x.lost i at_ mk (by simp) (by rw[eg];have:=hp.len;omega) (by rw[List.length_map];exact hi) (by rw[eg];exact hf) (by rw[eb];exact hb')))) ?_
    rintro u G Q ⟨Q'',⟨A',B',cs',rfl,rfl,rfl⟩,rfl⟩
    have e1:(x.ps.map KF.b).set i.toNat ((gt x.ps i).b.set at_.toNat (gt (gt x.ps i).b at_ ^^^ mk))=(x.ps.set i.toNat ⟨(gt x.ps i).b.set at_.toNat (gt (gt x.ps i).b at_ ^^^ mk),true⟩).map KF.b:=by rw[List.map_set]
    have e2:(x.ps.map KF.bad).set i.toNat true=(x.ps.set i.toNat ⟨(gt x.ps i).b.set at_.toNat (gt (gt x.ps i).b at_ ^^^ mk),true⟩).map KF.bad:=by rw[List.map_set]
    rw[eg,e1,e2]
    refine⟨_,⟨⟨y.T,cs',A',B',y.CA,y.cp,y.cq,y.cc⟩,⟨hs.len,hs.s0,hs.s1,hs.l0,hs.l1,hs.tl,hs.tt,hs.pk,hs.nd⟩,rfl,rfl,rfl⟩,λq hq=>?_⟩
    simp only[List.mem_cons,List.not_mem_nil,or_false] at hq
    rcases hq with rfl|rfl<;>simp
  ·have e:x.Ib i at_ mk=(5,x):=by rw[NX.Ib,if_neg (λh=>hf ⟨h.2.2.1,h.2.2.2⟩)]
   rw[e] at hs ⊢
   refine CO (CP (CJ (Q:=[A_ Fz (x.ps.map KF.b) y.cs]) (λq hq=>by simp only[List.mem_singleton] at hq;simp[hq]) (Ct.frame (eY r (x.ps.map KF.b) y.cs y.A y.cp _ y.CA y.T.length y.cc x.sent x.lost i at_ mk.toNat (by rw[List.length_map];exact hi) (by rw[eg];exact hf)) _))) ?_
   rintro u G Q ⟨Q'',⟨H,⟨rfl,rfl,rfl⟩,rfl⟩,rfl⟩
   exact⟨rQ x y,⟨y,hs,rfl,rfl,rfl⟩,λq hq=>by simpa using hq⟩
 ·have e:x.Ib i at_ mk=(5,x):=by rw[NX.Ib,if_neg (λh=>hi ⟨h.1,h.2.1⟩)]
  rw[e] at hs ⊢
  refine CO (CP (CJ (Q:=[]) (λq hq=>by cases hq) (Ct.frame (eX r y.A _ y.cp _ y.CA y.T.length y.cc x.sent x.lost i at_ mk.toNat (by rw[List.length_map];exact hi)) _))) ?_
  rintro u G Q ⟨Q'',⟨H,⟨rfl,rfl,rfl⟩,rfl⟩,rfl⟩
  exact⟨rQ x y,⟨y,hs,rfl,rfl,rfl⟩,λq hq=>by simpa using hq⟩
end
end Go.Proofs.YtliacpkblicnhaaGreat
namespace Go.Proofs.YtliacpkblicnhaaGreat
open Go Go.Sx Go.Proofs
theorem nspoilI(p:Nat)(K:List Nat)(x:NX)(i at_ v:Int)(mk:UInt8)(hv:v=(mk.toNat:Int)):Ct Tryz.prog 19 [.pointer (some ⟨p,0,none⟩),.int .i64 i,.int .i64 at_,.int .u8 v] [JK p K x] [] (MK p (.int .i64 (x.Ib i at_ mk).1) (x.Ib i at_ mk).2):=by
 subst hv;exact qP p K x i at_ mk
theorem xspoilI(r:Nat)(x:NX)(y:RY)(k:Nat)(i at_ v:Int)(mk:UInt8)(hv:v=(mk.toNat:Int))(h:NR x y k):Ct Tryz.prog 37 [.pointer (some ⟨r,0,none⟩),.int .i64 i,.int .i64 at_,.int .u8 v] (rG r x y) (rQ x y) (RefS r (.int .i64 (x.Ib i at_ mk).1) (x.Ib i at_ mk).2 (k+1)):=by
 subst hv;exact oM r x y k i at_ mk h
abbrev opL(o:NOp)(s:Lie):List Value:=.int .i64 o.kind::(msgL o.m s++[.int .i64 o.i,.int .i64 o.at_,.int .u8 o.x,.bool o.on])
theorem Qr{X:Prop}(h:X:=by(first|exact⟨_,_,_,h.same,rfl,rfl,rfl⟩|exact⟨_,_,_,by assumption,congrArg Value.bool (by simp),rfl,rfl⟩|(exfalso;simp_all;done))):X:=h
theorem nstep_ct(p r:Nat)(K:List Nat)(x:NX)(y:RY)(k:Nat)(o:NOp)(s:Lie)(mk:UInt8)(h:NR x y k)(hk:k<=100)(hm:FT o.m)(hn:0<=o.m.Ez/\o.m.Ez<18446744073709551616)(hv:o.x=(mk.toNat:Int)):Ct Tryz.prog 17 [.pointer (some ⟨p,0,none⟩),.pointer (some ⟨r,0,none⟩),.agg (opL o s).toArray] (JK p K x::rG r x y) (rQ x y++H9 o.m s) (λu G Q=>∃K x y,NR x y (k+1)/\u=.bool true/\G=JK p K x::rG r x y/\Q=rQ x y):=by
 have b1:=h.len;have b2:=h.s0;have b3:=h.s1;have b4:=h.l0;have b5:=h.l1
 refine Ct.intro Tryz.func17 rfl rfl rfl (λc hc=>?_)
 refine AX ?_;refine GL.step rfl (Ee rfl rfl rfl) (Aa λRD=>?_);refine AL 1 ?_;refine AB ?_;refine AV 1 ?_;refine Ad 0 ?_;refine Ap ?_;refine GC.block ?_;refine AP 2 ?_;refine Af ?_ ?_
 ·intro h1;try simp only[D6] at h1
  refine AB ?_;refine BF (m:=16) (is:=[0]) (js:=(up 0 10)) Ef rfl rfl rfl ?_;refine AZ 0 [0] (up 0 10) ?_;refine BA 1 rfl [0] (up 0 10) (i_mem (G7 (i:=0) rfl rfl NU (vs:=[_,_,_,_,_,_,_,_,_,_,_,_,_,_,_,_,_,_,_,_,_,_,_,_,_,_,_,_]) J7 ⟨rfl,rfl,rfl,rfl,rfl,rfl,rfl,rfl,rfl,rfl,rfl,rfl,rfl,rfl,rfl,rfl,rfl,rfl,rfl,rfl,rfl,rfl,rfl,rfl,rfl,rfl,rfl,rfl,trivial⟩)) ?_
  refine Aw [2] ?_
  refine E8.cons (i:=2) rfl rfl (EI rfl Tryz.call9 rfl (is:=[]) (js:=(up 2 8)) rfl rfl (by exact size_ct o.m s hm)) (by rintro a w ⟨_,_,_,⟨z17,hz17,rfl,rfl,rfl⟩,h⟩;exact h.me [0] (up 0 10)) (GA.ret ?_) Ag
  rintro _ _ _ ⟨z17,hz17,rfl,rfl,rfl⟩
  refine AZ 3 [0] (up 0 10) ?_;refine AZ 4 [0] (up 0 10) ?_;refine DL (i:=19) rfl (λh2=>?_) (λh2=>?_)
  ·try simp only[D6] at h2
   refine Bg 5 [0] (up 0 10) ?_;refine Bg 6 [0] (up 0 10) ?_;refine Bg 7 [0] (up 0 10) ?_;refine Bg 8 [0] (up 0 10) ?_;refine Bg 9 [0] (up 0 10) ?_;refine Bg 10 [0] (up 0 10) ?_;refine Bg 11 [0] (up 0 10) ?_
   refine Bg 12 [0] (up 0 10) ?_;refine Bg 13 [0] (up 0 10) ?_;refine AZ 14 [0] (up 0 10) ?_;refine AZ 15 [0] (up 0 10) ?_
   refine BG (by kernel_rfl) (?_:GC _ _ _ _)
   refine GC.ret (AQ 6 [1,1,1,1] [0,1] ?_)
   exact Qr
  try simp only[D6] at h2
  refine BN (s:=19) 5 rfl rfl rfl (by kernel_rfl) (by kernel_rfl) (by kernel_rfl) rfl (λa w h=>h.me [0] (up 0 10)) (EK (Fe rfl)) ?_;refine BN (s:=19) 6 rfl rfl rfl (by kernel_rfl) (by kernel_rfl) (by kernel_rfl) rfl (λa w h=>h.me [0] (up 0 10)) (EK (En nH rfl)) ?_
  refine BN (s:=19) 7 rfl rfl rfl (by kernel_rfl) (by kernel_rfl) (by kernel_rfl) rfl (λa w h=>h.me [0] (up 0 10)) (i_mem (G7 (i:=0) rfl rfl NU (vs:=[_,_,_,_,_,_,_,_,_,_,_,_,_,_,_,_,_,_,_,_,_,_,_,_,_,_,_,_]) J7 ⟨rfl,rfl,rfl,rfl,rfl,rfl,rfl,rfl,rfl,rfl,rfl,rfl,rfl,rfl,rfl,rfl,rfl,rfl,rfl,rfl,rfl,rfl,rfl,rfl,rfl,rfl,rfl,rfl,trivial⟩)) ?_
  refine BN (s:=19) 9 rfl rfl rfl (by kernel_rfl) (by kernel_rfl) (by kernel_rfl) rfl (λa w h=>h.me [0] (up 0 10)) (EK (Fe rfl)) ?_;refine BN (s:=19) 10 rfl rfl rfl (by kernel_rfl) (by kernel_rfl) (by kernel_rfl) rfl (λa w h=>h.me [0] (up 0 10)) (EK (En nH rfl)) ?_
  refine BN (s:=19) 11 rfl rfl rfl (by kernel_rfl) (by kernel_rfl) (by kernel_rfl) rfl (λa w h=>h.me [0] (up 0 10)) (i_mem (G7 (i:=0) rfl rfl NU (vs:=[_,_,_,_,_,_,_,_,_,_,_,_,_,_,_,_,_,_,_,_,_,_,_,_,_,_,_,_]) J7 ⟨rfl,rfl,rfl,rfl,rfl,rfl,rfl,rfl,rfl,rfl,rfl,rfl,rfl,rfl,rfl,rfl,rfl,rfl,rfl,rfl,rfl,rfl,rfl,rfl,rfl,rfl,rfl,rfl,trivial⟩)) ?_
  refine Aw [8] ?_
  refine C9 (i:=8) (s:=19) rfl rfl rfl rfl (EI rfl Tryz.call10 rfl (is:=[1]) (js:=(up 2 8)) rfl rfl (by exact aJ _ _ x o.m s hm hn (hz17 (by omega)) (by omega) (by omega))) (by rintro a w ⟨_,_,_,⟨K23,rfl,rfl,rfl⟩,h⟩;exact h.me [1] (up 0 10)) (GA.ret ?_) Ag
  rintro _ _ _ ⟨K23,rfl,rfl,rfl⟩
  refine Aw [12] ?_
  refine C9 (i:=12) (s:=19) rfl rfl rfl rfl (EI rfl Tryz.call34 rfl (is:=[2,2,2]) (js:=(up 0 10)) rfl rfl (by exact xsend_ct r x y k o.m s h (by omega) hm hn (hz17 (by omega)))) (by rintro a w ⟨_,_,_,⟨y27,hy27,rfl,rfl,rfl⟩,h⟩;exact h.me [4] (up 2 10)) (GA.ret ?_) Ag
  rintro _ _ _ ⟨y27,hy27,rfl,rfl,rfl⟩
  refine BN (s:=19) 13 rfl rfl rfl (by kernel_rfl) (by kernel_rfl) (by kernel_rfl) rfl (λa w h=>h.me [4] (up 2 10)) (EK (p_eql rfl rfl)) ?_;refine AZ 14 [4] (up 2 10) ?_;refine AZ 15 [4] (up 2 10) ?_
  refine BG (by kernel_rfl) (?_:GC _ _ _ _)
  refine GC.ret (AQ 6 [3,0,0,0] [0,1] ?_)
  exact Qr
 intro h1;try simp only[D6] at h1
 refine AP 2 ?_;refine Af ?_ ?_
 ·intro h3;try simp only[D6] at h3
  refine AV 2 ?_;refine Ad 0 ?_;refine AA 1 ?_;refine Ad 0 ?_;refine Ah Tryz.call11 [1] [] rfl rfl rfl (by exact qM _ _ x y k _ _ h) ?_
  rintro _ _ _ ⟨K38,mm38,s38,e38,he38,hm38,rfl,rfl,rfl⟩
  refine AA 3 ?_;refine GL.step rfl (EH rfl F6) (Aa λjJ=>?_);refine Ar 0 ?_;refine AL 1 ?_;refine AV 2 ?_;refine Ad 2 ?_;refine AA 1 ?_;refine Ad 2 ?_;refine Ah Tryz.call35 [3,3,3] [8,9] rfl rfl rfl (by exact xtake_ct r x y k _ _ h (by omega)) ?_
  rintro _ _ _ ⟨y47,mm47,s47,e47,he47,hm47,hy47,rfl,rfl,rfl⟩
  obtain⟨rfl,rfl⟩:=he38.one he47
  refine AA 3 ?_;refine GL.step rfl (EH rfl F6) (Aa λdF=>?_);refine Ar 0 ?_;refine AL 1 ?_;refine AX ?_;refine Az 4 28 ?_;refine Az 0 28 ?_;refine Ah Tryz.call12 [] [10,11,12,13,14,15,16,17,2,3,4,5,6,7,8,9] rfl rfl rfl (by exact pq mm38 mm38 s38 s47 hm38) ?_
  rintro _ _ _ ⟨rfl,rfl,rfl⟩
  refine AA 1 ?_;refine Ak 53 ?_ ?_
  ·intro h4;try simp only[D6] at h4
   refine AL 5 ?_;refine GC.ret (AQ 6 [5,1,1,1] [0,1] ?_)
   exact Qr
  intro h4;try simp only[D6] at h4
  exact absurd trivial h4
 intro h3;try simp only[D6] at h3
 refine AP 2 ?_;refine Af ?_ ?_
 ·intro h5;try simp only[D6] at h5
  refine AB ?_;refine BF (m:=10) (is:=[0]) (js:=(up 0 10)) Ef rfl rfl rfl ?_;refine AZ 0 [0] (up 0 10) ?_;refine AZ 1 [0] (up 0 10) ?_;refine BA 2 rfl [0] (up 0 10) (i_mem (EF (i:=0) rfl rfl Ei rfl)) ?_
  refine AZ 4 [0] (up 0 10) ?_;refine AZ 5 [0] (up 0 10) ?_;refine BA 6 rfl [0] (up 0 10) (i_mem (EF (i:=0) rfl rfl Ei rfl)) ?_;refine Aw [3] ?_
  refine E8.cons (i:=3) rfl rfl (EI rfl Tryz.call13 rfl (is:=[1]) (js:=[]) rfl rfl (by exact V3 _ _ _ _)) (by rintro a w ⟨_,_,_,⟨K63,rfl,rfl,rfl⟩,h⟩;exact h.me [1] (up 0 10)) (GA.ret ?_) Ag
  rintro _ _ _ ⟨K63,rfl,rfl,rfl⟩
  refine Aw [7] ?_
  refine E8.cons (i:=7) rfl rfl (EI rfl Tryz.call36 rfl (is:=[2,2,2]) (js:=[0,1]) rfl rfl (by exact xdrop_ct r x y k _ h (by omega))) (by rintro a w ⟨_,_,_,⟨y67,hy67,rfl,rfl,rfl⟩,h⟩;exact h.me [4] (up 2 10)) (GA.ret ?_) Ag
  rintro _ _ _ ⟨y67,hy67,rfl,rfl,rfl⟩
  refine AZ 8 [4] (up 2 10) ?_;refine AZ 9 [4] (up 2 10) ?_
  refine BG (by kernel_rfl) (?_:GC _ _ _ _)
  refine GC.ret (AQ 6 [3,0,0,0] [0,1] ?_)
  exact Qr
 intro h5;try simp only[D6] at h5
 refine AP 2 ?_;refine Af ?_ ?_
 ·intro h6;try simp only[D6] at h6
  refine AB ?_;refine BF (m:=18) (is:=[0]) (js:=(up 0 10)) Ef rfl rfl rfl ?_;refine AZ 0 [0] (up 0 10) ?_;refine AZ 1 [0] (up 0 10) ?_;refine BA 2 rfl [0] (up 0 10) (i_mem (EF (i:=0) rfl rfl Ei rfl)) ?_
  refine AZ 3 [0] (up 0 10) ?_;refine BA 4 rfl [0] (up 0 10) (i_mem (EF (i:=0) rfl rfl Ei rfl)) ?_;refine AZ 5 [0] (up 0 10) ?_;refine BA 6 rfl [0] (up 0 10) (i_mem (EF (i:=0) rfl rfl Oa rfl)) ?_
  refine AZ 8 [0] (up 0 10) ?_;refine AZ 9 [0] (up 0 10) ?_;refine BA 10 rfl [0] (up 0 10) (i_mem (EF (i:=0) rfl rfl Ei rfl)) ?_;refine AZ 11 [0] (up 0 10) ?_;refine BA 12 rfl [0] (up 0 10) (i_mem (EF (i:=0) rfl rfl Ei rfl)) ?_
  refine AZ 13 [0] (up 0 10) ?_;refine BA 14 rfl [0] (up 0 10) (i_mem (EF (i:=0) rfl rfl Oa rfl)) ?_;refine Aw [7] ?_
  refine E8.cons (i:=7) rfl rfl (EI rfl Tryz.call19 rfl (is:=[1]) (js:=[]) rfl rfl (by exact nspoilI _ _ x o.i o.at_ o.x mk hv)) (by rintro a w ⟨_,_,_,⟨K78,rfl,rfl,rfl⟩,h⟩;exact h.me [1] (up 0 10)) (GA.ret ?_) Ag
  rintro _ _ _ ⟨K78,rfl,rfl,rfl⟩
  refine Aw [15] ?_
  refine E8.cons (i:=15) rfl rfl (EI rfl Tryz.call37 rfl (is:=[2,2,2]) (js:=[0,1]) rfl rfl (by exact xspoilI r x y k o.i o.at_ o.x mk hv h)) (by rintro a w ⟨_,_,_,⟨y86,hy86,rfl,rfl,rfl⟩,h⟩;exact h.me [4] (up 2 10)) (GA.ret ?_) Ag
  rintro _ _ _ ⟨y86,hy86,rfl,rfl,rfl⟩
  refine AZ 16 [4] (up 2 10) ?_;refine AZ 17 [4] (up 2 10) ?_
  refine BG (by kernel_rfl) (?_:GC _ _ _ _)
  refine GC.ret (AQ 6 [3,0,0,0] [0,1] ?_)
  exact Qr
 intro h6;try simp only[D6] at h6
 refine AP 2 ?_;refine Af ?_ ?_
 ·intro h7;try simp only[D6] at h7
  refine AB ?_;refine BF (m:=33) (is:=[0]) (js:=(up 0 10)) Ef rfl rfl rfl ?_;refine AZ 0 [0] (up 0 10) ?_;refine AZ 1 [0] (up 0 10) ?_;refine BA 2 rfl [0] (up 0 10) (i_mem (EF (i:=0) rfl rfl Ei rfl)) ?_
  refine AZ 3 [0] (up 0 10) ?_;refine BA 4 rfl [0] (up 0 10) (i_mem (EF (i:=0) rfl rfl Ei rfl)) ?_;refine AZ 5 [0] (up 0 10) ?_;refine BA 6 rfl [0] (up 0 10) (i_mem (EF (i:=0) rfl rfl jM rfl)) ?_
  refine AZ 8 [0] (up 0 10) ?_;refine AZ 9 [0] (up 0 10) ?_;refine BA 10 rfl [0] (up 0 10) (i_mem (EF (i:=0) rfl rfl Ei rfl)) ?_;refine AZ 11 [0] (up 0 10) ?_;refine BA 12 rfl [0] (up 0 10) (i_mem (EF (i:=0) rfl rfl Ei rfl)) ?_
  refine AZ 13 [0] (up 0 10) ?_;refine BA 14 rfl [0] (up 0 10) (i_mem (EF (i:=0) rfl rfl jM rfl)) ?_;refine Aw [7] ?_
  refine E8.cons (i:=7) rfl rfl (EI rfl Tryz.call14 rfl (is:=[1]) (js:=[]) rfl rfl (by exact ncutF_ct _ _ _ _ _ _)) (by rintro a w ⟨_,_,_,⟨K97,rfl,rfl,rfl⟩,h⟩;exact h.me [1] (up 0 10)) (GA.ret ?_) Ag
  rintro _ _ _ ⟨K97,rfl,rfl,rfl⟩
  refine Aw [15] ?_
  refine E8.cons (i:=15) rfl rfl (EI rfl Tryz.call38 rfl (is:=[2,2,2]) (js:=[0,1]) rfl rfl (by exact xcut_ct r x y k _ _ _ h (by omega))) (by rintro a w ⟨_,_,_,⟨y105,hy105,rfl,rfl,rfl⟩,h⟩;exact h.me [4] (up 2 10)) (GA.ret ?_) Ag
  rintro _ _ _ ⟨y105,hy105,rfl,rfl,rfl⟩
  refine AZ 16 [4] (up 2 10) ?_;refine AZ 17 [4] (up 2 10) ?_;refine DL (i:=107) rfl (λh8=>?_) (λh8=>?_)
  ·try simp only[D6] at h8
   refine BN (s:=107) 18 rfl rfl rfl (by kernel_rfl) (by kernel_rfl) (by kernel_rfl) rfl (λa w h=>h.me [4] (up 2 10)) (EK (Fe rfl)) ?_;refine BN (s:=107) 19 rfl rfl rfl (by kernel_rfl) (by kernel_rfl) (by kernel_rfl) rfl (λa w h=>h.me [4] (up 2 10)) (EK (En Nu rfl)) ?_
   refine BN (s:=107) 20 rfl rfl rfl (by kernel_rfl) (by kernel_rfl) (by kernel_rfl) rfl (λa w h=>h.me [4] (up 2 10)) (i_mem (EF (i:=0) rfl rfl Ei rfl)) ?_;refine BN (s:=107) 21 rfl rfl rfl (by kernel_rfl) (by kernel_rfl) (by kernel_rfl) rfl (λa w h=>h.me [4] (up 2 10)) (EK (En nG rfl)) ?_
   refine BN (s:=107) 22 rfl rfl rfl (by kernel_rfl) (by kernel_rfl) (by kernel_rfl) rfl (λa w h=>h.me [4] (up 2 10)) (i_mem (EF (i:=0) rfl rfl Ei rfl)) ?_;refine BN (s:=107) 24 rfl rfl rfl (by kernel_rfl) (by kernel_rfl) (by kernel_rfl) rfl (λa w h=>h.me [4] (up 2 10)) (EK (Fe rfl)) ?_
   refine BN (s:=107) 25 rfl rfl rfl (by kernel_rfl) (by kernel_rfl) (by kernel_rfl) rfl (λa w h=>h.me [4] (up 2 10)) (EK (En Nu rfl)) ?_;refine BN (s:=107) 26 rfl rfl rfl (by kernel_rfl) (by kernel_rfl) (by kernel_rfl) rfl (λa w h=>h.me [4] (up 2 10)) (i_mem (EF (i:=0) rfl rfl Ei rfl)) ?_
   refine BN (s:=107) 27 rfl rfl rfl (by kernel_rfl) (by kernel_rfl) (by kernel_rfl) rfl (λa w h=>h.me [4] (up 2 10)) (EK (En nG rfl)) ?_;refine BN (s:=107) 28 rfl rfl rfl (by kernel_rfl) (by kernel_rfl) (by kernel_rfl) rfl (λa w h=>h.me [4] (up 2 10)) (i_mem (EF (i:=0) rfl rfl Ei rfl)) ?_
   refine Aw [23] ?_
   refine C9 (i:=23) (s:=107) rfl rfl rfl rfl (EI rfl Tryz.call20 rfl (is:=[3]) (js:=[]) rfl rfl (by exact gu _ _ _ _ _)) (by rintro a w ⟨_,_,_,⟨K113,rfl,rfl,rfl⟩,h⟩;exact h.me [4] (up 2 10)) (GA.ret ?_) Ag
   rintro _ _ _ ⟨K113,rfl,rfl,rfl⟩
   refine Aw [29] ?_
   refine C9 (i:=29) (s:=107) rfl rfl rfl rfl (EI rfl Tryz.call39 rfl (is:=[1,1,1]) (js:=[0,1]) rfl rfl (by exact xis_ct r _ y105 (k+1) _ _ hy105 (by omega))) (by rintro a w ⟨_,_,_,⟨rfl,rfl,rfl⟩,h⟩;exact h.me [4] (up 2 10)) (GA.ret ?_) Ag
   rintro _ _ _ ⟨rfl,rfl,rfl⟩
   refine BN (s:=107) 30 rfl rfl rfl (by kernel_rfl) (by kernel_rfl) (by kernel_rfl) rfl (λa w h=>h.me [4] (up 2 10)) (EK (p_beql Tryz.underlying4 rfl rfl)) ?_;refine AZ 31 [4] (up 2 10) ?_;refine AZ 32 [4] (up 2 10) ?_
   refine BG (by kernel_rfl) (?_:GC _ _ _ _)
   refine GC.ret (AQ 6 [3,0,0,0] [0,1] ?_)
   exact Qr
  try simp only[D6] at h8
  exact absurd trivial h8
 intro h7;try simp only[D6] at h7
 refine GC.skip (?_:GC _ _ _ _)
 refine AP 1 ?_;refine GC.ret (AQ 6 [1,1,1,1] [0,1] ?_)
 exact Qr
theorem NR.zero(cs:List Value):NR nx0 ⟨[],cs,none,none,none,0,0,0⟩ 0:=by
 refine⟨?_,?_,?_,?_,?_,?_,λq=>Iff.rfl,λq hq=>(by cases hq),?_⟩<;>first|exact Nat.le_refl _|decide
theorem zq115_{X:Prop}(h:X:=by(exact λa w h=>⟨(k+1),(_),(_),(y29),(by omega),⟨by omega,hy29⟩,h.cut (is:=[0,0,0,0]) (js:=[36,37,49]) ⟨rfl,rfl,rfl,rfl,trivial⟩ rfl rfl⟩)):X:=h
set_option maxHeartbeats 4000000 in
theorem netRuns_ct(A:Option Addr)(l:List NOp)(cp:Nat)(hl:∀o∈l,FT o.m/\(0<=o.m.Ez/\o.m.Ez<18446744073709551616)/\∃b:UInt8,o.x=(b.toNat:Int)):Ct Tryz.prog 5 [.slice A l.length cp] [] [D7.row kNOp A l] (λu G Q=>u=.bool true/\G=[]/\Q=[]):=by
 refine Ct.intro Tryz.func5 rfl rfl rfl (λc hc=>?_)
 refine AP 1 ?_;refine AB ?_;refine AX ?_;refine Ah Tryz.call8 [] [] rfl rfl rfl (by exact qV) ?_
 rintro _ _ _ ⟨rfl,rfl,rfl⟩
 refine AL 1 ?_;refine AY rfl ?_
 refine GC.skip (?_:GC _ _ _ _)
 refine AX ?_;refine GL.step rfl (EH rfl ze_42) (Aa λFQ=>?_);refine Ap ?_;refine AX ?_;refine GL.net0 [0] rfl ?_;refine AO rfl (ED ze_85 of_85 rfl rfl) ?_;refine GL.step rfl (Ee rfl rfl rfl) (Aa λb_RL=>?_)
 refine AL 1 ?_;refine AB ?_;refine AX ?_;refine GL.Hu 47 1 ?_;refine GL.Hu 4 1 ?_;refine GL.know (q:=A_ Fz [] []) (λ_ _ _=>rfl) ?_;refine GL.know (q:=D7.row qZ none []) (λ_ _ _=>.inl rfl) ?_
 refine AL 1 ?_;refine GC.block ?_;refine Dp (ks:=[0,3,4]) (is:=[]) (js:=[2]) (fun(k:Nat) (x:NX) (K:List Nat) (y:RY)=>k<=l.length/\NR x y k) (fun(k:Nat) (x:NX) (K:List Nat) (y:RY)=>[(5,.int .i64 (k:Int))]) (fun(k:Nat) (x:NX) (K:List Nat) (y:RY)=>[JK FQ K x,LY b_RL (.slice y.A (x.ps.map KF.b).length y.cp) (.slice y.B (x.ps.map KF.bad).length y.cq) y.CA y.T.length y.cc x.sent x.lost,.row (.slice y.A (x.ps.map KF.b).length y.cp) 47 1 (x.ps.map KF.b).length y.cs,.row (.slice y.B (x.ps.map KF.bad).length y.cq) 4 1 (x.ps.map KF.bad).length ((x.ps.map KF.bad).map Value.bool)]) (fun(k:Nat) (x:NX) (K:List Nat) (y:RY)=>[A_ Fz (x.ps.map KF.b) y.cs,D7.row qZ y.CA y.T]) (fun(k:Nat) (x:NX) (K:List Nat) (y:RY)=>l.length - k) (0) (nx0) (_) (⟨[],[],none,none,none,0,0,0⟩) rfl rfl rfl (λa w h=>⟨⟨by omega,NR.zero []⟩,h.Hf (is:=[3,2,1,0]) (js:=[1,0,2]) (ks:=[0,3,4]) ⟨rfl,trivial⟩ rfl rfl rfl⟩) ?_
 intro k x K y hN
 try dsimp only[List.cons_append,List.nil_append] at hN ⊢
 obtain⟨hk,hN⟩:=hN
 refine AB ?_;refine AV 5 ?_;refine Ak 18 ?_ ?_
 ·intro h1;try simp only[D6] at h1
  refine AL 3 ?_;refine Af ?_ ?_
  ·intro h2;try simp only[D6] at h2
   refine GC.skip (?_:GC _ _ _ _)
   refine AB ?_;refine GC.block ?_;refine AB ?_;refine AX ?_
   have hlk:=hl _ (Ec (l:=l) (k:=k) (by omega))
   obtain⟨mk,hmk⟩:=hlk.2.2
   refine AA 3 ?_;refine GL.step rfl (Ej (i:=2) rfl rfl rfl rfl Tryz.underlying22 UH (by first|omega|(dsimp only;omega)) (EW (by first|omega|(dsimp only;omega)) (by first|omega|(dsimp only;omega)))) (Aa λp_x27=>Aa λr_x27=>GL.and λok_x27=>?_)
   rcases r_x27 with⟨_,⟨⟨_,⟨_,⟨_,⟨_,⟨_,⟨_,⟨_,⟨_,⟨_,⟨_,⟨_,⟨⟨_,⟨_,⟨_,⟨⟨Ax27_0,cpx27_0⟩,⟨Ax27_1,cpx27_1⟩⟩⟩⟩⟩,⟨⟨_,⟨Ax27_2,cpx27_2⟩⟩,⟨⟨_,⟨Ax27_3,cpx27_3⟩⟩,⟨⟨_,⟨⟨_,_⟩,⟨⟨Ax27_4,cpx27_4⟩,⟨⟨Ax27_5,cpx27_5⟩,⟨_,⟨Ax27_6,cpx27_6⟩⟩⟩⟩⟩⟩,⟨Ax27_7,cpx27_7⟩⟩⟩⟩⟩⟩⟩⟩⟩⟩⟩⟩⟩⟩⟩⟩,⟨_,⟨_,⟨_,_⟩⟩⟩⟩⟩
   refine GL.step rfl (Ed rfl (FX (i:=0) rfl rfl ag_66 (vs:=[_,_,_,_,_,_,_,_,_,_,_,_,_,_,_,_,_,_,_,_,_,_,_,_,_,_,_,_,_,_,_,_,_]) UH ⟨rfl,rfl,rfl,rfl,rfl,rfl,rfl,rfl,rfl,rfl,rfl,rfl,rfl,rfl,rfl,rfl,rfl,rfl,rfl,rfl,rfl,rfl,rfl,rfl,rfl,rfl,rfl,rfl,rfl,rfl,rfl,rfl,rfl,trivial⟩)) ?_
   refine Ah Tryz.call17 [0,0,0,0] [9,10,1,2,3,4,5,6,7,8] rfl rfl rfl (by exact nstep_ct _ b_RL _ x y k (gt l (k:Int)) (⟨Ax27_0,cpx27_0,Ax27_1,cpx27_1,Ax27_2,cpx27_2,Ax27_3,cpx27_3,Ax27_4,cpx27_4,Ax27_5,cpx27_5,Ax27_6,cpx27_6,Ax27_7,cpx27_7⟩:Lie) mk hN (by omega) hlk.1 hlk.2.1 hmk) ?_
   rintro _ _ _ ⟨K29,x29,y29,hy29,rfl,rfl,rfl⟩
   refine AL 1 ?_;refine AY rfl ?_
   refine GC.skip (?_:GC _ _ _ _)
   refine AX ?_;refine Ah Tryz.call16 [0] [] rfl rfl rfl (by exact V4 _ _ _) ?_
   rintro _ _ _ ⟨K32,rfl,rfl,rfl⟩
   refine AL 5 ?_
   iterate 2 refine AB ?_
   have hlen:(x29.ps.map KF.b).length=x29.ps.length:=List.length_map _
   refine BF (m:=23) (is:=[1,1,1]) (js:=(up 0 14)) Ef rfl rfl rfl ?_;refine AZ 1 [1,1,1] (up 0 14) ?_;refine AZ 2 [1,1,1] (up 0 14) ?_;refine AZ 3 [1,1,1] (up 0 14) ?_;refine BA 4 rfl [1,1,1] (up 0 14) (i_mem (EF (i:=0) rfl rfl UQ rfl)) ?_
   refine AZ 5 [1,1,1] (up 0 14) ?_;refine Aw [0] ?_
   refine E8.cons (i:=0) rfl rfl (EI rfl Tryz.call15 rfl (is:=[0]) (js:=[]) rfl rfl (by exact lY _ _ _)) (by rintro a w ⟨_,_,_,⟨K35,rfl,rfl,rfl⟩,h⟩;exact h.me [1,1,1] (up 0 14)) (GA.ret ?_) Ag
   rintro _ _ _ ⟨K35,rfl,rfl,rfl⟩
   refine AZ 6 [1,1,1] (up 0 14) ?_;refine AZ 7 [1,1,1] (up 0 14) ?_;refine DL (i:=42) rfl (λh3=>?_) (λh3=>?_)
   ·try simp only[D6] at h3
    exfalso;omega
   try simp only[D6] at h3
   refine BN (s:=42) 8 rfl rfl rfl (by kernel_rfl) (by kernel_rfl) (by kernel_rfl) rfl (λa w h=>h.me [1,1,1] (up 0 14)) (EK (Fe rfl)) ?_;refine BN (s:=42) 9 rfl rfl rfl (by kernel_rfl) (by kernel_rfl) (by kernel_rfl) rfl (λa w h=>h.me [1,1,1] (up 0 14)) (EK (Fe rfl)) ?_
   refine BN (s:=42) 10 rfl rfl rfl (by kernel_rfl) (by kernel_rfl) (by kernel_rfl) rfl (λa w h=>h.me [1,1,1] (up 0 14)) (EK (Fb rfl)) ?_;refine BN (s:=42) 11 rfl rfl rfl (by kernel_rfl) (by kernel_rfl) (by kernel_rfl) rfl (λa w h=>h.me [1,1,1] (up 0 14)) (EK (En fo_85_3 rfl)) ?_
   refine BN (s:=42) 12 rfl rfl rfl (by kernel_rfl) (by kernel_rfl) (by kernel_rfl) rfl (λa w h=>h.me [1,1,1] (up 0 14)) (i_mem (EF (i:=0) rfl rfl Ei rfl)) ?_;refine BN (s:=42) 13 rfl rfl rfl (by kernel_rfl) (by kernel_rfl) (by kernel_rfl) rfl (λa w h=>h.me [1,1,1] (up 0 14)) (EK (lC rfl rfl)) ?_
   refine AZ 14 [1,1,1] (up 0 14) ?_;refine AZ 15 [1,1,1] (up 0 14) ?_;refine DL (i:=50) rfl (λh4=>?_) (λh4=>?_)
   ·try simp only[D6] at h4
    exact(h4 trivial).elim
   try simp only[D6] at h4
   refine BN (s:=50) 16 rfl rfl rfl (by kernel_rfl) (by kernel_rfl) (by kernel_rfl) rfl (λa w h=>h.me [1,1,1] (up 0 14)) (EK (Fe rfl)) ?_;refine BN (s:=50) 17 rfl rfl rfl (by kernel_rfl) (by kernel_rfl) (by kernel_rfl) rfl (λa w h=>h.me [1,1,1] (up 0 14)) (EK (Fe rfl)) ?_
   refine BN (s:=50) 18 rfl rfl rfl (by kernel_rfl) (by kernel_rfl) (by kernel_rfl) rfl (λa w h=>h.me [1,1,1] (up 0 14)) (EK (Fb rfl)) ?_;refine BN (s:=50) 19 rfl rfl rfl (by kernel_rfl) (by kernel_rfl) (by kernel_rfl) rfl (λa w h=>h.me [1,1,1] (up 0 14)) (EK (En fo_85_4 rfl)) ?_
   refine BN (s:=50) 20 rfl rfl rfl (by kernel_rfl) (by kernel_rfl) (by kernel_rfl) rfl (λa w h=>h.me [1,1,1] (up 0 14)) (i_mem (EF (i:=0) rfl rfl Ei rfl)) ?_;refine BN (s:=50) 21 rfl rfl rfl (by kernel_rfl) (by kernel_rfl) (by kernel_rfl) rfl (λa w h=>h.me [1,1,1] (up 0 14)) (EK (lC rfl rfl)) ?_
   refine AZ 22 [1,1,1] (up 0 14) ?_
   refine BG (by kernel_rfl) (?_:GC _ _ _ _)
   refine Af ?_ ?_
   ·intro h5;try simp only[D6] at h5
    exact(h5 trivial).elim
   intro h5;try simp only[D6] at h5
   refine GC.skip (?_:GC _ _ _ _)
   refine AV 2 ?_;refine GL.step rfl (Ej (i:=13) rfl rfl rfl rfl Tryz.underlying22 UH (by first|omega|(dsimp only;omega)) (EW (by first|omega|(dsimp only;omega)) (by first|omega|(dsimp only;omega)))) (Aa λp_x61=>Aa λr_x61=>GL.and λok_x61=>?_)
   rcases r_x61 with⟨_,⟨⟨_,⟨_,⟨_,⟨_,⟨_,⟨_,⟨_,⟨_,⟨_,⟨_,⟨_,⟨⟨_,⟨_,⟨_,⟨⟨Ax61_0,cpx61_0⟩,⟨Ax61_1,cpx61_1⟩⟩⟩⟩⟩,⟨⟨_,⟨Ax61_2,cpx61_2⟩⟩,⟨⟨_,⟨Ax61_3,cpx61_3⟩⟩,⟨⟨_,⟨⟨_,_⟩,⟨⟨Ax61_4,cpx61_4⟩,⟨⟨Ax61_5,cpx61_5⟩,⟨_,⟨Ax61_6,cpx61_6⟩⟩⟩⟩⟩⟩,⟨Ax61_7,cpx61_7⟩⟩⟩⟩⟩⟩⟩⟩⟩⟩⟩⟩⟩⟩⟩⟩,⟨_,⟨_,⟨_,_⟩⟩⟩⟩⟩
   refine AO rfl (EM Nu rfl) ?_;refine GL.step rfl (Ed rfl (ES (i:=0) rfl rfl Ei rfl)) ?_
   by_cases hin:0<=(gt l (k:Int)).i/\(gt l (k:Int)).i<(x29.ps.length:Int)
   ·skip
    refine Ah Tryz.call18 [0] [] rfl rfl rfl (by exact TR _ _ _ _ hin (by have:=(hy29.pk _ (WO hin.1 hin.2)).len;dsimp only;omega)) ?_
    rintro _ _ _ ⟨K64,A64,cp64,l64,k64,rfl,rfl,rfl⟩
    refine AL 5 ?_;refine AB ?_;refine GC.EN (i:=1) rfl ?_
    have hn0:(x29.ps.map KF.b).length≠0:=by omega
    have eg:gt (x29.ps.map KF.b) (gt l (k:Int)).i=(gt x29.ps (gt l (k:Int)).i).b:=Y1 KF.b hin.1 hin.2
    refine GC.Ql (i:=2) rfl hn0 (λ_ _=>rfl) (λb_R PE tN tC su sW=>?_)
    rw[tN]
    refine GC.aU (j:=10) (m:=(gt l (k:Int)).i) (PE) rfl (by first|omega|(dsimp only;omega)) (EW (by first|omega|(dsimp only;omega)) (by first|omega|(dsimp only;omega))) (λr_e Rj Ti=>?_)
    rcases r_e with⟨A_e,c_e⟩
    rw[eg] at Rj Ti ⊢
    refine BM (y:=.tmp 5) (j:=24) rfl rfl (by first|omega|(dsimp only;omega)) (EW (by first|omega|(dsimp only;omega)) (by first|omega|(dsimp only;omega))) (λp_x71 r_x71 iU ok_x71=>?_)
    rcases r_x71 with⟨_,⟨⟨_,⟨_,⟨_,⟨_,⟨_,⟨_,⟨_,⟨_,⟨_,⟨_,⟨_,⟨⟨_,⟨_,⟨_,⟨⟨Ax71_0,cpx71_0⟩,⟨Ax71_1,cpx71_1⟩⟩⟩⟩⟩,⟨⟨_,⟨Ax71_2,cpx71_2⟩⟩,⟨⟨_,⟨Ax71_3,cpx71_3⟩⟩,⟨⟨_,⟨⟨_,_⟩,⟨⟨Ax71_4,cpx71_4⟩,⟨⟨Ax71_5,cpx71_5⟩,⟨_,⟨Ax71_6,cpx71_6⟩⟩⟩⟩⟩⟩,⟨Ax71_7,cpx71_7⟩⟩⟩⟩⟩⟩⟩⟩⟩⟩⟩⟩⟩⟩⟩⟩,⟨_,⟨_,⟨_,_⟩⟩⟩⟩⟩
    refine BM (y:=.tmp 5) (j:=33) rfl rfl (by first|omega|(dsimp only;omega)) (EW (by first|omega|(dsimp only;omega)) (by first|omega|(dsimp only;omega))) (λp_x78 r_x78 iT ok_x78=>?_)
    rcases r_x78 with⟨_,⟨⟨_,⟨_,⟨_,⟨_,⟨_,⟨_,⟨_,⟨_,⟨_,⟨_,⟨_,⟨⟨_,⟨_,⟨_,⟨⟨Ax78_0,cpx78_0⟩,⟨Ax78_1,cpx78_1⟩⟩⟩⟩⟩,⟨⟨_,⟨Ax78_2,cpx78_2⟩⟩,⟨⟨_,⟨Ax78_3,cpx78_3⟩⟩,⟨⟨_,⟨⟨_,_⟩,⟨⟨Ax78_4,cpx78_4⟩,⟨⟨Ax78_5,cpx78_5⟩,⟨_,⟨Ax78_6,cpx78_6⟩⟩⟩⟩⟩⟩,⟨Ax78_7,cpx78_7⟩⟩⟩⟩⟩⟩⟩⟩⟩⟩⟩⟩⟩⟩⟩⟩,⟨_,⟨_,⟨_,_⟩⟩⟩⟩⟩
    refine BM (y:=.tmp 5) (j:=42) rfl rfl (by first|omega|(dsimp only;omega)) (EW (by first|omega|(dsimp only;omega)) (by first|omega|(dsimp only;omega))) (λp_x101 fH mg ok_x101=>?_)
    rcases fH with⟨_,⟨⟨_,⟨_,⟨_,⟨_,⟨_,⟨_,⟨_,⟨_,⟨_,⟨_,⟨_,⟨⟨_,⟨_,⟨_,⟨⟨Ax101_0,cpx101_0⟩,⟨Ax101_1,cpx101_1⟩⟩⟩⟩⟩,⟨⟨_,⟨Ax101_2,cpx101_2⟩⟩,⟨⟨_,⟨Ax101_3,cpx101_3⟩⟩,⟨⟨_,⟨⟨_,_⟩,⟨⟨Ax101_4,cpx101_4⟩,⟨⟨Ax101_5,cpx101_5⟩,⟨_,⟨Ax101_6,cpx101_6⟩⟩⟩⟩⟩⟩,⟨Ax101_7,cpx101_7⟩⟩⟩⟩⟩⟩⟩⟩⟩⟩⟩⟩⟩⟩⟩⟩,⟨_,⟨_,⟨_,_⟩⟩⟩⟩⟩
    refine BP Ef (by kernel_rfl) ?_;refine Am 4 ?_;refine GQ.step rfl (EP (Eb iU rfl rfl Tryz.underlying22 UH (by first|omega|(dsimp only;omega)) (by first|omega|(dsimp only;omega)))) ?_
    refine GQ.step rfl (EP (EM Nu rfl)) ?_;refine GQ.step rfl (Ea (ES (i:=18) rfl rfl Ei rfl)) ?_;refine Am 2 ?_;refine BJ (i:=75) rfl (λh6=>?_) (λh6=>?_)
    ·try simp only[D6] at h6
     refine Am 2 ?_;refine Ai (s:=75) rfl rfl rfl (EP (Eb iT rfl rfl Tryz.underlying22 UH (by first|omega|(dsimp only;omega)) (by first|omega|(dsimp only;omega)))) ?_
     refine Ai (s:=75) rfl rfl rfl (EP (EM Nu rfl)) ?_;refine Ai (s:=75) rfl rfl rfl (Ea (ES (i:=9) rfl rfl Ei rfl)) ?_;refine Am 3 ?_;refine Ai (s:=75) rfl rfl rfl (Ea (EF (i:=1) rfl rfl UQ rfl)) ?_
     refine Am 3 ?_;refine GQ.step rfl (EP (fU Tryz.underlying4 rfl rfl)) ?_;refine Am 1 ?_;refine BJ (i:=89) rfl (λh7=>?_) (λh7=>?_)
     ·try simp only[D6] at h7
      exfalso;simp_all
     try simp only[D6] at h7
     refine Am 4 ?_;refine Ai (s:=92) rfl rfl rfl (Ea (Lu (i:=28) rfl rfl Tryz.underlying47 Tryz.underlying5 Tryz.underlying9)) ?_;refine Am 3 ?_;refine Ai (s:=92) rfl rfl rfl (Ea (EF (i:=1) rfl rfl UQ rfl)) ?_
     refine Am 2 ?_;refine Ai (s:=92) rfl rfl rfl (EP (Eb mg rfl rfl Tryz.underlying22 UH (by first|omega|(dsimp only;omega)) (by first|omega|(dsimp only;omega)))) ?_
     refine Ai (s:=92) rfl rfl rfl (EP (EM Nu rfl)) ?_;refine Ai (s:=92) rfl rfl rfl (Ea (ES (i:=0) rfl rfl Ei rfl)) ?_;refine Ai (s:=92) rfl rfl rfl (EP (G6 rfl rfl Tryz.underlying81 Ls (by first|omega|(dsimp only;omega)) (by first|omega|(dsimp only;omega)))) ?_
     refine Ai (s:=92) rfl rfl rfl (Ea (EF (i:=2) rfl rfl G_ (Ti 0 _ rfl))) ?_;refine Ai (s:=92) rfl rfl rfl (Ea (Lu (i:=27) rfl rfl Tryz.underlying47 Tryz.underlying5 Tryz.underlying9)) ?_
     refine Ai (s:=92) rfl rfl rfl (EP (YU rfl rfl)) ?_;refine Am 3 ?_;refine BJ (i:=110) rfl (λh8=>?_) (λh8=>?_)
     ·try simp only[D6] at h8
      first|exact absurd rfl h8|exact(h8 trivial).elim
     try simp only[D6] at h8
     refine Am 6 ?_
     iterate 3 refine Bo (s:=116) rfl rfl rfl ?_
     refine Am 3 ?_
     refine BO (?_:GC _ _ _ _)
     refine AY rfl ?_
     refine GC.skip (?_:GC _ _ _ _)
     refine CY (j:=38) rfl (λhcl=>?_);refine CW (i:=2) (sz:=1) (m:=(x29.ps.map KF.b).length) y29.cs PE rfl rfl hcl tC su sW rfl ?_
     rw[<-tN]
     refine GC.region ?_;refine AA 1 ?_;refine AO rfl (EU rfl rfl (Fh (by first|omega|(dsimp only;omega)) (by first|omega|(dsimp only;omega)))) ?_
     refine AA 1 ?_;refine Ac ?_
     exact λa w h=>⟨(k+1),(_),(_),(y29),(by omega),⟨by omega,hy29⟩,h.cut (is:=[0,0,0,0]) (js:=[38,39,51]) ⟨rfl,rfl,rfl,rfl,trivial⟩ rfl rfl⟩
    try simp only[D6] at h6
    exfalso;omega
   skip
   refine Ah Tryz.call18 [0] [] rfl rfl rfl (by exact V5 _ _ _ _ hin) ?_
   rintro _ _ _ ⟨K64,rfl,rfl,rfl⟩
   refine AL 5 ?_;refine AB ?_;refine BM (y:=.tmp 5) (j:=22) rfl rfl (by first|omega|(dsimp only;omega)) (EW (by first|omega|(dsimp only;omega)) (by first|omega|(dsimp only;omega))) (λp_x71 r_x71 iU ok_x71=>?_)
   rcases r_x71 with⟨_,⟨⟨_,⟨_,⟨_,⟨_,⟨_,⟨_,⟨_,⟨_,⟨_,⟨_,⟨_,⟨⟨_,⟨_,⟨_,⟨⟨Ax71_0,cpx71_0⟩,⟨Ax71_1,cpx71_1⟩⟩⟩⟩⟩,⟨⟨_,⟨Ax71_2,cpx71_2⟩⟩,⟨⟨_,⟨Ax71_3,cpx71_3⟩⟩,⟨⟨_,⟨⟨_,_⟩,⟨⟨Ax71_4,cpx71_4⟩,⟨⟨Ax71_5,cpx71_5⟩,⟨_,⟨Ax71_6,cpx71_6⟩⟩⟩⟩⟩⟩,⟨Ax71_7,cpx71_7⟩⟩⟩⟩⟩⟩⟩⟩⟩⟩⟩⟩⟩⟩⟩⟩,⟨_,⟨_,⟨_,_⟩⟩⟩⟩⟩
   refine BM (y:=.tmp 5) (j:=31) rfl rfl (by first|omega|(dsimp only;omega)) (EW (by first|omega|(dsimp only;omega)) (by first|omega|(dsimp only;omega))) (λp_x78 r_x78 iT ok_x78=>?_)
   rcases r_x78 with⟨_,⟨⟨_,⟨_,⟨_,⟨_,⟨_,⟨_,⟨_,⟨_,⟨_,⟨_,⟨_,⟨⟨_,⟨_,⟨_,⟨⟨Ax78_0,cpx78_0⟩,⟨Ax78_1,cpx78_1⟩⟩⟩⟩⟩,⟨⟨_,⟨Ax78_2,cpx78_2⟩⟩,⟨⟨_,⟨Ax78_3,cpx78_3⟩⟩,⟨⟨_,⟨⟨_,_⟩,⟨⟨Ax78_4,cpx78_4⟩,⟨⟨Ax78_5,cpx78_5⟩,⟨_,⟨Ax78_6,cpx78_6⟩⟩⟩⟩⟩⟩,⟨Ax78_7,cpx78_7⟩⟩⟩⟩⟩⟩⟩⟩⟩⟩⟩⟩⟩⟩⟩⟩,⟨_,⟨_,⟨_,_⟩⟩⟩⟩⟩
   refine BM (y:=.tmp 5) (j:=40) rfl rfl (by first|omega|(dsimp only;omega)) (EW (by first|omega|(dsimp only;omega)) (by first|omega|(dsimp only;omega))) (λp_x101 fH mg ok_x101=>?_)
   rcases fH with⟨_,⟨⟨_,⟨_,⟨_,⟨_,⟨_,⟨_,⟨_,⟨_,⟨_,⟨_,⟨_,⟨⟨_,⟨_,⟨_,⟨⟨Ax101_0,cpx101_0⟩,⟨Ax101_1,cpx101_1⟩⟩⟩⟩⟩,⟨⟨_,⟨Ax101_2,cpx101_2⟩⟩,⟨⟨_,⟨Ax101_3,cpx101_3⟩⟩,⟨⟨_,⟨⟨_,_⟩,⟨⟨Ax101_4,cpx101_4⟩,⟨⟨Ax101_5,cpx101_5⟩,⟨_,⟨Ax101_6,cpx101_6⟩⟩⟩⟩⟩⟩,⟨Ax101_7,cpx101_7⟩⟩⟩⟩⟩⟩⟩⟩⟩⟩⟩⟩⟩⟩⟩⟩,⟨_,⟨_,⟨_,_⟩⟩⟩⟩⟩
   refine BP Ef (by kernel_rfl) ?_;refine Am 4 ?_;refine GQ.step rfl (EP (Eb iU rfl rfl Tryz.underlying22 UH (by first|omega|(dsimp only;omega)) (by first|omega|(dsimp only;omega)))) ?_
   refine GQ.step rfl (EP (EM Nu rfl)) ?_;refine GQ.step rfl (Ea (ES (i:=18) rfl rfl Ei rfl)) ?_;refine Am 2 ?_;refine BJ (i:=75) rfl (λh9=>?_) (λh9=>?_)
   ·try simp only[D6] at h9
    refine Am 2 ?_;refine Ai (s:=75) rfl rfl rfl (EP (Eb iT rfl rfl Tryz.underlying22 UH (by first|omega|(dsimp only;omega)) (by first|omega|(dsimp only;omega)))) ?_
    refine Ai (s:=75) rfl rfl rfl (EP (EM Nu rfl)) ?_;refine Ai (s:=75) rfl rfl rfl (Ea (ES (i:=9) rfl rfl Ei rfl)) ?_;refine Am 3 ?_;refine Ai (s:=75) rfl rfl rfl (Ea (EF (i:=1) rfl rfl UQ rfl)) ?_
    refine Am 3 ?_;refine GQ.step rfl (EP (fU Tryz.underlying4 rfl rfl)) ?_;refine Am 1 ?_;refine BJ (i:=89) rfl (λh10=>?_) (λh10=>?_)
    ·try simp only[D6] at h10
     exfalso;simp_all;try omega
    try simp only[D6] at h10
    refine Am 33 ?_
    refine BO (?_:GC _ _ _ _)
    refine Af ?_ ?_
    ·intro h11;try simp only[D6] at h11
     first|exact absurd h11 (by decide)|(exfalso;simp_all;done)|omega
    intro h11;try simp only[D6] at h11
    refine GC.skip (?_:GC _ _ _ _)
    refine GC.region ?_;refine AA 1 ?_;refine AO rfl (EU rfl rfl (Fh (by first|omega|(dsimp only;omega)) (by first|omega|(dsimp only;omega)))) ?_
    refine AA 1 ?_;refine Ac ?_
    exact zq115_
   try simp only[D6] at h9
   refine Am 12 ?_;refine GQ.step rfl (EP (fU Tryz.underlying4 rfl rfl)) ?_;refine Am 34 ?_
   refine BO (?_:GC _ _ _ _)
   refine Af ?_ ?_
   ·intro h12;try simp only[D6] at h12
    first|exact absurd h12 (by decide)|(exfalso;simp_all;done)|omega
   intro h12;try simp only[D6] at h12
   refine GC.skip (?_:GC _ _ _ _)
   refine GC.region ?_;refine AA 1 ?_;refine AO rfl (EU rfl rfl (Fh (by first|omega|(dsimp only;omega)) (by first|omega|(dsimp only;omega)))) ?_
   refine AA 1 ?_;refine Ac ?_
   exact zq115_
  intro h2;try simp only[D6] at h2
  refine GC.exit (?_:GC _ _ _ _)
  refine AP 1 ?_;refine GC.ret (AQ 2 [] [] ?_)
  exact⟨rfl,rfl,rfl⟩
 intro h1;try simp only[D6] at h1
 refine AL 3 ?_;refine AY rfl ?_
 refine GC.exit (?_:GC _ _ _ _)
 refine AP 1 ?_;refine GC.ret (AQ 2 [] [] ?_)
 exact⟨rfl,rfl,rfl⟩
end Go.Proofs.YtliacpkblicnhaaGreat
