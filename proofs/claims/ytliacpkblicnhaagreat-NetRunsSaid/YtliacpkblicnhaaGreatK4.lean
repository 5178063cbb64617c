/- Texts of this claim, in one: what the law leans on (part 4). -/
import Derived.Test.YtliacpkblicnhaaGreatK3
set_option linter.unusedVariables false
set_option linter.unusedSimpArgs false
set_option maxRecDepth 100000
namespace Go.Proofs.YtliacpkblicnhaaGreat
open Go Go.Sx Go.Proofs
set_option maxHeartbeats 2000000 in
theorem Xe(m:GZ)(s:Lie)(hm:FT m)(hok:IX m)(hn:0<=m.Ez/\m.Ez<18446744073709551616)(G8:m.log.length<100000):Ct Tryz.prog 42 [Ip m s] [] (H9 m s)
    (λu G Q=>((FC m).length<=16777216/\∃A cp,(FC m).length<=cp/\cp<=9223372036854775807/\u=.tuple #[.slice A (FC m).length cp,.bool true]/\G=[rowOf A cp (FC m)]/\Q=[])\/(16777216<(FC m).length/\(∃A n cp,u=.tuple #[.slice A n cp,.bool false])/\G=[]/\Q=[])):=by
 have hr:=Yk hok
 have hpn:=Qx m
 have hk:=hr.kind
 have l0:=Yy m
 have l1:=gB hr
 have l2:=fZ hr
 have l3:=gG hr
 have l4:=fV hr
 have l5:=Zw hr
 have lS:=lH m
 refine Ct.intro Tryz.func42 rfl rfl rfl (λc hc=>?_)
 refine AX ?_;refine GL.step rfl (Ee rfl rfl rfl) (Aa λIJ=>?_);refine AL 2 ?_;refine AX ?_;refine Az 0 28 ?_;refine Ah Tryz.call61 [] (up 0 8) rfl rfl rfl (by exact Zz m s hm) ?_
 rintro _ _ _ ⟨rfl,rfl,rfl⟩
 refine AL 1 ?_;refine AV 1 ?_;refine Ad 0 ?_;refine GL.LW 18 rfl (congrArg (Value.int .u8) (NT (by omega) (by omega))) ?_;refine GL.step rfl (EC rfl Tryz.underlying47 Fa Jd rfl rfl rfl rfl rfl rfl) (Aa λXD=>?_)
 refine AA 1 ?_;refine Ad 1 ?_;refine AO rfl (EO (t:=3) (by rw[Tryz.underlying3];simp) Tryz.underlying45 rfl (KW m.src)) ?_
 refine AA 1 ?_;refine Ad 1 ?_;refine AO rfl (EO (t:=3) (by rw[Tryz.underlying3];simp) Tryz.underlying45 rfl (KW m.dst)) ?_
 refine AA 1 ?_;refine Ad 1 ?_;refine AO rfl (EO (t:=3) (by rw[Tryz.underlying3];simp) Tryz.underlying45 rfl (KW m.epoch)) ?_
 refine AA 1 ?_;refine Ad 1 ?_;refine AO rfl (EO (t:=3) (by rw[Tryz.underlying3];simp) Tryz.underlying45 rfl (KW m.view)) ?_
 refine AA 1 ?_;refine Ad 1 ?_;refine AO rfl (EO (t:=3) (by rw[Tryz.underlying3];simp) Tryz.underlying45 rfl (KW m.num)) ?_
 refine AA 1 ?_;refine Ad 1 ?_;refine AO rfl (EO (t:=3) (by rw[Tryz.underlying3];simp) Tryz.underlying45 rfl (KW m.commit)) ?_
 refine AA 1 ?_;refine Ad 1 ?_;refine AO rfl (EO (t:=3) (by rw[Tryz.underlying3];simp) Tryz.underlying45 rfl (KW m.normal)) ?_
 refine AA 1 ?_;refine Ad 1 ?_;refine GL.LW 42 rfl (congrArg (Value.int .u64) (dX hn.1 hn.2)) ?_;refine AA 1 ?_;refine Ad 1 ?_;refine AO rfl (EO (t:=3) (by rw[Tryz.underlying3];simp) Tryz.underlying45 rfl (KW m.client)) ?_
 refine AA 1 ?_;refine Ad 1 ?_;refine AO rfl (EO (t:=3) (by rw[Tryz.underlying3];simp) Tryz.underlying45 rfl (KW m.serial)) ?_
 refine GL.step rfl (EC rfl Tryz.underlying180 UJ ZM rfl rfl rfl rfl rfl rfl) (Aa λb_t49=>?_);refine GL.FD (enc:=JE) (xs:=[G9 m.kind]) (h1:=λ_=>rfl) (i:=1) rfl ?_;refine GL.FD (enc:=uv) (xs:=[u64 m.src,u64 m.dst,u64 m.epoch,u64 m.view,u64 m.num,u64 m.commit,u64 m.normal,u64 m.Ez,u64 m.client,u64 m.serial]) (h1:=λ_=>rfl) (i:=0) rfl ?_
 refine Ah Tryz.call62 [] [1,0] rfl rfl rfl (by exact QU _ [G9 m.kind] _ 8 _ [u64 m.src,u64 m.dst,u64 m.epoch,u64 m.view,u64 m.num,u64 m.commit,u64 m.normal,u64 m.Ez,u64 m.client,u64 m.serial] _ (by omega) (by omega) (by simp) (by rw[Gi];intro x hx;simp only[List.mem_cons,List.not_mem_nil,or_false] at hx;rcases hx with rfl|rfl|rfl|rfl|rfl|rfl|rfl|rfl|rfl|rfl<;>exact S_ _)) ?_
 rintro _ _ _ ⟨A50,cp50,l50,k50,rfl,rfl,rfl⟩
 refine AL 5 ?_;refine AV 2 ?_;refine GL.LW 54 rfl (congrArg (Value.int .u8) (NT hpn.1 hpn.2)) ?_;refine GL.step rfl (EC rfl Tryz.underlying47 Fa Jd rfl rfl rfl rfl rfl rfl) (Aa λb_t55=>?_)
 refine GL.step rfl (Eh (i:=1) (k:=0) rfl Fv rfl rfl rfl rfl rfl (EX rfl) (by(try simp only[List.length_append,List.length_cons,List.length_nil,List.length_map,List.length_take,EL,EG,D_]);first|omega|(have:=IB (hr.op (by assumption));omega)|(have:=Hq (hr.res (by assumption));omega)|(have:=Fp (hr.grp (by assumption));omega)|(have:=H7 (hr.stt (by assumption));omega)|(have:=Ij hr k;have:=Ht (hr.log _ (Ec (l:=m.log) (k:=k) (by omega)));have:k * 400000<=100000 * 400000:=Nat.mul_le_mul_right _ (by omega);omega)) (λ_=>rfl)) (Aa λv56=>?_)
 refine GL.rowIs (i:=1) (m':=((hdB m)).length) (cs':=((hdB m)).map JE) rfl (by first|(simp only[List.length_append,List.length_cons,List.length_nil,List.append_assoc];done)|(simp only[List.length_append,List.length_cons,List.length_nil,List.append_assoc];omega)|(simp[D_,EG,hdB];done)|(simp[D_,EG,hdB];omega)|rfl) (by first|(simp only[List.map_append,List.map_cons,List.map_nil,List.append_assoc];done)|(simp[D_,EG,hdB];done)|rfl) rfl ?_
 refine GL.shape (i:=1) rfl (λjS jH jD l_pa50 k_pa50=>?_)
 subst jD
 refine AL 1 ?_;refine AP 1 ?_;refine CQ (ks:=[1,4]) (is:=[0,2]) (js:=(up 0 10)) (fun(A1:Option Addr) (c1:Nat)=>True) (fun(A1:Option Addr) (c1:Nat)=>[(5,.slice A1 (hdB m++pO m).length c1)]) (fun(A1:Option Addr) (c1:Nat)=>[rowOf A1 c1 (hdB m++pO m)]) (fun(A1:Option Addr) (c1:Nat)=>[]) rfl rfl rfl ?_ ?_
 ·refine AV 1 ?_;refine AO rfl (Js rfl rfl (jL _ _ _ _)) ?_;refine AL 1 ?_;refine Af ?_ ?_
  ·intro h1;try simp only[D6,MJ,MI,MH,MG] at h1
   refine AV 1 ?_;refine Az 2 5 ?_;refine Ah Tryz.call63 [] [2,3] rfl rfl rfl (by exact bQ m.op _ _ _ _ (hr.op (by assumption))) ?_
   rintro _ _ _ ⟨A63,cp63,l63,k63,rfl,rfl,rfl⟩
   refine AL 4 ?_;refine GC.region ?_;refine AA 2 ?_;refine GL.EN (i:=0) rfl ?_;refine GL.step rfl (Ep (i:=1) (k:=0) rfl Fv rfl rfl rfl rfl (by(try simp only[List.length_append,List.length_cons,List.length_nil,List.length_map,List.length_take,EL,EG,D_]);first|omega|(have:=IB (hr.op (by assumption));omega)|(have:=Hq (hr.res (by assumption));omega)|(have:=Fp (hr.grp (by assumption));omega)|(have:=H7 (hr.stt (by assumption));omega)|(have:=Ij hr k;have:=Ht (hr.log _ (Ec (l:=m.log) (k:=k) (by omega)));have:k * 400000<=100000 * 400000:=Nat.mul_le_mul_right _ (by omega);omega)) (λ_=>rfl)) (Aa λv68=>?_)
   refine GL.rowIs (i:=1) (m':=((hdB m++Ri m.op)).length) (cs':=((hdB m++Ri m.op)).map JE) rfl (by first|(simp only[List.length_append,List.length_cons,List.length_nil,List.append_assoc];done)|(simp only[List.length_append,List.length_cons,List.length_nil,List.append_assoc];omega)|(simp[D_,EG,hdB];done)|(simp[D_,EG,hdB];omega)|rfl) (by first|(simp only[List.map_append,List.map_cons,List.map_nil,List.append_assoc];done)|(simp[D_,EG,hdB];done)|rfl) rfl ?_
   refine GL.shape (i:=1) rfl (λjS jH jD l_pa50 k_pa50=>?_)
   subst jD
   refine AA 1 ?_;refine Ac ?_
   exact λa w h=>⟨(jS),(jH),trivial,by rw[show pO m=Ri m.op from if_neg (by assumption)];exact h.ct [1,0,0] (up 1 10)⟩
  intro h1;try simp only[D6,MJ,MI,MH,MG] at h1
  refine GC.skip ?_
  exact λa w h=>⟨(jS),(jH),trivial,by rw[show pO m=[] from if_pos (by assumption),List.append_nil];exact h.ct [1,0,0] (up 0 10)⟩
 intro A1 c1 hj5
 try dsimp only[List.cons_append,List.nil_append] at hj5 ⊢
 refine CQ (ks:=[1,4]) (is:=[1,2]) (js:=(up 0 10)) (fun(A1:Option Addr) (c1:Nat)=>True) (fun(A1:Option Addr) (c1:Nat)=>[(5,.slice A1 (hdB m++pO m++pR m).length c1)]) (fun(A1:Option Addr) (c1:Nat)=>[rowOf A1 c1 (hdB m++pO m++pR m)]) (fun(A1:Option Addr) (c1:Nat)=>[]) rfl rfl rfl ?_ ?_
 ·refine AV 1 ?_;refine AO rfl (Js rfl rfl (ZC _ _ _ _)) ?_;refine AL 1 ?_;refine Af ?_ ?_
  ·intro h2;try simp only[D6,MJ,MI,MH,MG] at h2
   refine AV 1 ?_;refine Az 2 2 ?_;refine Ah Tryz.call64 [] [4] rfl rfl rfl (by exact X4 m.res _ _ (hr.res (by assumption))) ?_
   rintro _ _ _ ⟨A75,cp75,l75,k75,rfl,rfl,rfl⟩
   refine AL 4 ?_;refine GC.region ?_;refine AA 2 ?_;refine GL.EN (i:=0) rfl ?_;refine GL.step rfl (Ep (i:=0) (k:=0) rfl Fv rfl rfl rfl rfl (by(try simp only[List.length_append,List.length_cons,List.length_nil,List.length_map,List.length_take,EL,EG,D_]);first|omega|(have:=IB (hr.op (by assumption));omega)|(have:=Hq (hr.res (by assumption));omega)|(have:=Fp (hr.grp (by assumption));omega)|(have:=H7 (hr.stt (by assumption));omega)|(have:=Ij hr k;have:=Ht (hr.log _ (Ec (l:=m.log) (k:=k) (by omega)));have:k * 400000<=100000 * 400000:=Nat.mul_le_mul_right _ (by omega);omega)) (λ_=>rfl)) (Aa λv80=>?_)
   refine GL.rowIs (i:=0) (m':=((hdB m++pO m++NZ m.res)).length) (cs':=((hdB m++pO m++NZ m.res)).map JE) rfl (by first|(simp only[List.length_append,List.length_cons,List.length_nil,List.append_assoc];done)|(simp only[List.length_append,List.length_cons,List.length_nil,List.append_assoc];omega)|(simp[D_,EG,hdB];done)|(simp[D_,EG,hdB];omega)|rfl) (by first|(simp only[List.map_append,List.map_cons,List.map_nil,List.append_assoc];done)|(simp[D_,EG,hdB];done)|rfl) rfl ?_
   refine GL.shape (i:=0) rfl (λSm SS Oz Ue Uf=>?_)
   subst Oz
   refine AA 1 ?_;refine Ac ?_
   exact zq61_
  intro h2;try simp only[D6,MJ,MI,MH,MG] at h2
  refine GC.skip ?_
  exact λa w h=>⟨(_),(_),trivial,by rw[show pR m=[] from if_pos (by assumption),List.append_nil];exact h.cut (is:=[0,0,0]) (js:=(up 0 10)) ⟨rfl,rfl,rfl,trivial⟩ rfl rfl⟩
 intro A1 c1 tJ
 try dsimp only[List.cons_append,List.nil_append] at tJ ⊢
 refine CQ (ks:=[1,4]) (is:=[1,2]) (js:=(up 0 10)) (fun(A1:Option Addr) (c1:Nat)=>True) (fun(A1:Option Addr) (c1:Nat)=>[(5,.slice A1 (hdB m++pO m++pR m++pG m).length c1)]) (fun(A1:Option Addr) (c1:Nat)=>[rowOf A1 c1 (hdB m++pO m++pR m++pG m)]) (fun(A1:Option Addr) (c1:Nat)=>[]) rfl rfl rfl ?_ ?_
 ·refine AV 1 ?_;refine AO rfl (Js rfl rfl (UA _ _ _ _)) ?_;refine AL 1 ?_;refine Af ?_ ?_
  ·intro h3;try simp only[D6,MJ,MI,MH,MG] at h3
   refine AB ?_
   have gr:=Fp (hr.grp (by assumption))
   refine GC.region ?_;refine AA 2 ?_;refine Ad 2 ?_;refine AO rfl (EO (t:=3) (by rw[Tryz.underlying3];simp) Tryz.underlying45 rfl (KW m.grp.epoch)) ?_
   refine GL.step rfl (EC rfl Tryz.underlying180 UJ ZM rfl rfl rfl rfl rfl rfl) (Aa λb_t89=>?_);refine GL.FD (enc:=uv) (xs:=[u64 m.grp.epoch]) (h1:=λ_=>rfl) (i:=0) rfl ?_;refine Ah Tryz.call62 [] [0] rfl rfl rfl (by exact fM 8 _ [u64 m.grp.epoch] _ (by omega) (by omega) (by simp) (by rw[Gi];intro x hx;simp at hx;subst hx;exact S_ _)) ?_
   rintro _ _ _ ⟨A90,cp90,l90,k90,rfl,rfl,rfl⟩
   refine AA 4 ?_
   refine Ac (?_:GC _ _ _ _)
   refine AB ?_;refine GC.EN (i:=0) rfl ?_;refine BF (m:=11) (is:=[1,1]) (js:=(up 0 12)) Ef rfl rfl rfl ?_;refine AZ 0 [1,1] (up 0 12) ?_;refine AZ 1 [1,1] (up 0 12) ?_;refine AZ 3 [1,1] (up 0 12) ?_
   refine AZ 4 [1,1] (up 0 12) ?_;refine BA 5 rfl [1,1] (up 0 12) (i_mem (EF (i:=1) rfl rfl JZ rfl)) ?_;refine AZ 6 [1,1] (up 0 12) ?_;refine BA 7 rfl [1,1] (up 0 12) (EK (EO (t:=3) (r:=(((G9 (m.grp.members.length:Int)).toNat:Nat):Int)) (by rw[Tryz.underlying3];simp) Tryz.underlying5 rfl (cv8 (by omega) (by omega)))) ?_
   refine Aw [2,8] ?_
   refine E8.cons (i:=2) rfl rfl (Ep (i:=0) (k:=0) rfl Fv rfl rfl rfl rfl (by(try simp only[List.length_append,List.length_cons,List.length_nil,List.length_map,List.length_take,EL,EG,D_]);first|omega|(have:=IB (hr.op (by assumption));omega)|(have:=Hq (hr.res (by assumption));omega)|(have:=Fp (hr.grp (by assumption));omega)|(have:=H7 (hr.stt (by assumption));omega)|(have:=Ij hr k;have:=Ht (hr.log _ (Ec (l:=m.log) (k:=k) (by omega)));have:k * 400000<=100000 * 400000:=Nat.mul_le_mul_right _ (by omega);omega)) (λ_=>rfl)) (by rintro a w ⟨_,h⟩;exact h.me [1,1] (up 0 12)) (BZ λv95=>?_) ?_
   ·refine Aw [8] ?_
    refine E8.cons (i:=8) rfl rfl (EC rfl Tryz.underlying47 Fa Jd rfl rfl rfl rfl rfl rfl) (by rintro a w ⟨_,h⟩;exact h.me [2,2] (up 0 12)) (BZ λb_t101=>?_) Ag
    refine Aw [9] ?_
    refine E8.cons (i:=9) rfl rfl (Eh (i:=1) (k:=0) rfl Fv rfl rfl rfl rfl rfl (EX rfl) (by(try simp only[List.length_append,List.length_cons,List.length_nil,List.length_map,List.length_take,EL,EG,D_]);first|omega|(have:=IB (hr.op (by assumption));omega)|(have:=Hq (hr.res (by assumption));omega)|(have:=Fp (hr.grp (by assumption));omega)|(have:=H7 (hr.stt (by assumption));omega)|(have:=Ij hr k;have:=Ht (hr.log _ (Ec (l:=m.log) (k:=k) (by omega)));have:k * 400000<=100000 * 400000:=Nat.mul_le_mul_right _ (by omega);omega)) (λ_=>rfl)) (by rintro a w ⟨_,h⟩;exact h.me [2,2] (up 0 12)) (BZ λv102=>?_) Ag
    refine AZ 10 [2,2] (up 0 12) ?_;refine GA.rowIs (i:=1) (m':=((hdB m++pO m++pR m++Lm 8 [u64 m.grp.epoch]++[G9 (m.grp.members.length:Int)])).length) (cs':=((hdB m++pO m++pR m++Lm 8 [u64 m.grp.epoch]++[G9 (m.grp.members.length:Int)])).map JE) rfl (by first|(simp only[List.length_append,List.length_cons,List.length_nil,List.append_assoc];done)|(simp only[List.length_append,List.length_cons,List.length_nil,List.append_assoc];omega)|(simp[D_,EG,hdB];done)|(simp[D_,EG,hdB];omega)|rfl) (by first|(simp only[List.map_append,List.map_cons,List.map_nil,List.append_assoc];done)|(simp[D_,EG,hdB];done)|rfl) rfl ?_
    refine GA.shape (i:=1) rfl (λSm SS Oz Ue Uf=>?_)
    subst Oz
    refine BG (by kernel_rfl) (?_:GC _ _ _ _)
    refine AV 2 ?_;refine Ad 3 ?_;refine AL 2 ?_;refine GC.block ?_;refine Bv (ks:=[1,4,105,106]) (is:=[0,2,3]) (js:=(up 0 12)) (fun(k:Nat) (A1:Option Addr) (c1:Nat)=>k<=m.grp.members.length) (fun(k:Nat) (A1:Option Addr) (c1:Nat)=>[(5,.slice A1 (hdB m++pO m++pR m++Lm 8 [u64 m.grp.epoch]++[G9 (m.grp.members.length:Int)]++(m.grp.members.take k).map G9).length c1),(107,.int .i64 (k:Int))]) (fun(k:Nat) (A1:Option Addr) (c1:Nat)=>[rowOf A1 c1 (hdB m++pO m++pR m++Lm 8 [u64 m.grp.epoch]++[G9 (m.grp.members.length:Int)]++(m.grp.members.take k).map G9)]) (fun(k:Nat) (A1:Option Addr) (c1:Nat)=>[]) (fun(k:Nat) (A1:Option Addr) (c1:Nat)=>m.grp.members.length - k) (0) (_) (_) rfl rfl rfl (λa w h=>⟨by omega,by simp only[List.take_zero,List.map_nil,List.append_nil];exact h.Hf (is:=[1,0,0,0]) (js:=(up 0 12)) (ks:=[1,4,105,106]) ⟨rfl,rfl,trivial⟩ rfl rfl rfl⟩) ?_
    intro k A1 c1 hk
    try dsimp only[List.cons_append,List.nil_append] at hk ⊢
    refine AP 1 ?_;refine AB ?_;refine Af ?_ ?_
    ·intro h4;try simp only[D6,MJ,MI,MH,MG] at h4
     refine GC.skip (?_:GC _ _ _ _)
     refine AB ?_;refine GC.block ?_;refine AX ?_;refine GL.step rfl (Ej (i:=7) rfl rfl rfl rfl Tryz.underlying53 GV (by omega) (EW (by omega) (by omega))) (Aa λp_x109=>Aa λfG=>GL.and λok_x109=>?_)
     rcases fG with _
     refine GL.step rfl (Ed rfl (ES (i:=0) rfl rfl Ei rfl)) ?_;refine AL 1 ?_;refine GC.region ?_;refine AA 2 ?_;refine AO rfl (EO (t:=3) (r:=(((G9 (gt m.grp.members (k:Int))).toNat:Nat):Int)) (by rw[Tryz.underlying3];simp) Tryz.underlying5 rfl (cv8 (by have:=(Fp (hr.grp (by assumption))).1 _ (Ec (l:=m.grp.members) (k:=k) (by omega));omega) (by have:=(Fp (hr.grp (by assumption))).1 _ (Ec (l:=m.grp.members) (k:=k) (by omega));omega))) ?_
     refine GL.step rfl (EC rfl Tryz.underlying47 Fa Jd rfl rfl rfl rfl rfl rfl) (Aa λb_t114=>?_);refine GL.step rfl (Eh (i:=1) (k:=0) rfl Fv rfl rfl rfl rfl rfl (EX rfl) (by(try simp only[List.length_append,List.length_cons,List.length_nil,List.length_map,List.length_take,EL,EG,D_]);first|omega|(have:=IB (hr.op (by assumption));omega)|(have:=Hq (hr.res (by assumption));omega)|(have:=Fp (hr.grp (by assumption));omega)|(have:=H7 (hr.stt (by assumption));omega)|(have:=Ij hr k;have:=Ht (hr.log _ (Ec (l:=m.log) (k:=k) (by omega)));have:k * 400000<=100000 * 400000:=Nat.mul_le_mul_right _ (by omega);omega)) (λ_=>rfl)) (Aa λv115=>?_)
     refine GL.rowIs (i:=1) (m':=((hdB m++pO m++pR m++Lm 8 [u64 m.grp.epoch]++[G9 (m.grp.members.length:Int)]++(m.grp.members.take k).map G9++[G9 (gt m.grp.members (k:Int))])).length) (cs':=((hdB m++pO m++pR m++Lm 8 [u64 m.grp.epoch]++[G9 (m.grp.members.length:Int)]++(m.grp.members.take k).map G9++[G9 (gt m.grp.members (k:Int))])).map JE) rfl (by first|(simp only[List.length_append,List.length_cons,List.length_nil,List.append_assoc];done)|(simp only[List.length_append,List.length_cons,List.length_nil,List.append_assoc];omega)|(simp[D_,EG,hdB];done)|(simp[D_,EG,hdB];omega)|rfl) (by first|(simp only[List.map_append,List.map_cons,List.map_nil,List.append_assoc];done)|(simp[D_,EG,hdB];done)|rfl) rfl ?_
     refine GL.shape (i:=1) rfl (λSm SS Oz Ue Uf=>?_)
     subst Oz
     refine AA 1 ?_
     refine Ac (?_:GC _ _ _ _)
     refine GC.region ?_;refine AO rfl (EU rfl rfl (Fh (by omega) (by omega))) ?_;refine AA 1 ?_;refine Ac ?_
     exact zq62_
    intro h4;try simp only[D6,MJ,MI,MH,MG] at h4
    refine GC.exit ?_
    obtain rfl:k=m.grp.members.length:=by omega
    exact zq63_
   refine E8.cons (i:=8) rfl rfl (EC rfl Tryz.underlying47 Fa Jd rfl rfl rfl rfl rfl rfl) (by rintro a w ⟨_,h⟩;exact h.me [2,2] (up 0 12)) (BZ λb_t101=>?_) Ag
   refine Aw [2] ?_
   refine E8.cons (i:=2) rfl rfl (Ep (i:=1) (k:=0) rfl Fv rfl rfl rfl rfl (by(try simp only[List.length_append,List.length_cons,List.length_nil,List.length_map,List.length_take,EL,EG,D_]);first|omega|(have:=IB (hr.op (by assumption));omega)|(have:=Hq (hr.res (by assumption));omega)|(have:=Fp (hr.grp (by assumption));omega)|(have:=H7 (hr.stt (by assumption));omega)|(have:=Ij hr k;have:=Ht (hr.log _ (Ec (l:=m.log) (k:=k) (by omega)));have:k * 400000<=100000 * 400000:=Nat.mul_le_mul_right _ (by omega);omega)) (λ_=>rfl)) (by rintro a w ⟨_,h⟩;exact h.me [2,2] (up 0 12)) (BZ λv95=>?_) Ag
   refine Aw [9] ?_
   refine E8.cons (i:=9) rfl rfl (Eh (i:=1) (k:=0) rfl Fv rfl rfl rfl rfl rfl (EX rfl) (by(try simp only[List.length_append,List.length_cons,List.length_nil,List.length_map,List.length_take,EL,EG,D_]);first|omega|(have:=IB (hr.op (by assumption));omega)|(have:=Hq (hr.res (by assumption));omega)|(have:=Fp (hr.grp (by assumption));omega)|(have:=H7 (hr.stt (by assumption));omega)|(have:=Ij hr k;have:=Ht (hr.log _ (Ec (l:=m.log) (k:=k) (by omega)));have:k * 400000<=100000 * 400000:=Nat.mul_le_mul_right _ (by omega);omega)) (λ_=>rfl)) (by rintro a w ⟨_,h⟩;exact h.me [2,2] (up 0 12)) (BZ λv102=>?_) Ag
   refine AZ 10 [2,2] (up 0 12) ?_;refine GA.rowIs (i:=1) (m':=((hdB m++pO m++pR m++Lm 8 [u64 m.grp.epoch]++[G9 (m.grp.members.length:Int)])).length) (cs':=((hdB m++pO m++pR m++Lm 8 [u64 m.grp.epoch]++[G9 (m.grp.members.length:Int)])).map JE) rfl (by first|(simp only[List.length_append,List.length_cons,List.length_nil,List.append_assoc];done)|(simp only[List.length_append,List.length_cons,List.length_nil,List.append_assoc];omega)|(simp[D_,EG,hdB];done)|(simp[D_,EG,hdB];omega)|rfl) (by first|(simp only[List.map_append,List.map_cons,List.map_nil,List.append_assoc];done)|(simp[D_,EG,hdB];done)|rfl) rfl ?_
   refine GA.shape (i:=1) rfl (λSm SS Oz Ue Uf=>?_)
   subst Oz
   refine BG (by kernel_rfl) (?_:GC _ _ _ _)
   refine AV 2 ?_;refine Ad 3 ?_;refine AL 2 ?_;refine GC.block ?_;refine Bv (ks:=[1,4,105,106]) (is:=[0,2,3]) (js:=(up 0 12)) (fun(k:Nat) (A1:Option Addr) (c1:Nat)=>k<=m.grp.members.length) (fun(k:Nat) (A1:Option Addr) (c1:Nat)=>[(5,.slice A1 (hdB m++pO m++pR m++Lm 8 [u64 m.grp.epoch]++[G9 (m.grp.members.length:Int)]++(m.grp.members.take k).map G9).length c1),(107,.int .i64 (k:Int))]) (fun(k:Nat) (A1:Option Addr) (c1:Nat)=>[rowOf A1 c1 (hdB m++pO m++pR m++Lm 8 [u64 m.grp.epoch]++[G9 (m.grp.members.length:Int)]++(m.grp.members.take k).map G9)]) (fun(k:Nat) (A1:Option Addr) (c1:Nat)=>[]) (fun(k:Nat) (A1:Option Addr) (c1:Nat)=>m.grp.members.length - k) (0) (_) (_) rfl rfl rfl (λa w h=>⟨by omega,by simp only[List.take_zero,List.map_nil,List.append_nil];exact h.Hf (is:=[1,0,0,0]) (js:=(up 0 12)) (ks:=[1,4,105,106]) ⟨rfl,rfl,trivial⟩ rfl rfl rfl⟩) ?_
   intro k A1 c1 hk
   try dsimp only[List.cons_append,List.nil_append] at hk ⊢
   refine AP 1 ?_;refine AB ?_;refine Af ?_ ?_
   ·intro h4;try simp only[D6,MJ,MI,MH,MG] at h4
    refine GC.skip (?_:GC _ _ _ _)
    refine AB ?_;refine GC.block ?_;refine AX ?_;refine GL.step rfl (Ej (i:=7) rfl rfl rfl rfl Tryz.underlying53 GV (by omega) (EW (by omega) (by omega))) (Aa λp_x109=>Aa λfG=>GL.and λok_x109=>?_)
    rcases fG with _
    refine GL.step rfl (Ed rfl (ES (i:=0) rfl rfl Ei rfl)) ?_;refine AL 1 ?_;refine GC.region ?_;refine AA 2 ?_;refine AO rfl (EO (t:=3) (r:=(((G9 (gt m.grp.members (k:Int))).toNat:Nat):Int)) (by rw[Tryz.underlying3];simp) Tryz.underlying5 rfl (cv8 (by have:=(Fp (hr.grp (by assumption))).1 _ (Ec (l:=m.grp.members) (k:=k) (by omega));omega) (by have:=(Fp (hr.grp (by assumption))).1 _ (Ec (l:=m.grp.members) (k:=k) (by omega));omega))) ?_
    refine GL.step rfl (EC rfl Tryz.underlying47 Fa Jd rfl rfl rfl rfl rfl rfl) (Aa λb_t114=>?_);refine GL.step rfl (Eh (i:=1) (k:=0) rfl Fv rfl rfl rfl rfl rfl (EX rfl) (by(try simp only[List.length_append,List.length_cons,List.length_nil,List.length_map,List.length_take,EL,EG,D_]);first|omega|(have:=IB (hr.op (by assumption));omega)|(have:=Hq (hr.res (by assumption));omega)|(have:=Fp (hr.grp (by assumption));omega)|(have:=H7 (hr.stt (by assumption));omega)|(have:=Ij hr k;have:=Ht (hr.log _ (Ec (l:=m.log) (k:=k) (by omega)));have:k * 400000<=100000 * 400000:=Nat.mul_le_mul_right _ (by omega);omega)) (λ_=>rfl)) (Aa λv115=>?_)
    refine GL.rowIs (i:=1) (m':=((hdB m++pO m++pR m++Lm 8 [u64 m.grp.epoch]++[G9 (m.grp.members.length:Int)]++(m.grp.members.take k).map G9++[G9 (gt m.grp.members (k:Int))])).length) (cs':=((hdB m++pO m++pR m++Lm 8 [u64 m.grp.epoch]++[G9 (m.grp.members.length:Int)]++(m.grp.members.take k).map G9++[G9 (gt m.grp.members (k:Int))])).map JE) rfl (by first|(simp only[List.length_append,List.length_cons,List.length_nil,List.append_assoc];done)|(simp only[List.length_append,List.length_cons,List.length_nil,List.append_assoc];omega)|(simp[D_,EG,hdB];done)|(simp[D_,EG,hdB];omega)|rfl) (by first|(simp only[List.map_append,List.map_cons,List.map_nil,List.append_assoc];done)|(simp[D_,EG,hdB];done)|rfl) rfl ?_
    refine GL.shape (i:=1) rfl (λSm SS Oz Ue Uf=>?_)
    subst Oz
    refine AA 1 ?_
    refine Ac (?_:GC _ _ _ _)
    refine GC.region ?_;refine AO rfl (EU rfl rfl (Fh (by omega) (by omega))) ?_;refine AA 1 ?_;refine Ac ?_
    exact zq62_
   intro h4;try simp only[D6,MJ,MI,MH,MG] at h4
   refine GC.exit ?_
   obtain rfl:k=m.grp.members.length:=by omega
   exact zq63_
  intro h3;try simp only[D6,MJ,MI,MH,MG] at h3
  refine GC.skip ?_
  exact λa w h=>⟨(_),(_),trivial,by rw[show pG m=[] from if_pos (by assumption),List.append_nil];exact h.cut (is:=[0,0,0]) (js:=(up 0 10)) ⟨rfl,rfl,rfl,trivial⟩ rfl rfl⟩
 intro A1 c1 hj11
 try dsimp only[List.cons_append,List.nil_append] at hj11 ⊢
 refine CQ (ks:=[1]) (is:=[1,2]) (js:=(up 0 10)) (fun(A1:Option Addr) (c1:Nat)=>True) (fun(A1:Option Addr) (c1:Nat)=>[(5,.slice A1 (hdB m++pO m++pR m++pG m++pS m).length c1)]) (fun(A1:Option Addr) (c1:Nat)=>[rowOf A1 c1 (hdB m++pO m++pR m++pG m++pS m)]) (fun(A1:Option Addr) (c1:Nat)=>[]) rfl rfl rfl ?_ ?_
 ·refine AV 1 ?_;refine AO rfl (Js rfl rfl (jK _ _ _ _)) ?_;refine AL 1 ?_;refine Af ?_ ?_
  ·intro h5;try simp only[D6,MJ,MI,MH,MG] at h5
   refine AB ?_
   by_cases hsl:(JR m.stt).length<=33554432
   ·skip
    refine GC.region ?_;refine AA 1 ?_;refine Az 2 7 ?_;refine Ah Tryz.call65 [] [6,7,8] rfl rfl rfl (by exact rE m.stt _ _ _ _ _ _ hm.s (hr.stt (by assumption)) hsl) ?_
    rintro _ _ _ ⟨A123,cp123,l123,k123,rfl,rfl,rfl⟩
    refine AA 5 ?_
    refine Ac (?_:GC _ _ _ _)
    refine AB ?_;refine AP 2 ?_;refine AY rfl ?_
    refine GC.skip (?_:GC _ _ _ _)
    refine GC.region ?_;refine AA 2 ?_;refine GL.EN (i:=0) rfl ?_;refine GL.step rfl (Ep (i:=0) (k:=0) rfl Fv rfl rfl rfl rfl (by(try simp only[List.length_append,List.length_cons,List.length_nil,List.length_map,List.length_take,EL,EG,D_]);first|omega|(have:=IB (hr.op (by assumption));omega)|(have:=Hq (hr.res (by assumption));omega)|(have:=Fp (hr.grp (by assumption));omega)|(have:=H7 (hr.stt (by assumption));omega)|(have:=Ij hr k;have:=Ht (hr.log _ (Ec (l:=m.log) (k:=k) (by omega)));have:k * 400000<=100000 * 400000:=Nat.mul_le_mul_right _ (by omega);omega)) (λ_=>rfl)) (Aa λv130=>?_)
    refine GL.rowIs (i:=0) (m':=((hdB m++pO m++pR m++pG m++JR m.stt)).length) (cs':=((hdB m++pO m++pR m++pG m++JR m.stt)).map JE) rfl (by first|(simp only[List.length_append,List.length_cons,List.length_nil,List.append_assoc];done)|(simp only[List.length_append,List.length_cons,List.length_nil,List.append_assoc];omega)|(simp[D_,EG,hdB];done)|(simp[D_,EG,hdB];omega)|rfl) (by first|(simp only[List.map_append,List.map_cons,List.map_nil,List.append_assoc];done)|(simp[D_,EG,hdB];done)|rfl) rfl ?_
    refine GL.shape (i:=0) rfl (λSm SS Oz Ue Uf=>?_)
    subst Oz
    refine AA 1 ?_;refine Ac ?_
    exact zq64_
   skip
   refine GC.region ?_;refine AA 1 ?_;refine Az 2 7 ?_;refine Ah Tryz.call65 [] [6,7,8] rfl rfl rfl (by exact bP m.stt _ _ _ _ _ _ hm.s (hr.stt (by assumption)) (by omega)) ?_
   rintro _ _ _ ⟨rfl,rfl,rfl⟩
   refine AA 5 ?_
   refine Ac (?_:GC _ _ _ _)
   refine AB ?_;refine AP 2 ?_;refine AU rfl ?_;refine AP 2 ?_;refine GC.ret (BR 2 3 [] [] ?_)
   have e:pS m=JR m.stt:=if_neg (by assumption)
   rw[e] at lS
   exact .inr ⟨by omega,⟨_,_,_,rfl⟩,rfl,rfl⟩
  intro h5;try simp only[D6,MJ,MI,MH,MG] at h5
  refine GC.skip ?_
  exact λa w h=>⟨(_),(_),trivial,by rw[show pS m=[] from if_pos (by assumption),List.append_nil];exact h.cut (is:=[0,0,0]) (js:=(up 0 10)) ⟨rfl,rfl,trivial⟩ rfl rfl⟩
 intro A1 c1 hj19
 try dsimp only[List.cons_append,List.nil_append] at hj19 ⊢
 refine AV 2 ?_;refine Ad 2 ?_;refine AA 1 ?_;refine AO rfl (EO (t:=3) (r:=((m.log.length:Nat):Int)) (by rw[Tryz.underlying3];simp) Tryz.underlying45 rfl (bn (by omega) (by omega))) ?_
 refine GL.EN (i:=0) rfl ?_;refine Ah Tryz.call66 [] [0] rfl rfl rfl (by exact Uz _ (hdB m++pO m++pR m++pG m++pS m) _ m.log.length 4 (by omega) (by omega) (by simp;omega) (by rw[Gn];omega)) ?_
 rintro _ _ _ ⟨A137,cp137,l137,k137,rfl,rfl,rfl⟩
 refine AL 4 ?_;refine AB ?_;refine AV 1 ?_;refine Ad 2 ?_;refine AL 2 ?_;refine GC.block ?_;refine Bv (ks:=[141,142]) (is:=[1,2]) (js:=(up 0 11)) (fun(k:Nat) (A1:Option Addr) (c1:Nat)=>k<=m.log.length/\(preB m++(m.log.take k).flatMap He).length<=c1/\c1<=9223372036854775807) (fun(k:Nat) (A1:Option Addr) (c1:Nat)=>[(5,.slice A1 (preB m++(m.log.take k).flatMap He).length c1),(143,.int .i64 (k:Int))]) (fun(k:Nat) (A1:Option Addr) (c1:Nat)=>[rowOf A1 c1 (preB m++(m.log.take k).flatMap He)]) (fun(k:Nat) (A1:Option Addr) (c1:Nat)=>[]) (fun(k:Nat) (A1:Option Addr) (c1:Nat)=>m.log.length - k) (0) (_) (_) rfl rfl rfl (λa w h=>⟨⟨by omega,by simp only[List.take_zero,List.flatMap_nil,List.append_nil];exact l137,k137⟩,by simp only[List.take_zero,List.flatMap_nil,List.append_nil];exact h.Hf (is:=[0,0,0]) (js:=(up 0 11)) (ks:=[141,142]) ⟨rfl,rfl,trivial⟩ rfl rfl rfl⟩) ?_
 intro k A1 c1 hk
 try dsimp only[List.cons_append,List.nil_append] at hk ⊢
 obtain⟨hk,hc1,hc2⟩:=hk
 refine AP 1 ?_;refine AB ?_;refine Af ?_ ?_
 ·intro h6;try simp only[D6,MJ,MI,MH,MG] at h6
  refine GC.skip (?_:GC _ _ _ _)
  refine AB ?_;refine GC.block ?_;refine AX ?_;refine GL.step rfl (Ej (i:=10) rfl rfl rfl rfl Tryz.underlying62 F9 (by omega) (EW (by omega) (by omega))) (Aa λp_x145=>Aa λr_x145=>GL.and λok_x145=>?_)
  rcases r_x145 with⟨_,⟨_,⟨_,⟨_,⟨_,⟨⟨_,⟨_,⟨_,⟨⟨Ax145_0,cpx145_0⟩,⟨Ax145_1,cpx145_1⟩⟩⟩⟩⟩,⟨_,⟨Ax145_2,cpx145_2⟩⟩⟩⟩⟩⟩⟩⟩
  refine GL.step rfl (Ed rfl (FX (i:=0) rfl rfl Ku (vs:=[_,_,_,_,_,_,_,_,_,_,_,_]) F9 ⟨rfl,rfl,rfl,rfl,rfl,rfl,rfl,rfl,rfl,rfl,rfl,rfl,trivial⟩)) ?_;refine GL.step rfl (EH rfl Ia) (Aa λny=>?_)
  refine Ar 0 ?_;refine Ap ?_;refine AB ?_;refine AX ?_;refine Az 0 12 ?_
  have hel:=(hm.e _ (Ec (l:=m.log) (k:=k) (by omega))).m
  refine Ah Tryz.call67 [] [1,2,3] rfl rfl rfl (by exact rF (gt m.log (k:Int)) _ _ _ _ _ _ (hr.log _ (Ec (by omega))) (by omega)) ?_
  rintro _ _ _ ⟨A149,cp149,l149,k149,rfl,rfl,rfl⟩
  refine AL 4 ?_;refine AB ?_
  have hlk:=Ij hr k
  have hek:=Ht (hr.log _ (Ec (l:=m.log) (k:=k) (by omega)))
  have hk4:k * 400000<=100000 * 400000:=Nat.mul_le_mul_right _ (by omega)
  have hpl:(preB m++(m.log.take k).flatMap He).length=(preB m).length+((m.log.take k).flatMap He).length:=List.length_append
  refine GC.region ?_;refine AA 4 ?_;refine AO rfl (EU rfl rfl (Fh (by omega) (by omega))) ?_;refine AA 1 ?_
  refine Ac (?_:GC _ _ _ _)
  refine Af ?_ ?_
  ·intro h7;try simp only[D6,MJ,MI,MH,MG] at h7
   refine AP 2 ?_;refine GC.ret (BR 2 3 [] [] ?_)
   have:=body_ge' (m:=m) (k:=k) (by omega)
   rw[List.length_append] at *
   exact .inr ⟨by omega,⟨_,_,_,rfl⟩,rfl,rfl⟩
  intro h7;try simp only[D6,MJ,MI,MH,MG] at h7
  refine GC.skip (?_:GC _ _ _ _)
  refine GC.region ?_;refine AA 2 ?_;refine GL.EN (i:=0) rfl ?_;refine GL.step rfl (Ep (i:=1) (k:=0) rfl Fv rfl rfl rfl rfl (by(try simp only[List.length_append,List.length_cons,List.length_nil,List.length_map,List.length_take,EL,EG,D_]);first|omega|(have:=IB (hr.op (by assumption));omega)|(have:=Hq (hr.res (by assumption));omega)|(have:=Fp (hr.grp (by assumption));omega)|(have:=H7 (hr.stt (by assumption));omega)|(have:=Ij hr k;have:=Ht (hr.log _ (Ec (l:=m.log) (k:=k) (by omega)));have:k * 400000<=100000 * 400000:=Nat.mul_le_mul_right _ (by omega);omega)) (λ_=>rfl)) (Aa λv160=>?_)
  refine GL.rowIs (i:=1) (m':=((preB m++(m.log.take k).flatMap He++He (gt m.log (k:Int)))).length) (cs':=((preB m++(m.log.take k).flatMap He++He (gt m.log (k:Int)))).map JE) rfl (by first|(simp only[List.length_append,List.length_cons,List.length_nil,List.append_assoc];done)|(simp only[List.length_append,List.length_cons,List.length_nil,List.append_assoc];omega)|(simp[D_,EG,hdB];done)|(simp[D_,EG,hdB];omega)|rfl) (by first|(simp only[List.map_append,List.map_cons,List.map_nil,List.append_assoc];done)|(simp[D_,EG,hdB];done)|rfl) rfl ?_
  refine GL.shape (i:=1) rfl (λSm SS Oz Ue Uf=>?_)
  subst Oz
  refine AA 1 ?_
  refine Ac (?_:GC _ _ _ _)
  refine GC.region ?_;refine AO rfl (EU rfl rfl (Fh (by omega) (by omega))) ?_;refine AA 1 ?_;refine Ac ?_
  exact λa w h=>⟨(k+1),(Sm),(SS),(by omega),⟨by omega,by rw[MC (by omega),<-List.append_assoc];exact Ue,Uf⟩,by rw[MC (by omega),<-List.append_assoc];exact h.ct [1,1,1] (up 5 11)⟩
 intro h6;try simp only[D6,MJ,MI,MH,MG] at h6
 refine GC.exit (?_:GC _ _ _ _)
 refine AB ?_
 obtain rfl:k=m.log.length:=by omega
 rw[List.take_length] at hc1 ⊢
 have hbe:preB m++m.log.flatMap He=FC m:=rfl
 rw[hbe] at hc1 ⊢
 by_cases hfit:(FC m).length<=16777216
 ·skip
  refine GC.region ?_;refine AA 6 ?_
  refine Ac (?_:GC _ _ _ _)
  refine GC.ret (BR 2 3 [0] [] ?_)
  refine .inl ⟨hfit,_,_,hc1,hc2,?_,rfl,rfl⟩
  exact congrArg (λb=>Value.tuple #[.slice _ _ _,.bool b]) (decide_eq_true (by omega))
 skip
 refine GC.region ?_;refine AA 6 ?_
 refine Ac (?_:GC _ _ _ _)
 refine GC.ret (BR 2 3 [] [] ?_)
 refine .inr ⟨by omega,⟨A1,(FC m).length,c1,?_⟩,rfl,rfl⟩
 exact congrArg (λb=>Value.tuple #[.slice _ _ _,.bool b]) (decide_eq_false (by omega))
theorem dn{x:BitVec 32}(h:H8 x=0#32):x=0#32:=by
 unfold H8 at h
 apply BitVec.eq_of_toNat_eq
 have hx:=x.isLt
 split at h
 ·rename_i h0
  have e:x >>> 1=poly:=by
   have:=congrArg (· ^^^ poly) h
   simpa[BitVec.xor_assoc] using this
  have e2:=congrArg BitVec.toNat e
  rw[BitVec.toNat_ushiftRight,Nat.shiftRight_eq_div_pow] at e2
  have:poly.toNat=2197175160:=by decide
  omega
 ·rename_i h0
  have e2:=congrArg BitVec.toNat h
  rw[BitVec.toNat_ushiftRight,Nat.shiftRight_eq_div_pow] at e2
  have h0':x.toNat % 2=0:=by
   have:x.getLsbD 0=x.toNat.testBit 0:=rfl
   rw[this,Nat.testBit_zero] at h0
   simp at h0
   omega
  simp at e2 ⊢
  omega
theorem J8{x y:BitVec 32}(h:H8 x=H8 y):x=y:=by
 have e:H8 (x ^^^ y)=0#32:=by rw[OO,h,BitVec.xor_self]
 have e2:=dn e
 have:=congrArg (· ^^^ y) e2
 simpa[BitVec.xor_assoc] using this
theorem X8{s t:BitVec 32}{b c:UInt8}(h:KX s b=KX t c):s ^^^ b.toBitVec.zeroExtend 32=t ^^^ c.toBitVec.zeroExtend 32:=by
 unfold KX at h
 exact J8 (J8 (J8 (J8 (J8 (J8 (J8 (J8 h)))))))
theorem xor_left{a b c:BitVec 32}(h:a ^^^ b=a ^^^ c):b=c:=by
 have:=congrArg (a ^^^ ·) h
 simpa[<-BitVec.xor_assoc] using this
theorem oN{a b c:BitVec 32}(h:a ^^^ c=b ^^^ c):a=b:=by
 have:=congrArg (· ^^^ c) h
 simpa[BitVec.xor_assoc] using this
theorem jI{s:BitVec 32}{b c:UInt8}(h:KX s b=KX s c):b=c:=by
 have e:=congrArg BitVec.toNat (xor_left (X8 h))
 simp at e
 have h1:=b.toNat_lt
 have h2:=c.toNat_lt
 exact UInt8.toNat_inj.1 (by omega)
theorem Xz:∀(l:List UInt8) {s t:BitVec 32},l.foldl KX s=l.foldl KX t->s=t
 |[],_,_,h=>h
 |x::r,_,_,h=>oN (X8 (Xz r h))
theorem rW{p q:List UInt8}{b c:UInt8}(h:W_ (p++b::q)=W_ (p++c::q)):b=c:=by
 unfold W_ Rw at h
 have h2:=congrArg (~~~ ·) h
 simp only[BitVec.not_not,List.foldl_append,List.foldl_cons] at h2
 exact jI (Xz q h2)
theorem leN4_inj{v w:Nat}(hv:v<4294967296)(hw:w<4294967296)(h:FK 4 v=FK 4 w):v=w:=by
 simp only[aT,List.cons.injEq,and_true] at h
 obtain⟨h1,h2,h3,h4⟩:=h
 have e:∀a b:Nat,a<256->b<256->UInt8.ofNat a=UInt8.ofNat b->a=b:=λa b ha hb h=>by
  have:=congrArg UInt8.toNat h
  simp at this
  omega
 have e1:=e _ _ (Nat.mod_lt _ (by decide)) (Nat.mod_lt _ (by decide)) h1
 have e2:=e _ _ (Nat.mod_lt _ (by decide)) (Nat.mod_lt _ (by decide)) h2
 have e3:=e _ _ (Nat.mod_lt _ (by decide)) (Nat.mod_lt _ (by decide)) h3
 have e4:=e _ _ (Nat.mod_lt _ (by decide)) (Nat.mod_lt _ (by decide)) h4
 simp only[show(256:Nat) ^ 1=256 from rfl,show(256:Nat) ^ 2=65536 from rfl,show(256:Nat) ^ 3=16777216 from rfl] at e2 e3 e4
 omega
theorem Zc{y z:List UInt8}{k:Nat}{c:UInt8}(hk:k<(Gy y).length)(hc:c≠gt (Gy y) (k:Int))(h:(Gy y).set k c=Gy z):False:=by
 have hl:y.length=z.length:=by
  have:=congrArg List.length h
  rw[List.length_set,ML,ML] at this
  omega
 have hg:gt (Gy y) (k:Int)=(Gy y)[k]:=by simp[gt,List.getD_eq_getElem?_getD,hk]
 rw[hg] at hc
 by_cases hky:k<y.length
 ·have e:(Gy y).set k c=(y.set k c)++FK 4 (W_ y).toNat:=by rw[Gy,List.set_append_left _ _ hky]
  rw[e,Gy] at h
  obtain⟨h1,h2⟩:=List.append_inj h (by rw[List.length_set];exact hl)
  have h3:=BitVec.eq_of_toNat_eq (leN4_inj (W_ y).isLt (W_ z).isLt h2)
  subst h1
  rw[List.set_eq_take_append_cons_drop,if_pos hky] at h3
  have hy:y=y.take k++y[k]::y.drop (k+1):=by rw[<-List.drop_eq_getElem_cons hky,List.take_append_drop]
  have h4:W_ (y.take k++y[k]::y.drop (k+1))=W_ (y.take k++c::y.drop (k+1)):=by rw[<-hy];exact h3
  refine hc ?_
  rw[<-rW h4]
  simp[Gy,List.getElem_append_left hky]
 ·rw[Gy,Gy,List.set_append_right _ _ (by omega)] at h
  obtain⟨h1,h2⟩:=List.append_inj h hl
  subst h1
  have hk4:k - y.length<(FK 4 (W_ y).toNat).length:=by rw[ML] at hk;rw[D_];omega
  have e:=congrArg (λl=>l[k - y.length]?) h2
  simp only[List.getElem?_set_self hk4,List.getElem?_eq_getElem hk4] at e
  refine hc ?_
  rw[Option.some.inj e]
  simp[Gy,List.getElem_append_right (Nat.le_of_not_lt hky)]
def rdBad(b:List UInt8):Prop:=XM b≠0\/Jc b+20≠b.length
theorem rd_zero{b:List UInt8}(h:XM b=0):16<=b.length/\Jc b+20<=b.length/\Gy (seg b 0 (Jc b+16))=seg b 0 (Jc b+20):=by
 unfold XM at h
 split at h
 ·cases h
 ·split at h
  ·cases h
  ·split at h
   ·cases h
   ·split at h
    ·cases h
    ·rename_i h1 h2 h3 h4
     exact⟨by omega,by omega,Classical.not_not.1 h4⟩
theorem oV{v:Nat}(h:v<4294967296):GH (FK 4 v)=v:=by
 rw[aT]
 simp only[GH]
 simp only[show(256:Nat) ^ 1=256 from rfl,show(256:Nat) ^ 2=65536 from rfl,show(256:Nat) ^ 3=16777216 from rfl]
 have e:∀a:Nat,(UInt8.ofNat (a % 256)).toNat=a % 256:=λa=>by simp
 simp only[e]
 omega
theorem qE{F:List UInt8}{B:List UInt8}(hF:F=HY B)(hB:B.length<=16777216){G:List UInt8}(hG:∀i:Nat,12<=i->i<16->G[i]?=F[i]?)(hl:16<=G.length):Jc G=B.length:=by
 have e:seg G 12 (12+4)=FK 4 B.length:=by
  apply List.ext_getElem?
  intro i
  by_cases hi:i<4
  ·rw[seg,List.getElem?_drop,List.getElem?_take,if_pos (by omega),hG _ (by omega) (by omega),hF,HY,Gy,headB]
   have h12:([80,76,4,0]++FK 8 0:List UInt8).length=12:=by simp[D_]
   rw[List.append_assoc,List.append_assoc,List.getElem?_append_right (by omega),h12,show 12+i - 12=i by omega,List.getElem?_append_left (by rw[D_];exact hi)]
  ·rw[List.getElem?_eq_none (by rw[seg_length (by omega)];omega),List.getElem?_eq_none (by rw[D_];omega)]
 rw[Jc,e,oV (by omega)]
theorem dz_turn{F B:List UInt8}{k:Nat}{x:UInt8}(hF:F=HY B)(hB:B.length<=16777216)(hk:k<F.length)(hx:x≠0):rdBad (F.set k (gt F (k:Int) ^^^ x)):=by
 refine Classical.byContradiction λh=>?_
 have h1:XM (F.set k (gt F (k:Int) ^^^ x))=0:=Classical.not_not.1 λg=>h (.inl g)
 have h2:Jc (F.set k (gt F (k:Int) ^^^ x))+20=(F.set k (gt F (k:Int) ^^^ x)).length:=Classical.not_not.1 λg=>h (.inr g)
 obtain⟨_,_,g3⟩:=rd_zero h1
 rw[h2,RS] at g3
 subst hF
 refine Zc (y:=headB B) (k:=k) (c:=gt (HY B) (k:Int) ^^^ x) hk (λe=>hx ?_) g3.symm
 have e2:gt (HY B) (k:Int) ^^^ x=gt (HY B) (k:Int):=e
 have:=congrArg (gt (HY B) (k:Int) ^^^ ·) e2
 simpa[<-UInt8.xor_assoc] using this
abbrev msgZ:Value:=.agg #[.int .u8 0,.int .i64 0,.int .i64 0,.int .i64 0,.int .i64 0,.int .i64 0,.int .i64 0,.int .i64 0,.int .u64 0,.int .i64 0,.int .i64 0,.int .u8 0,.int .i64 0,.int .i64 0,.slice none 0 0,.slice none 0 0,.int .u8 0,.slice none 0 0,.int .i64 0,.slice none 0 0,.int .i64 0,.int .i64 0,.int .i64 0,.slice none 0 0,.slice none 0 0,.int .i64 0,.slice none 0 0,.slice none 0 0]
theorem Xd(m:GZ)(s:Lie)(hm:FT m)(hok:IX m)(hn:0<=m.Ez/\m.Ez<18446744073709551616)(G8:m.log.length<100000)(hf:(FC m).length<=16777216):Ct Tryz.prog 42 [Ip m s] [] (H9 m s)
  (λu G Q=>∃A cp,(FC m).length<=cp/\cp<=9223372036854775807/\u=.tuple #[.slice A (FC m).length cp,.bool true]/\G=[rowOf A cp (FC m)]/\Q=[]) :=
 Ct.mono (Xe m s hm hok hn G8) λu G Q h=>h.elim (λh=>h.2) (λh=>by omega)
theorem UG(m:GZ)(s:Lie)(hm:FT m)(hok:IX m)(hn:0<=m.Ez/\m.Ez<18446744073709551616)(G8:m.log.length<100000)(hf:¬(FC m).length<=16777216):Ct Tryz.prog 42 [Ip m s] [] (H9 m s)
  (λu G Q=>(∃A n cp,u=.tuple #[.slice A n cp,.bool false])/\G=[]/\Q=[]) :=
 Ct.mono (Xe m s hm hok hn G8) λu G Q h=>h.elim (λh=>by omega) (λh=>h.2)
theorem ZQ(m:GZ)(s:Lie)(hm:FT m)(h:IX m):Ct Tryz.prog 41 [Ip m s] [] (H9 m s) (λu G Q=>u=.int .i64 0/\G=[]/\Q=[]):=by
 have:=YF m s hm;rw[OV h] at this;exact this
theorem wchko_no(m:GZ)(s:Lie)(hm:FT m)(h:¬IX m):Ct Tryz.prog 41 [Ip m s] [] (H9 m s) (λu G Q=>u=.int .i64 160/\G=[]/\Q=[]):=by
 have:=YF m s hm;rw[QX h] at this;exact this
def FW(m:GZ):Int×List UInt8:=if IX m then (if (FC m).length<=16777216 then (0,HY (FC m)) else (2,[])) else (160,[])
abbrev EncO(e:Int)(F:List UInt8)(u:Value)(G:List Own)(Q:List D7):Prop:=∃A cp,F.length<=cp/\cp<=9223372036854775807/\u=.tuple #[.slice A F.length cp,.int .i64 e]/\G=[rowOf A cp F]/\Q=[]
theorem oQ(m:GZ)(s:Lie)(hm:FT m)(h:¬IX m):Ct Tryz.prog 21 [Ip m s] [] (H9 m s) (EncO 160 []):=by
 refine Ct.intro Tryz.func21 rfl rfl rfl (λc hc=>?_)
 refine AX ?_;refine GL.step rfl (Ee rfl rfl rfl) (Aa λIJ=>?_);refine AL 2 ?_;refine AB ?_;refine AX ?_;refine Az 0 28 ?_;refine Ah Tryz.call41 [] (up 0 8) rfl rfl rfl (by exact wchko_no m s hm h) ?_
 rintro _ _ _ ⟨rfl,rfl,rfl⟩
 refine AL 1 ?_;refine AP 2 ?_;refine AU rfl ?_;refine AP 3 ?_;refine GC.Hu 5 1 ?_;refine GC.ret (BR 2 3 [0] [] ?_)
 exact⟨none,0,by simp,by simp,rfl,rfl,rfl⟩
theorem wenco_ok(m:GZ)(s:Lie)(hm:FT m)(hn:0<=m.Ez/\m.Ez<18446744073709551616)(G8:m.log.length<100000)(h:IX m)(hf:(FC m).length<=16777216):Ct Tryz.prog 21 [Ip m s] [] (H9 m s) (EncO 0 (HY (FC m))):=by
 refine Ct.intro Tryz.func21 rfl rfl rfl (λc hc=>?_)
 refine AX ?_;refine GL.step rfl (Ee rfl rfl rfl) (Aa λIJ=>?_);refine AL 2 ?_;refine AB ?_;refine AX ?_;refine Az 0 28 ?_;refine Ah Tryz.call41 [] (up 0 8) rfl rfl rfl (by exact ZQ m s hm h) ?_
 rintro _ _ _ ⟨rfl,rfl,rfl⟩
 refine AL 1 ?_;refine AP 2 ?_;refine AY rfl ?_
 refine GC.skip (?_:GC _ _ _ _)
 refine AX ?_;refine Az 0 28 ?_;refine Ah Tryz.call42 [] (up 0 8) rfl rfl rfl (by exact Xd m s hm h hn G8 hf) ?_
 rintro _ _ _ ⟨A14,XA,l14,k14,rfl,rfl,rfl⟩
 refine AL 5 ?_;refine AB ?_;refine AP 2 ?_;refine AY rfl ?_
 refine GC.skip (?_:GC _ _ _ _)
 refine AX ?_;refine GL.EN (i:=0) rfl ?_;refine AA 1 ?_;refine AO rfl (ED H6 JA rfl rfl) ?_;refine Ah Tryz.call43 [] [0] rfl rfl rfl (by exact qx _ (FC m) _ hf) ?_
 rintro _ _ _ ⟨A21,cp21,iG,k21,rfl,rfl,rfl⟩
 refine AL 4 ?_;refine GC.ret (BR 2 3 [0] [] ?_)
 exact⟨_,_,iG,k21,rfl,rfl,rfl⟩
theorem dV(m:GZ)(s:Lie)(hm:FT m)(hn:0<=m.Ez/\m.Ez<18446744073709551616)(G8:m.log.length<100000)(h:IX m)(hf:¬(FC m).length<=16777216):Ct Tryz.prog 21 [Ip m s] [] (H9 m s) (EncO 2 []):=by
 refine Ct.intro Tryz.func21 rfl rfl rfl (λc hc=>?_)
 refine AX ?_;refine GL.step rfl (Ee rfl rfl rfl) (Aa λIJ=>?_);refine AL 2 ?_;refine AB ?_;refine AX ?_;refine Az 0 28 ?_;refine Ah Tryz.call41 [] (up 0 8) rfl rfl rfl (by exact ZQ m s hm h) ?_
 rintro _ _ _ ⟨rfl,rfl,rfl⟩
 refine AL 1 ?_;refine AP 2 ?_;refine AY rfl ?_
 refine GC.skip (?_:GC _ _ _ _)
 refine AX ?_;refine Az 0 28 ?_;refine Ah Tryz.call42 [] (up 0 8) rfl rfl rfl (by exact UG m s hm h hn G8 hf) ?_
 rintro _ _ _ ⟨⟨A14,n14,XA,rfl⟩,rfl,rfl⟩
 refine AL 5 ?_;refine AB ?_;refine AP 2 ?_;refine AU rfl ?_;refine AP 2 ?_;refine GC.Hu 5 1 ?_;refine GC.ret (BR 2 3 [0] [] ?_)
 exact⟨none,0,by simp,by simp,rfl,rfl,rfl⟩
theorem OI(m:GZ)(s:Lie)(hm:FT m)(hn:0<=m.Ez/\m.Ez<18446744073709551616)(G8:m.log.length<100000):Ct Tryz.prog 21 [Ip m s] [] (H9 m s) (EncO (FW m).1 (FW m).2):=by
 by_cases h:IX m
 ·by_cases hf:(FC m).length<=16777216
  ·rw[show FW m=(0,HY (FC m)) by rw[FW,if_pos h,if_pos hf]];exact wenco_ok m s hm hn G8 h hf
  ·rw[show FW m=(2,[]) by rw[FW,if_pos h,if_neg hf]];exact dV m s hm hn G8 h hf
 ·rw[show FW m=(160,[]) by rw[FW,if_neg h]];exact oQ m s hm h
theorem nonceo_of{m:GZ}(h:lJ m):0<=m.Ez/\m.Ez<18446744073709551616:=by
 have:=h.2.2.2.2.2.2.2.2.1
 simp[Lit.wf] at this
 have e1:IntKind.u64.min=0:=by decide
 have e2:IntKind.u64.max=18446744073709551615:=by decide
 omega
end Go.Proofs.YtliacpkblicnhaaGreat
namespace Go.Proofs.YtliacpkblicnhaaGreat
open Go Go.Sx Go.Proofs
section
variable (p:Nat)(z:Int)(a b:Int)
theorem ou(P:Value)(d s:Int)(M:Value)(m:GZ)(l:Lie)(hm:FT m)(hn:0<=m.Ez/\m.Ez<18446744073709551616)(G8:m.log.length<100000)(hE:(FW m).1≠0):Ct Tryz.prog 10 [.pointer (some ⟨p,0,none⟩),Ip m l] [Ey p d s z P M a b] (H9 m l) (λv G Q=>v=.int .i64 (FW m).1/\G=[Ey p d s z P M a b]/\Q=[]):=by
 refine Ct.intro Tryz.func10 rfl rfl rfl (λc hc=>?_)
 refine AX ?_;refine GL.step rfl (Ee rfl rfl rfl) (Aa λFQ=>?_);refine AL 1 ?_;refine AB ?_;refine AV 1 ?_;refine AO rfl (Gh Tryz.underlying87 rfl rfl) ?_;refine Ap ?_;refine AY rfl ?_
 refine GC.skip (?_:GC _ _ _ _)
 refine AX ?_;refine Az 0 28 ?_;refine Ah Tryz.call21 [] (up 0 8) rfl rfl rfl (by exact OI m l hm hn G8) ?_
 rintro _ _ _ ⟨A11,cu,l11,k11,rfl,rfl,rfl⟩
 refine AL 5 ?_;refine AB ?_;refine AP 2 ?_;refine Af ?_ ?_
 ·intro h1;try simp only[D6] at h1
  refine AP 2 ?_;refine GC.ret (AQ 4 [2] [] ?_)
  exact⟨rfl,rfl,rfl⟩
 intro h1;try simp only[D6] at h1
 exfalso;first|exact hE (Decidable.not_not.1 h1)|exact hE h1|exact hE (by simpa using h1)
end
end Go.Proofs.YtliacpkblicnhaaGreat
namespace Go.Proofs.YtliacpkblicnhaaGreat
open Go Go.Sx Go.Proofs
theorem rH{m:GZ}(h:(FW m).1=0):IX m/\(FC m).length<=16777216/\(FW m).2=HY (FC m):=by
 unfold FW at h ⊢
 split at h
 ·split at h
  ·rename_i h1 h2
   exact⟨h1,h2,by rw[if_pos h1,if_pos h2]⟩
  ·cases h
 ·cases h
theorem nomem{q:Int×Int}:decide (q∈([]:List (Int×Int)))=false:=by simp
end Go.Proofs.YtliacpkblicnhaaGreat
namespace Go.Proofs.YtliacpkblicnhaaGreat
open Go Go.Sx Go.Proofs
section
variable (p:Nat)(a b:Int)
theorem mX(z:Int)(P:Value)(s:Int)(m:Nat)(i j:Int):Ct Tryz.prog 20 [.pointer (some ⟨p,0,none⟩),.int .i64 i,.int .i64 j] [Ey p 1 s z P (.map (some m)) a b,.blk m (.map #[] 0)] [] (λv G Q=>v=.bool false/\G=[Ey p 1 s z P (.map (some m)) a b,.blk m (.map #[] 0)]/\Q=[]) :=
 Ct.mono (iI p z P a b s m #[] 0 [] i j lk0) λu G Q h=>⟨h.1.trans (by rw[nomem]),h.2⟩
theorem Yr(z:Int)(P:Value)(s:Int)(m:Nat)(es:Array MapEntry)(ck:Nat)(T:List (Int×Int))(i j:Int)(hT:NV T es.toList)(t:Bool)(ht:decide ((i,j)∈T)=t):Ct Tryz.prog 20 [.pointer (some ⟨p,0,none⟩),.int .i64 i,.int .i64 j] [Ey p 1 s z P (.map (some m)) a b,.blk m (.map es ck)] [] (λv G Q=>v=.bool t/\G=[Ey p 1 s z P (.map (some m)) a b,.blk m (.map es ck)]/\Q=[]):=by
 subst ht;exact iI p z P a b s m es ck T i j hT
theorem eG(m:GZ)(l:Lie)(hm:FT m)(hn:0<=m.Ez/\m.Ez<18446744073709551616)(G8:m.log.length<100000)(hE:(FW m).1=0)(ha:-4611686018427387904<=a/\a<=4611686018427387904)(hb:-4611686018427387904<=b/\b<=4611686018427387904)(A:Option Addr)(k cp:Nat)(hk:4096<=k):Ct Tryz.prog 10 [.pointer (some ⟨p,0,none⟩),Ip m l] [Ey p 0 0 0 (.slice A k cp) (.map none) a b] (H9 m l) (λv G Q=>∃mp,v=.int .i64 0/\G=[Ey p 1 0 0 (.slice A k cp) (.map (some mp)) (a+1) (b+1),.blk mp (.map #[] 0)]/\Q=[]):=by
 refine Ct.intro Tryz.func10 rfl rfl rfl (λc hc=>?_)
 refine AX ?_;refine GL.step rfl (Ee rfl rfl rfl) (Aa λFQ=>?_);refine AL 1 ?_;refine AB ?_;refine AV 1 ?_;refine AO rfl (Gh Tryz.underlying87 rfl rfl) ?_;refine Ap ?_;refine AY rfl ?_
 refine GC.skip (?_:GC _ _ _ _)
 refine AX ?_;refine Az 0 28 ?_;refine Ah Tryz.call21 [] (up 0 8) rfl rfl rfl (by exact OI m l hm hn G8) ?_
 rintro _ _ _ ⟨A11,cu,l11,k11,rfl,rfl,rfl⟩
 refine AL 5 ?_;refine AB ?_;refine AP 2 ?_;refine Af ?_ ?_
 ·intro h1;try simp only[D6] at h1
  exfalso;first|exact h1 hE|exact absurd hE h1
 intro h1;try simp only[D6] at h1
 refine GC.skip (?_:GC _ _ _ _)
 refine AV 1 ?_;refine Ah Tryz.call22 [2] [] rfl rfl rfl (by exact RP _ _ _ _ _ _) ?_
 rintro _ _ _ ⟨m18,rfl,rfl,rfl⟩
 refine AA 2 ?_;refine Ah Tryz.call23 [0] [] rfl rfl rfl (by exact Sj _ _ _ _ _ _ _ _ ha) ?_
 rintro _ _ _ ⟨rfl,rfl,rfl⟩
 refine Ap ?_;refine AB ?_;refine AV 2 ?_;refine Ad 3 ?_;refine AA 1 ?_;refine Ad 3 ?_;refine Ah Tryz.call20 [0,0] [] rfl rfl rfl (by exact mX _ _ _ _ _ _ _ _ _) ?_
 rintro _ _ _ ⟨rfl,rfl,rfl⟩
 refine AA 4 ?_;refine Aj 0 ?_;refine AL 3 ?_;refine Af ?_ ?_
 ·intro h2;try simp only[D6] at h2
  refine AV 3 ?_;refine Ah Tryz.call23 [0] [] rfl rfl rfl (by exact ZE _ _ _ _ _ _ _ _ hb) ?_
  rintro _ _ _ ⟨rfl,rfl,rfl⟩
  refine BL 1 ?_;refine Ap ?_;refine GC.ret (AQ 4 [0,0] [] ?_)
  exact⟨_,rfl,rfl,rfl⟩
 intro h2;try simp only[D6] at h2
 exfalso;omega
theorem pF(m:GZ)(l:Lie)(hm:FT m)(hn:0<=m.Ez/\m.Ez<18446744073709551616)(G8:m.log.length<100000)(hE:(FW m).1=0)(ha:-4611686018427387904<=a/\a<=4611686018427387904)(hb:-4611686018427387904<=b/\b<=4611686018427387904)(A:Option Addr)(r:List Pk)(cp:Nat)(hk:r.length<4096):Ct Tryz.prog 10 [.pointer (some ⟨p,0,none⟩),Ip m l] [Ey p 0 0 0 (.slice A r.length cp) (.map none) a b,rowP A cp r] (H9 m l) (λv G Q=>∃mp A' cp' Ae ce,v=.int .i64 0/\G=[Ey p 1 0 0 (.slice A' (r.length+1) cp') (.map (some mp)) (a+1) b,.blk mp (.map #[] 0),.row (.slice A' (r.length+1) cp') 102 2 (r.length+1) (K_ r++[.slice Ae (FW m).2.length ce,.bool false]),rowOf Ae ce (FW m).2]/\Q=[]):=by
 refine Ct.intro Tryz.func10 rfl rfl rfl (λc hc=>?_)
 refine AX ?_;refine GL.step rfl (Ee rfl rfl rfl) (Aa λFQ=>?_);refine AL 1 ?_;refine AB ?_;refine AV 1 ?_;refine AO rfl (Gh Tryz.underlying87 rfl rfl) ?_;refine Ap ?_;refine AY rfl ?_
 refine GC.skip (?_:GC _ _ _ _)
 refine AX ?_;refine Az 0 28 ?_;refine Ah Tryz.call21 [] (up 0 8) rfl rfl rfl (by exact OI m l hm hn G8) ?_
 rintro _ _ _ ⟨A11,cu,l11,k11,rfl,rfl,rfl⟩
 refine AL 5 ?_;refine AB ?_;refine AP 2 ?_;refine Af ?_ ?_
 ·intro h1;try simp only[D6] at h1
  exfalso;first|exact h1 hE|exact absurd hE h1
 intro h1;try simp only[D6] at h1
 refine GC.skip (?_:GC _ _ _ _)
 refine AV 1 ?_;refine Ah Tryz.call22 [2] [] rfl rfl rfl (by exact RP _ _ _ _ _ _) ?_
 rintro _ _ _ ⟨m18,rfl,rfl,rfl⟩
 refine AA 2 ?_;refine Ah Tryz.call23 [0] [] rfl rfl rfl (by exact Sj _ _ _ _ _ _ _ _ ha) ?_
 rintro _ _ _ ⟨rfl,rfl,rfl⟩
 refine Ap ?_;refine AB ?_;refine AV 2 ?_;refine Ad 3 ?_;refine AA 1 ?_;refine Ad 3 ?_;refine Ah Tryz.call20 [0,0] [] rfl rfl rfl (by exact mX _ _ _ _ _ _ _ _ _) ?_
 rintro _ _ _ ⟨rfl,rfl,rfl⟩
 refine AA 4 ?_;refine Aj 0 ?_;refine AL 3 ?_;refine Af ?_ ?_
 ·intro h2;try simp only[D6] at h2
  exfalso;omega
 intro h2;try simp only[D6] at h2
 refine GC.skip (?_:GC _ _ _ _)
 refine AV 4 ?_;refine Ad 0 ?_;refine AA 1 ?_;refine AO rfl (ED VE of_102 rfl rfl) ?_;refine GL.step rfl (EC rfl Tryz.underlying36 Mc VE rfl rfl rfl rfl rfl rfl) (Aa λnZ=>?_)
 refine GL.step rfl (Eh (i:=5) (k:=0) rfl el_36 rfl rfl rfl rfl rfl (EX rfl) (by omega) (λ_=>rfl)) (Aa λv48=>?_);refine GL.shape (i:=5) rfl (λA_v48 c_v48 e_v48 l_v48 k_v48=>?_)
 subst e_v48
 refine AA 2 ?_;refine BI 1 ?_;refine BL 1 ?_;refine Ap ?_;refine GC.ret (AQ 4 [1,1,3,1] [] ?_)
 exact⟨_,_,_,_,_,rfl,rfl,rfl⟩
theorem o_(m:GZ)(l:Lie)(hm:FT m)(hn:0<=m.Ez/\m.Ez<18446744073709551616)(G8:m.log.length<100000)(hE:(FW m).1=0)(ha:-4611686018427387904<=a/\a<=4611686018427387904)(hb:-4611686018427387904<=b/\b<=4611686018427387904)(P:Value)(mp:Nat)(es:Array MapEntry)(ck:Nat)(T:List (Int×Int))(hT:NV T es.toList)(hk:(m.src,m.dst)∈T):Ct Tryz.prog 10 [.pointer (some ⟨p,0,none⟩),Ip m l] [Ey p 1 0 0 P (.map (some mp)) a b,.blk mp (.map es ck)] (H9 m l) (λv G Q=>v=.int .i64 0/\G=[Ey p 1 0 0 P (.map (some mp)) (a+1) (b+1),.blk mp (.map es ck)]/\Q=[]):=by
 refine Ct.intro Tryz.func10 rfl rfl rfl (λc hc=>?_)
 refine AX ?_;refine GL.step rfl (Ee rfl rfl rfl) (Aa λFQ=>?_);refine AL 1 ?_;refine AB ?_;refine AV 1 ?_;refine AO rfl (Gh Tryz.underlying87 rfl rfl) ?_;refine Ap ?_;refine AY rfl ?_
 refine GC.skip (?_:GC _ _ _ _)
 refine AX ?_;refine Az 0 28 ?_;refine Ah Tryz.call21 [] (up 0 8) rfl rfl rfl (by exact OI m l hm hn G8) ?_
 rintro _ _ _ ⟨A11,cu,l11,k11,rfl,rfl,rfl⟩
 refine AL 5 ?_;refine AB ?_;refine AP 2 ?_;refine Af ?_ ?_
 ·intro h1;try simp only[D6] at h1
  exfalso;first|exact h1 hE|exact absurd hE h1
 intro h1;try simp only[D6] at h1
 refine GC.skip (?_:GC _ _ _ _)
 refine AV 1 ?_;refine Ah Tryz.call22 [2] [] rfl rfl rfl (by exact OL _ _ _ _ _ _ _) ?_
 rintro _ _ _ ⟨rfl,rfl,rfl⟩
 refine AA 2 ?_;refine Ah Tryz.call23 [0] [] rfl rfl rfl (by exact Sj _ _ _ _ _ _ _ _ ha) ?_
 rintro _ _ _ ⟨rfl,rfl,rfl⟩
 refine Ap ?_;refine AB ?_;refine AV 2 ?_;refine Ad 2 ?_;refine AA 1 ?_;refine Ad 2 ?_;refine Ah Tryz.call20 [0,2] [] rfl rfl rfl (by exact Yr _ _ _ _ _ _ _ _ _ _ _ _ hT true (decide_eq_true hk)) ?_
 rintro _ _ _ ⟨rfl,rfl,rfl⟩
 refine AL 8 ?_;refine AU rfl ?_;refine AV 3 ?_;refine Ah Tryz.call23 [0] [] rfl rfl rfl (by exact ZE _ _ _ _ _ _ _ _ hb) ?_
 rintro _ _ _ ⟨rfl,rfl,rfl⟩
 refine BL 1 ?_;refine Ap ?_;refine GC.ret (AQ 4 [0,0] [] ?_)
 exact⟨rfl,rfl,rfl⟩
theorem eF(m:GZ)(l:Lie)(hm:FT m)(hn:0<=m.Ez/\m.Ez<18446744073709551616)(G8:m.log.length<100000)(hE:(FW m).1=0)(ha:-4611686018427387904<=a/\a<=4611686018427387904)(hb:-4611686018427387904<=b/\b<=4611686018427387904)(A:Option Addr)(k cp:Nat)(mp:Nat)(es:Array MapEntry)(ck:Nat)(T:List (Int×Int))(hT:NV T es.toList)(hx:(m.src,m.dst) ∉ T)(hk:4096<=k):Ct Tryz.prog 10 [.pointer (some ⟨p,0,none⟩),Ip m l] [Ey p 1 0 0 (.slice A k cp) (.map (some mp)) a b,.blk mp (.map es ck)] (H9 m l) (λv G Q=>v=.int .i64 0/\G=[Ey p 1 0 0 (.slice A k cp) (.map (some mp)) (a+1) (b+1),.blk mp (.map es ck)]/\Q=[]):=by
 refine Ct.intro Tryz.func10 rfl rfl rfl (λc hc=>?_)
 refine AX ?_;refine GL.step rfl (Ee rfl rfl rfl) (Aa λFQ=>?_);refine AL 1 ?_;refine AB ?_;refine AV 1 ?_;refine AO rfl (Gh Tryz.underlying87 rfl rfl) ?_;refine Ap ?_;refine AY rfl ?_
 refine GC.skip (?_:GC _ _ _ _)
 refine AX ?_;refine Az 0 28 ?_;refine Ah Tryz.call21 [] (up 0 8) rfl rfl rfl (by exact OI m l hm hn G8) ?_
 rintro _ _ _ ⟨A11,cu,l11,k11,rfl,rfl,rfl⟩
 refine AL 5 ?_;refine AB ?_;refine AP 2 ?_;refine Af ?_ ?_
 ·intro h1;try simp only[D6] at h1
  exfalso;first|exact h1 hE|exact absurd hE h1
 intro h1;try simp only[D6] at h1
 refine GC.skip (?_:GC _ _ _ _)
 refine AV 1 ?_;refine Ah Tryz.call22 [2] [] rfl rfl rfl (by exact OL _ _ _ _ _ _ _) ?_
 rintro _ _ _ ⟨rfl,rfl,rfl⟩
 refine AA 2 ?_;refine Ah Tryz.call23 [0] [] rfl rfl rfl (by exact Sj _ _ _ _ _ _ _ _ ha) ?_
 rintro _ _ _ ⟨rfl,rfl,rfl⟩
 refine Ap ?_;refine AB ?_;refine AV 2 ?_;refine Ad 2 ?_;refine AA 1 ?_;refine Ad 2 ?_;refine Ah Tryz.call20 [0,2] [] rfl rfl rfl (by exact Yr _ _ _ _ _ _ _ _ _ _ _ _ hT false (decide_eq_false hx)) ?_
 rintro _ _ _ ⟨rfl,rfl,rfl⟩
 refine AA 4 ?_;refine Aj 0 ?_;refine AL 3 ?_;refine Af ?_ ?_
 ·intro h2;try simp only[D6] at h2
  refine AV 3 ?_;refine Ah Tryz.call23 [0] [] rfl rfl rfl (by exact ZE _ _ _ _ _ _ _ _ hb) ?_
  rintro _ _ _ ⟨rfl,rfl,rfl⟩
  refine BL 1 ?_;refine Ap ?_;refine GC.ret (AQ 4 [0,0] [] ?_)
  exact⟨rfl,rfl,rfl⟩
 intro h2;try simp only[D6] at h2
 exfalso;omega
theorem oz(m:GZ)(l:Lie)(hm:FT m)(hn:0<=m.Ez/\m.Ez<18446744073709551616)(G8:m.log.length<100000)(hE:(FW m).1=0)(ha:-4611686018427387904<=a/\a<=4611686018427387904)(hb:-4611686018427387904<=b/\b<=4611686018427387904)(A:Option Addr)(r:List Pk)(cp:Nat)(mp:Nat)(es:Array MapEntry)(ck:Nat)(T:List (Int×Int))(hT:NV T es.toList)(hx:(m.src,m.dst) ∉ T)(hk:r.length<4096):Ct Tryz.prog 10 [.pointer (some ⟨p,0,none⟩),Ip m l] [Ey p 1 0 0 (.slice A r.length cp) (.map (some mp)) a b,.blk mp (.map es ck),rowP A cp r] (H9 m l) (λv G Q=>∃A' cp' Ae ce,v=.int .i64 0/\G=[Ey p 1 0 0 (.slice A' (r.length+1) cp') (.map (some mp)) (a+1) b,.blk mp (.map es ck),.row (.slice A' (r.length+1) cp') 102 2 (r.length+1) (K_ r++[.slice Ae (FW m).2.length ce,.bool false]),rowOf Ae ce (FW m).2]/\Q=[]):=by
 refine Ct.intro Tryz.func10 rfl rfl rfl (λc hc=>?_)
 refine AX ?_;refine GL.step rfl (Ee rfl rfl rfl) (Aa λFQ=>?_);refine AL 1 ?_;refine AB ?_;refine AV 1 ?_;refine AO rfl (Gh Tryz.underlying87 rfl rfl) ?_;refine Ap ?_;refine AY rfl ?_
 refine GC.skip (?_:GC _ _ _ _)
 refine AX ?_;refine Az 0 28 ?_;refine Ah Tryz.call21 [] (up 0 8) rfl rfl rfl (by exact OI m l hm hn G8) ?_
 rintro _ _ _ ⟨A11,cu,l11,k11,rfl,rfl,rfl⟩
 refine AL 5 ?_;refine AB ?_;refine AP 2 ?_;refine Af ?_ ?_
 ·intro h1;try simp only[D6] at h1
  exfalso;first|exact h1 hE|exact absurd hE h1
 intro h1;try simp only[D6] at h1
 refine GC.skip (?_:GC _ _ _ _)
 refine AV 1 ?_;refine Ah Tryz.call22 [2] [] rfl rfl rfl (by exact OL _ _ _ _ _ _ _) ?_
 rintro _ _ _ ⟨rfl,rfl,rfl⟩
 refine AA 2 ?_;refine Ah Tryz.call23 [0] [] rfl rfl rfl (by exact Sj _ _ _ _ _ _ _ _ ha) ?_
 rintro _ _ _ ⟨rfl,rfl,rfl⟩
 refine Ap ?_;refine AB ?_;refine AV 2 ?_;refine Ad 2 ?_;refine AA 1 ?_;refine Ad 2 ?_;refine Ah Tryz.call20 [0,2] [] rfl rfl rfl (by exact Yr _ _ _ _ _ _ _ _ _ _ _ _ hT false (decide_eq_false hx)) ?_
 rintro _ _ _ ⟨rfl,rfl,rfl⟩
 refine AA 4 ?_;refine Aj 0 ?_;refine AL 3 ?_;refine Af ?_ ?_
 ·intro h2;try simp only[D6] at h2
  exfalso;omega
 intro h2;try simp only[D6] at h2
 refine GC.skip (?_:GC _ _ _ _)
 refine AV 4 ?_;refine Ad 0 ?_;refine AA 1 ?_;refine AO rfl (ED VE of_102 rfl rfl) ?_;refine GL.step rfl (EC rfl Tryz.underlying36 Mc VE rfl rfl rfl rfl rfl rfl) (Aa λnZ=>?_)
 refine GL.step rfl (Eh (i:=5) (k:=0) rfl el_36 rfl rfl rfl rfl rfl (EX rfl) (by omega) (λ_=>rfl)) (Aa λv48=>?_);refine GL.shape (i:=5) rfl (λA_v48 c_v48 e_v48 l_v48 k_v48=>?_)
 subst e_v48
 refine AA 2 ?_;refine BI 1 ?_;refine BL 1 ?_;refine Ap ?_;refine GC.ret (AQ 4 [1,1,3,1] [] ?_)
 exact⟨_,_,_,_,rfl,rfl,rfl⟩
end
end Go.Proofs.YtliacpkblicnhaaGreat
namespace Go.Proofs.YtliacpkblicnhaaGreat
open Go Go.Sx Go.Proofs
structure NX where
 ps:List KF
 T:List (Int×Int)
 sent:Int
 lost:Int
structure NY where
 d:Int
 A:Option Addr
 cp:Nat
 l:List Pk
 M:Value
 mp:List Own
def LinkS(d:Int)(M:Value)(mp:List Own)(T:List (Int×Int)):Prop:=(d=0/\M=.map none/\mp=[]/\T=[])\/∃m es ck,d=1/\M=.map (some m)/\mp=[.blk m (.map es ck)]/\NV T es.toList
def DY(x:NX)(y:NY):Prop:=y.l.map sZ=x.ps/\LinkS y.d y.M y.mp x.T
abbrev Dw(p:Nat)(x:NX)(y:NY):List Own:=Ey p y.d 0 0 (.slice y.A y.l.length y.cp) y.M x.sent x.lost::(y.mp++(rowP y.A y.cp y.l::y.l.map qO))
def JK(p:Nat)(K:List Nat)(x:NX):Own:=Own.some K (λy:{y:NY // DY x y}=>Dw p x y.1)
theorem net_open{p:Nat}{K:List Nat}{x:NX}{R:List Own}(w:World)(h:∀o∈JK p K x::R,o.holds w):∃y,DY x y/\J3 (Dw p x y++R) (JK p K x::R)/\∀o∈Dw p x y++R,o.holds w:=by
 obtain⟨y,hk,ho⟩:=h _ (List.mem_cons_self ..)
 exact⟨y.1,y.2,J3.eq (by rw[EY,KC,hk];rfl),Tf.2 ⟨ho,λo hm=>h o (List.mem_cons_of_mem _ hm)⟩⟩
def RG(H' H:List Own):Prop:=J3 H' H/\∀w,(∀o∈H,o.holds w)->∀o∈H',o.holds w
theorem RG.perm{H' H L:List Own}(h:H.Perm (H'++L)):RG H' H :=
 ⟨J3.of (keysOf L) (by rw[<-EY];exact List.Perm.flatMap_right Own.keys h),λw ho o hm=>ho o (h.mem_iff.2 (List.mem_append_left _ hm))⟩
theorem RG.trans{A B C:List Own}(h:RG A B)(g:RG B C):RG A C:=by
 obtain⟨⟨l,h1⟩,h2⟩:=h
 obtain⟨⟨m,g1⟩,g2⟩:=g
 exact⟨⟨l++m,g1.trans (by rw[<-List.append_assoc];exact h1.append (List.Perm.refl _))⟩,λw ho=>h2 w (g2 w ho)⟩
theorem RG.one{o o':Own}(R:List Own)(hk:o'.keys=o.keys)(hh:∀w,o.holds w->o'.holds w):RG (o'::R) (o::R) :=
 ⟨J3.eq (by rw[KC,KC,hk]),λw ho x hx=>(List.mem_cons.1 hx).elim (λe=>e▸hh w (ho _ (List.mem_cons_self ..))) (λhx=>ho x (List.mem_cons_of_mem _ hx))⟩
theorem RG.cons{A B:List Own}(o:Own)(h:RG A B):RG (o::A) (o::B):=by
 obtain⟨⟨l,h1⟩,h2⟩:=h
 refine⟨⟨l,?_⟩,λw ho x hx=>(List.mem_cons.1 hx).elim (λe=>e▸ho _ (List.mem_cons_self ..)) (λhx=>h2 w (λo hm=>ho o (List.mem_cons_of_mem _ hm)) x hx)⟩
 rw[KC,KC,List.append_assoc]
 exact(List.Perm.refl _).append h1
def NetP(p:Nat)(R:Value->NX->List Own->Prop)(v:Value)(H:List Own)(Q:List D7):Prop:=∃x y E,R v x E/\DY x y/\RG (Dw p x y++E) H/\Q=[]
theorem DR{P:Program}{f:FuncId}{args:List Value}{Q:List D7}{p:Nat}{K:List Nat}{x:NX}{R:Value->NX->List Own->Prop}(h:∀y,DY x y->Ct P f args (Dw p x y) Q (NetP p R)) :
  Ct P f args [JK p K x] Q (λv G Q'=>∃x' E K',R v x' E/\G=JK p K' x'::E/\Q'=[]):=by
 refine Ct.IK (λw ho=>net_open (R:=[]) w ho) (λy hy=>?_)
 rw[List.append_nil]
 refine Ct.post (h y hy) ?_
 rintro v H Q' ⟨x',y',E,hR,hy',⟨hk,hh⟩,rfl⟩
 have e:keysOf (JK p (keysOf (Dw p x' y')) x'::E)=keysOf (Dw p x' y'++E):=by rw[KC,EY];rfl
 refine⟨_,⟨x',E,keysOf (Dw p x' y'),hR,rfl,rfl⟩,?_,λw ho o hm=>?_⟩
 ·obtain⟨l,hk⟩:=hk
  exact⟨l,by rw[e];exact hk⟩
 ·have hw:=Tf.1 (hh w ho)
  rcases List.mem_cons.1 hm with rfl|hm
  ·exact⟨⟨y',hy'⟩,rfl,hw.1⟩
  ·exact hw.2 o hm
theorem Ct.permG{P:Program}{f:FuncId}{args:List Value}{G H:List Own}{Q:List D7}{R:Value->List Own->List D7->Prop}(hp:G.Perm H)(h:Ct P f args H Q R):Ct P f args G Q R :=
 Ct.IK (F:=λ_:Unit=>H) (p:=λ_=>True) (λw ho=>⟨(),trivial,J3.of [] (by rw[List.append_nil];exact List.Perm.flatMap_right Own.keys hp),λo hm=>ho o (hp.mem_iff.2 hm)⟩) λ_ _=>h
theorem CB{P:Program}{f:FuncId}{args:List Value}{Q:List D7}{p:Nat}{G G0 Gr:List Own}{R:Value->NX->List Own->Prop}{R0:Value->List Own->List D7->Prop}(hp:G.Perm (G0++Gr))(h:Ct P f args G0 Q R0)
  (hr:∀v H Q',R0 v H Q'->∃x y E,R v x E/\DY x y/\RG (Dw p x y++E) (H++Gr)/\Q'=[]):Ct P f args G Q (NetP p R) :=
 Ct.permG hp (Ct.mono (Ct.frame h Gr) λv G' Q' ⟨H,h1,h2⟩=>by subst h2;exact hr v H Q' h1)
def NX.at(x:NX)(i:Int):Int:=if 0<=i/\i<x.ps.length then 0 else 5
def NX.drop(x:NX)(i:Int):NX:=if 0<=i/\i<x.ps.length then { x with ps:=x.ps.eraseIdx i.toNat } else x
def NX.cut(x:NX)(i j:Int)(on:Bool):NX:={ x with T:=if on then O9 x.T (i,j) else x.T.erase (i,j) }
def NX.send(x:NX)(m:GZ):NX:=if (FW m).1=0 then (if (m.src,m.dst)∈x.T\/4096<=x.ps.length then { x with sent:=x.sent+1,lost:=x.lost+1 } else { x with ps:=x.ps++[⟨(FW m).2,false⟩],sent:=x.sent+1 }) else x
def NX.Ib(x:NX)(i at_:Int)(mk:UInt8):Int×NX:=if 0<=i/\i<x.ps.length/\0<=at_/\at_<(gt x.ps i).b.length then (if (gt x.ps i).bad then (230,x) else (0,{ x with ps:=x.ps.set i.toNat ⟨(gt x.ps i).b.set at_.toNat (gt (gt x.ps i).b at_ ^^^ mk),true⟩ })) else (5,x)
theorem QS{x:NX}{y:NY}(h:DY x y):x.ps.length=y.l.length:=by rw[<-h.1,List.length_map]
theorem rel_gt{x:NX}{y:NY}(h:DY x y){i:Int}(h0:0<=i)(h1:i<(y.l.length:Int)):gt x.ps i=sZ (gt y.l i):=by
 rw[<-h.1]
 unfold gt
 have:i.toNat<y.l.length:=by omega
 simp[List.getD_eq_getElem?_getD,this]
theorem Y0{l:List Pk}{i:Nat}(h:i<l.length):l.Perm (gt l (i:Int)::l.eraseIdx i):=by
 have e:gt l (i:Int)=l[i]:=by unfold gt;simp[List.getD_eq_getElem?_getD,h]
 rw[e,List.eraseIdx_eq_take_drop_succ]
 refine List.Perm.trans ?_ List.perm_middle
 rw[List.getElem_cons_drop,List.take_append_drop]
end Go.Proofs.YtliacpkblicnhaaGreat
namespace Go.Proofs.YtliacpkblicnhaaGreat
open Go Go.Sx Go.Proofs
section
variable (p:Nat)(K:List Nat)(x:NX)
abbrev MK(p:Nat)(u:Value)(x:NX)(v:Value)(G:List Own)(Q:List D7):Prop:=∃K,v=u/\G=[JK p K x]/\Q=[]
theorem MK.of{p:Nat}{u:Value}{x:NX}{v:Value}{G:List Own}{Q:List D7}(h:∃x' E K',(v=u/\x'=x/\E=[])/\G=JK p K' x'::E/\Q=[]):MK p u x v G Q:=by
 obtain⟨_,_,K',⟨rfl,rfl,rfl⟩,h2,h3⟩:=h;exact⟨K',rfl,h2,h3⟩
theorem fF{x:NX}{y:NY}(h:DY x y):RG (Dw p x y++[]) (Dw p x y):=RG.perm (L:=[]) (by rw[List.append_nil,List.append_nil])
theorem lY:Ct Tryz.prog 15 [.pointer (some ⟨p,0,none⟩)] [JK p K x] [] (MK p (.int .i64 x.ps.length) x) :=
 Ct.mono (DR (R:=λv x' E=>v=.int .i64 x.ps.length/\x'=x/\E=[]) λy hy =>
  CB (G0:=[_]) (List.Perm.refl _) (len_ct p 0 x.sent x.lost y.d 0 y.M y.A y.l.length y.cp) λv H Q' ⟨h1,h2,h3⟩=>⟨x,y,[],⟨by rw[h1,QS hy],rfl,rfl⟩,hy,by subst h2;exact fF p hy,h3⟩) λv G Q h=>MK.of h
theorem V4:Ct Tryz.prog 16 [.pointer (some ⟨p,0,none⟩)] [JK p K x] [] (MK p (.tuple #[.int .i64 x.sent,.int .i64 x.lost]) x) :=
 Ct.mono (DR (R:=λv x' E=>v=.tuple #[.int .i64 x.sent,.int .i64 x.lost]/\x'=x/\E=[]) λy hy =>
  CB (G0:=[_]) (List.Perm.refl _) (sF p 0 _ x.sent x.lost y.d 0 y.M) λv H Q' ⟨h1,h2,h3⟩=>⟨x,y,[],⟨h1,rfl,rfl⟩,hy,by subst h2;exact fF p hy,h3⟩) λv G Q h=>MK.of h
theorem gu(i j:Int):Ct Tryz.prog 20 [.pointer (some ⟨p,0,none⟩),.int .i64 i,.int .i64 j] [JK p K x] [] (MK p (.bool (decide ((i,j)∈x.T))) x) :=
 Ct.mono (DR (R:=λv x' E=>v=.bool (decide ((i,j)∈x.T))/\x'=x/\E=[]) λy hy=>by
  obtain⟨d,A,cp,l,M,mp⟩:=y
  obtain⟨hl,hs⟩:=hy
  dsimp only at hl hs
  rcases hs with⟨rfl,rfl,rfl,e4⟩|⟨m,es,ck,rfl,rfl,rfl,hT⟩
  ·refine CB (G0:=[_]) (List.Perm.refl _) (is0_ct p 0 _ x.sent x.lost i j) ?_
   rintro v H Q' ⟨m,rfl,rfl,rfl⟩
   exact⟨x,⟨1,A,cp,l,.map (some m),[.blk m (.map #[] 0)]⟩,[],⟨by rw[e4,nomem],rfl,rfl⟩,⟨hl,.inr ⟨m,#[],0,rfl,rfl,rfl,by rw[e4];exact lk0⟩⟩,RG.perm (L:=[]) (by simp),rfl⟩
  ·refine CB (G0:=[_,_]) (Gr:=rowP A cp l::l.map qO) (List.Perm.refl _) (iI p 0 _ x.sent x.lost 0 m es ck x.T i j hT) ?_
   rintro v H Q' ⟨rfl,rfl,rfl⟩
   exact⟨x,⟨1,A,cp,l,.map (some m),[.blk m (.map es ck)]⟩,[],⟨rfl,rfl,rfl⟩,⟨hl,.inr ⟨m,es,ck,rfl,rfl,rfl,hT⟩⟩,RG.perm (L:=[]) (by simp),rfl⟩) λv G Q h=>MK.of h
theorem mD(i j:Int)(on:Bool)(hi:0<=i/\i<64)(hj:0<=j/\j<64):Ct Tryz.prog 14 [.pointer (some ⟨p,0,none⟩),.int .i64 i,.int .i64 j,.bool on] [JK p K x] [] (MK p (.int .i64 0) (x.cut i j on)) :=
 Ct.mono (DR (R:=λv x' E=>v=.int .i64 0/\x'=x.cut i j on/\E=[]) λy hy=>by
  obtain⟨d,A,cp,l,M,mp⟩:=y
  obtain⟨hl,hs⟩:=hy
  dsimp only at hl hs
  rcases hs with⟨rfl,rfl,rfl,e4⟩|⟨m,es,ck,rfl,rfl,rfl,hT⟩
  ·refine CB (G0:=[_]) (List.Perm.refl _) (cut0_ct p 0 _ x.sent x.lost i j on hi hj) ?_
   rintro v H Q' ⟨m,es,ck,hT,rfl,rfl,rfl⟩
   refine⟨x.cut i j on,⟨1,A,cp,l,.map (some m),[.blk m (.map es ck)]⟩,[],⟨rfl,rfl,rfl⟩,⟨hl,.inr ⟨m,es,ck,rfl,rfl,rfl,?_⟩⟩,RG.perm (L:=[]) (by simp[NX.cut]),rfl⟩
   show NV (if on then O9 x.T (i,j) else x.T.erase (i,j)) es.toList
   rw[e4]
   cases on<;>simpa[O9] using hT
  ·refine CB (G0:=[_,_]) (Gr:=rowP A cp l::l.map qO) (List.Perm.refl _) (cut1_ct p 0 _ x.sent x.lost 0 m es ck x.T i j on hT hi hj) ?_
   rintro v H Q' ⟨es',Nv,hT',rfl,rfl,rfl⟩
   exact⟨x.cut i j on,⟨1,A,cp,l,.map (some m),[.blk m (.map es' Nv)]⟩,[],⟨rfl,rfl,rfl⟩,⟨hl,.inr ⟨m,es',Nv,rfl,rfl,rfl,hT'⟩⟩,RG.perm (L:=[]) (by simp[NX.cut]),rfl⟩) λv G Q h=>MK.of h
theorem ncutx_ct(i j:Int)(on:Bool)(h:¬((0<=i/\i<64)/\0<=j/\j<64)):Ct Tryz.prog 14 [.pointer (some ⟨p,0,none⟩),.int .i64 i,.int .i64 j,.bool on] [JK p K x] [] (MK p (.int .i64 1) x) :=
 Ct.mono (DR (R:=λv x' E=>v=.int .i64 1/\x'=x/\E=[]) λy hy =>
  CB (G0:=[_]) (List.Perm.refl _) (cutx_ct p 0 _ x.sent x.lost y.d 0 y.M i j on h) λv H Q' ⟨h1,h2,h3⟩=>⟨x,y,[],⟨h1,rfl,rfl⟩,hy,by subst h2;exact fF p hy,h3⟩) λv G Q h=>MK.of h
end
end Go.Proofs.YtliacpkblicnhaaGreat
namespace Go.Proofs.YtliacpkblicnhaaGreat
open Go Go.Sx Go.Proofs
theorem Zx(r:List Pk)(q:Pk):K_ r++[pkA q,pkB q]=K_ (r++[q]):=(fO pkA pkB r [q]).symm
end Go.Proofs.YtliacpkblicnhaaGreat
namespace Go.Proofs.YtliacpkblicnhaaGreat
open Go Go.Sx Go.Proofs
section
variable (p:Nat)(K:List Nat)(x:NX)
theorem V3(i:Int):Ct Tryz.prog 13 [.pointer (some ⟨p,0,none⟩),.int .i64 i] [JK p K x] [] (MK p (.int .i64 (x.at i)) (x.drop i)) :=
 Ct.mono (DR (R:=λv x' E=>v=.int .i64 (x.at i)/\x'=x.drop i/\E=[]) λy hy=>by
  have hl:=QS hy
  by_cases hi:0<=i/\i<(x.ps.length:Int)
  ·obtain⟨j,rfl⟩:=Int.eq_ofNat_of_zero_le hi.1
   have hj:j<y.l.length:=by omega
   obtain⟨d,A,cp,l,M,mp⟩:=y
   dsimp only at hj
   refine CB (G0:=[_,_]) (Gr:=mp++l.map qO) ?_ (ndrop_in p d 0 0 M x.sent x.lost A l cp j hj) ?_
   ·exact(List.Perm.cons _ List.perm_middle).trans (List.Perm.swap _ _ _)
   ·rintro v H Q' ⟨rfl,rfl,rfl⟩
    refine⟨x.drop (j:Int),⟨d,A,cp,l.eraseIdx j,M,mp⟩,[],⟨by rw[NX.at,if_pos hi],rfl,rfl⟩,⟨?_,?_⟩,?_,rfl⟩
    ·show(l.eraseIdx j).map sZ=(x.drop (j:Int)).ps
     rw[NX.drop,if_pos hi,<-hy.1]
     simp[List.eraseIdx_eq_take_drop_succ,List.map_take,List.map_drop]
    ·rw[NX.drop,if_pos hi];exact hy.2
    ·rw[NX.drop,if_pos hi]
     refine RG.perm (L:=[qO (gt l (j:Int))]) ?_
     simp only[List.append_nil,List.cons_append,List.nil_append,List.append_assoc]
     refine List.Perm.cons _ (List.Perm.trans ?_ List.perm_middle.symm)
     refine List.Perm.cons _ ((List.Perm.refl mp).append ?_)
     exact((Y0 hj).map qO).trans (List.perm_append_singleton _ _).symm
  ·refine CB (G0:=[_]) (List.Perm.refl _) (qR p y.d 0 0 y.M x.sent x.lost y.A y.l.length y.cp i (by omega)) λv H Q' ⟨h1,h2,h3⟩=>⟨x,y,[],⟨by rw[h1,NX.at,if_neg hi],by rw[NX.drop,if_neg hi],rfl⟩,hy,by subst h2;exact fF p hy,h3⟩) λv G Q h=>MK.of h
theorem TR(i:Int)(hi:0<=i/\i<(x.ps.length:Int))(hl:(gt x.ps i).b.length<=140737488355328):Ct Tryz.prog 18 [.pointer (some ⟨p,0,none⟩),.int .i64 i] [JK p K x] [] (λv G Q=>∃K A cp,(gt x.ps i).b.length<=cp/\cp<=9223372036854775807/\v=.tuple #[.slice A (gt x.ps i).b.length cp,.int .i64 0]/\G=[JK p K x,rowOf A cp (gt x.ps i).b]/\Q=[]) :=
 Ct.mono (DR (R:=λv x' E=>∃A cp,(gt x.ps i).b.length<=cp/\cp<=9223372036854775807/\v=.tuple #[.slice A (gt x.ps i).b.length cp,.int .i64 0]/\x'=x/\E=[rowOf A cp (gt x.ps i).b]) λy hy=>by
  have hn:=QS hy
  have hg:=rel_gt hy hi.1 (by omega)
  obtain⟨d,A,cp,l,M,mp⟩:=y
  rw[hg] at hl ⊢
  dsimp only at hn
  refine CB (G0:=[_]++(rowP A cp l::l.map qO)) (Gr:=mp) ?_ (qU p d 0 0 M x.sent x.lost A l cp i hi.1 (by omega) hl) ?_
  ·rw[List.append_assoc]
   exact List.Perm.cons _ List.perm_append_comm
  ·rintro v H Q' ⟨A',cp',g1,g2,rfl,rfl,rfl⟩
   refine⟨x,⟨d,A,cp,l,M,mp⟩,_,⟨A',cp',g1,g2,rfl,rfl,rfl⟩,hy,RG.perm (L:=[]) ?_,rfl⟩
   rw[List.append_nil]
   refine List.Perm.cons _ ?_
   show([rowOf A' cp' (gt l i).b]++((rowP A cp l::l.map qO)++mp)).Perm ((mp++(rowP A cp l::l.map qO))++[rowOf A' cp' (gt l i).b])
   exact List.perm_append_comm.trans (List.perm_append_comm.append (List.Perm.refl _))) λv G Q h=>by
  obtain⟨x',E,K',⟨A,cp,g1,g2,g3,rfl,rfl⟩,h2,h3⟩:=h
  exact⟨K',A,cp,g1,g2,g3,h2,h3⟩
theorem V5(i:Int)(hi:¬(0<=i/\i<(x.ps.length:Int))):Ct Tryz.prog 18 [.pointer (some ⟨p,0,none⟩),.int .i64 i] [JK p K x] [] (MK p (.tuple #[.slice none 0 0,.int .i64 5]) x) :=
 Ct.mono (DR (R:=λv x' E=>v=.tuple #[.slice none 0 0,.int .i64 5]/\x'=x/\E=[]) λy hy =>
  CB (G0:=[_]) (List.Perm.refl _) (g_ p y.d 0 0 y.M x.sent x.lost y.A y.l.length y.cp i (by have:=QS hy;omega)) λv H Q' ⟨h1,h2,h3⟩=>⟨x,y,[],⟨h1,rfl,rfl⟩,hy,by subst h2;exact fF p hy,h3⟩) λv G Q h=>MK.of h
theorem aJ(m:GZ)(s:Lie)(hm:FT m)(hn:0<=m.Ez/\m.Ez<18446744073709551616)(G8:m.log.length<100000)(ha:-4611686018427387904<=x.sent/\x.sent<=4611686018427387904)(hb:-4611686018427387904<=x.lost/\x.lost<=4611686018427387904):Ct Tryz.prog 10 [.pointer (some ⟨p,0,none⟩),Ip m s] [JK p K x] (H9 m s) (MK p (.int .i64 (FW m).1) (x.send m)) :=
 Ct.mono (DR (R:=λv x' E=>v=.int .i64 (FW m).1/\x'=x.send m/\E=[]) λy hy=>by
  have hl:=QS hy
  by_cases hE:(FW m).1=0
  ·obtain⟨d,A,cp,l,M,mp⟩:=y
   obtain⟨hps,hs⟩:=hy
   dsimp only at hl hps hs
   rw[hE]
   rcases hs with⟨rfl,rfl,rfl,e4⟩|⟨mb,es,ck,rfl,rfl,rfl,hT⟩
   ·by_cases hk:4096<=l.length
    ·refine CB (G0:=[_]) (List.Perm.refl _) (eG p x.sent x.lost m s hm hn G8 hE ha hb A l.length cp hk) ?_
     rintro v H Q' ⟨mb,rfl,rfl,rfl⟩
     have e:x.send m={ x with sent:=x.sent+1,lost:=x.lost+1 }:=by rw[NX.send,if_pos hE,if_pos (.inr (by omega))]
     rw[e]
     exact⟨_,⟨1,A,cp,l,.map (some mb),[.blk mb (.map #[] 0)]⟩,[],⟨rfl,rfl,rfl⟩,⟨hps,.inr ⟨mb,#[],0,rfl,rfl,rfl,by show NV x.T _;rw[e4];exact lk0⟩⟩,RG.perm (L:=[]) (by simp),rfl⟩
    ·refine CB (G0:=[_,_]) (Gr:=l.map qO) (List.Perm.refl _) (pF p x.sent x.lost m s hm hn G8 hE ha hb A l cp (by omega)) ?_
     rintro v H Q' ⟨mb,A',cp',Ae,ce,rfl,rfl,rfl⟩
     have e:x.send m={ x with ps:=x.ps++[⟨(FW m).2,false⟩],sent:=x.sent+1 }:=by rw[NX.send,if_pos hE,if_neg (by rw[e4];simp;omega)]
     rw[e]
     refine⟨_,⟨1,A',cp',l++[⟨Ae,ce,(FW m).2,false⟩],.map (some mb),[.blk mb (.map #[] 0)]⟩,[],⟨rfl,rfl,rfl⟩,⟨?_,.inr ⟨mb,#[],0,rfl,rfl,rfl,by show NV x.T _;rw[e4];exact lk0⟩⟩,RG.perm (L:=[]) ?_,rfl⟩
     ·show(l++[_]).map sZ=x.ps++[_]
      rw[List.map_append,hps];rfl
     ·rw[Zx l ⟨Ae,ce,(FW m).2,false⟩,show l.length+1=(l++[(⟨Ae,ce,(FW m).2,false⟩:Pk)]).length by simp]
      simp only[List.append_nil,List.cons_append,List.nil_append,List.append_assoc,List.map_append,List.map_cons,List.map_nil]
      exact List.Perm.cons _ (List.Perm.cons _ (List.Perm.cons _ (by show(_::l.map qO).Perm ((l++[_]).map qO);rw[List.map_append];exact(List.perm_append_singleton _ _).symm)))
   ·by_cases hx:(m.src,m.dst)∈x.T
    ·refine CB (G0:=[_,_]) (Gr:=rowP A cp l::l.map qO) (List.Perm.refl _) (o_ p x.sent x.lost m s hm hn G8 hE ha hb _ mb es ck x.T hT hx) ?_
     rintro v H Q' ⟨rfl,rfl,rfl⟩
     have e:x.send m={ x with sent:=x.sent+1,lost:=x.lost+1 }:=by rw[NX.send,if_pos hE,if_pos (.inl hx)]
     rw[e]
     exact⟨_,⟨1,A,cp,l,.map (some mb),[.blk mb (.map es ck)]⟩,[],⟨rfl,rfl,rfl⟩,⟨hps,.inr ⟨mb,es,ck,rfl,rfl,rfl,hT⟩⟩,RG.perm (L:=[]) (by simp),rfl⟩
    ·by_cases hk:4096<=l.length
     ·refine CB (G0:=[_,_]) (Gr:=rowP A cp l::l.map qO) (List.Perm.refl _) (eF p x.sent x.lost m s hm hn G8 hE ha hb A l.length cp mb es ck x.T hT hx hk) ?_
      rintro v H Q' ⟨rfl,rfl,rfl⟩
      have e:x.send m={ x with sent:=x.sent+1,lost:=x.lost+1 }:=by rw[NX.send,if_pos hE,if_pos (.inr (by omega))]
      rw[e]
      exact⟨_,⟨1,A,cp,l,.map (some mb),[.blk mb (.map es ck)]⟩,[],⟨rfl,rfl,rfl⟩,⟨hps,.inr ⟨mb,es,ck,rfl,rfl,rfl,hT⟩⟩,RG.perm (L:=[]) (by simp),rfl⟩
     ·refine CB (G0:=[_,_,_]) (Gr:=l.map qO) (List.Perm.refl _) (oz p x.sent x.lost m s hm hn G8 hE ha hb A l cp mb es ck x.T hT hx (by omega)) ?_
      rintro v H Q' ⟨A',cp',Ae,ce,rfl,rfl,rfl⟩
      have e:x.send m={ x with ps:=x.ps++[⟨(FW m).2,false⟩],sent:=x.sent+1 }:=by rw[NX.send,if_pos hE,if_neg (λh=>h.elim hx (by omega))]
      rw[e]
      refine⟨_,⟨1,A',cp',l++[⟨Ae,ce,(FW m).2,false⟩],.map (some mb),[.blk mb (.map es ck)]⟩,[],⟨rfl,rfl,rfl⟩,⟨?_,.inr ⟨mb,es,ck,rfl,rfl,rfl,hT⟩⟩,RG.perm (L:=[]) ?_,rfl⟩
      ·show(l++[_]).map sZ=x.ps++[_]
       rw[List.map_append,hps];rfl
      ·rw[Zx l ⟨Ae,ce,(FW m).2,false⟩,show l.length+1=(l++[(⟨Ae,ce,(FW m).2,false⟩:Pk)]).length by simp]
       simp only[List.append_nil,List.cons_append,List.nil_append,List.append_assoc,List.map_append,List.map_cons,List.map_nil]
       exact List.Perm.cons _ (List.Perm.cons _ (List.Perm.cons _ (by show(_::l.map qO).Perm ((l++[_]).map qO);rw[List.map_append];exact(List.perm_append_singleton _ _).symm)))
  ·refine CB (G0:=[_]) (List.Perm.refl _) (ou p 0 x.sent x.lost _ y.d 0 y.M m s hm hn G8 hE) λv H Q' ⟨h1,h2,h3⟩=>⟨x,y,[],⟨h1,by rw[NX.send,if_neg hE],rfl⟩,hy,by subst h2;exact fF p hy,h3⟩) λv G Q h=>MK.of h
theorem spoil_rg{d:Int}{b g c cp:Nat}{l:List Pk}{sp sp2:List Value}{bs:List UInt8}{M:Value}{mp:List Own}{a e:Int}{j:Nat}(hj:j<l.length)(h2:(K_ (l.set j ⟨some ⟨g,0,none⟩,c,bs,true⟩)++sp).length=cp * 2)(h3:l.length<=cp)(h4:cp<=9223372036854775807)(k2:(bs.map JE++sp2).length=c)(k3:bs.length<=c)(k4:c<=9223372036854775807)(L:List Own) :
  RG (Ey p d 0 0 (.slice (some ⟨b,0,none⟩) (l.set j ⟨some ⟨g,0,none⟩,c,bs,true⟩).length cp) M a e::(mp++(rowP (some ⟨b,0,none⟩) cp (l.set j ⟨some ⟨g,0,none⟩,c,bs,true⟩)::(l.set j ⟨some ⟨g,0,none⟩,c,bs,true⟩).map qO)))
   ([Ey p d 0 0 (.slice (some ⟨b,0,none⟩) l.length cp) M a e,.cells b (K_ (l.set j ⟨some ⟨g,0,none⟩,c,bs,true⟩)++sp) 102,.cells g (bs.map JE++sp2) 5]++(mp++(l.eraseIdx j).map qO)):=by
 have hs:(l.set j ⟨some ⟨g,0,none⟩,c,bs,true⟩).length=l.length:=List.length_set
 have hg:=Y0 (l:=l.set j ⟨some ⟨g,0,none⟩,c,bs,true⟩) (i:=j) (by omega)
 rw[List.eraseIdx_set_eq] at hg
 have e0:gt (l.set j ⟨some ⟨g,0,none⟩,c,bs,true⟩) (j:Int)=⟨some ⟨g,0,none⟩,c,bs,true⟩:=by unfold gt;simp[List.getD_eq_getElem?_getD,hj]
 rw[e0] at hg
 refine RG.trans (B:=[Ey p d 0 0 (.slice (some ⟨b,0,none⟩) l.length cp) M a e,rowP (some ⟨b,0,none⟩) cp (l.set j ⟨some ⟨g,0,none⟩,c,bs,true⟩),qO ⟨some ⟨g,0,none⟩,c,bs,true⟩]++(mp++(l.eraseIdx j).map qO)) (RG.perm (L:=[]) ?_) (RG.cons _ ((RG.cons _ (RG.one _ (by rfl) λw h=>?_)).trans (RG.one _ (by rfl) (λw h=>QJ h2 (by omega) h4 w h))))
 ·rw[hs]
  simp only[List.append_nil,List.cons_append,List.nil_append,List.append_assoc]
  refine List.Perm.cons _ ?_
  refine List.Perm.trans ?_ List.perm_middle.symm
  refine List.Perm.cons _ (List.perm_middle.symm.trans ((List.Perm.refl mp).append ?_))
  exact(hg.map qO).symm
 ·exact TD (sz:=1) (by simp) (by simpa using k2) k3 k4 w h
end
end Go.Proofs.YtliacpkblicnhaaGreat
namespace Go.Proofs.YtliacpkblicnhaaGreat
open Go Go.Sx Go.Proofs
theorem qO_open{q:Pk}{R:List Own}(hn:q.b≠[])(w:World)(h:∀o∈qO q::R,o.holds w):∃y:Nat×List Value,(q.A=some ⟨y.1,0,none⟩/\(q.b.map JE++y.2).length=q.cp/\q.b.length<=q.cp/\q.cp<=9223372036854775807)/\J3 (.cells y.1 (q.b.map JE++y.2) 5::R) (qO q::R)/\∀o∈Own.cells y.1 (q.b.map JE++y.2) 5::R,o.holds w:=by
 obtain⟨A,cp,b,bad⟩:=q
 obtain⟨t,sp,rfl,g1,g2,g3,g4⟩:=Jw (h _ (List.mem_cons_self ..)) (λe=>hn (List.eq_nil_of_length_eq_zero e))
 exact⟨(t,sp),⟨rfl,by rw[g1,Nat.mul_one],g2,g3⟩,J3.eq rfl,λo ho=>(List.mem_cons.1 ho).elim (λe=>e▸g4) (λho=>h o (List.mem_cons_of_mem _ ho))⟩
end Go.Proofs.YtliacpkblicnhaaGreat
namespace Go.Proofs.YtliacpkblicnhaaGreat
open Go Go.Sx Go.Proofs
section
variable (p:Nat)(d:Int)(M:Value)(a b:Int)
theorem aH(A:Option Addr)(l:List Pk)(cp:Nat)(i:Nat)(at_ mk:Int)(hi:i<l.length)(hf:¬(0<=at_/\at_<((gt l (i:Int)).b.length:Int))):Ct Tryz.prog 19 [.pointer (some ⟨p,0,none⟩),.int .i64 (i:Int),.int .i64 at_,.int .u8 mk] [rowP A cp l,Ey p d 0 0 (.slice A l.length cp) M a b] [] (λu G Q=>u=.int .i64 5/\G=[rowP A cp l,Ey p d 0 0 (.slice A l.length cp) M a b]/\Q=[]):=by
 refine Ct.IK (λw h=>QM (λe=>by subst e;simp at hi) w h) (λy hy=>?_)
 obtain⟨rfl,h2,h3,h4⟩:=hy
 refine Ct.post (C_ [1,0] rfl (gY p d 0 0 M a b y.1 l y.2 cp i at_ mk _ _ _ _ rfl hi hf)) ?_
 rintro v H Q' ⟨rfl,rfl,rfl⟩
 exact⟨_,⟨rfl,rfl,rfl⟩,((RG.one _ (by rfl) (λw h=>QJ h2 h3 h4 w h)).trans (RG.perm (L:=[]) (List.Perm.swap _ _ _)))⟩
theorem aI(A:Option Addr)(l:List Pk)(cp:Nat)(i:Nat)(at_ mk:Int)(hi:i<l.length)(hf:0<=at_/\at_<((gt l (i:Int)).b.length:Int))(hq:(gt l (i:Int)).bad=true):Ct Tryz.prog 19 [.pointer (some ⟨p,0,none⟩),.int .i64 (i:Int),.int .i64 at_,.int .u8 mk] [rowP A cp l,Ey p d 0 0 (.slice A l.length cp) M a b] [] (λu G Q=>u=.int .i64 230/\G=[rowP A cp l,Ey p d 0 0 (.slice A l.length cp) M a b]/\Q=[]):=by
 refine Ct.IK (λw h=>QM (λe=>by subst e;simp at hi) w h) (λy hy=>?_)
 obtain⟨rfl,h2,h3,h4⟩:=hy
 refine Ct.post (C_ [1,0] rfl (gZ p d 0 0 M a b y.1 l y.2 cp i at_ mk (gt l (i:Int)).A (gt l (i:Int)).cp (gt l (i:Int)).b (by rw[<-hq]) hi hf)) ?_
 rintro v H Q' ⟨rfl,rfl,rfl⟩
 exact⟨_,⟨rfl,rfl,rfl⟩,((RG.one _ (by rfl) (λw h=>QJ h2 h3 h4 w h)).trans (RG.perm (L:=[]) (List.Perm.swap _ _ _)))⟩
theorem qN(A:Option Addr)(l:List Pk)(cp:Nat)(i:Nat)(at_:Int)(mk:UInt8)(hi:i<l.length)(hf:0<=at_/\at_<((gt l (i:Int)).b.length:Int))(hq:(gt l (i:Int)).bad=false):Ct Tryz.prog 19 [.pointer (some ⟨p,0,none⟩),.int .i64 (i:Int),.int .i64 at_,.int .u8 (mk.toNat:Int)] [qO (gt l (i:Int)),rowP A cp l,Ey p d 0 0 (.slice A l.length cp) M a b] []
  (λu G Q=>∃t g c sp sp2,A=some ⟨t,0,none⟩/\(K_ l++sp).length=cp * 2/\l.length<=cp/\cp<=9223372036854775807/\(((gt l (i:Int)).b.set at_.toNat (gt (gt l (i:Int)).b at_ ^^^ mk)).map JE++sp2).length=c/\(gt l (i:Int)).b.length<=c/\c<=9223372036854775807/\u=.int .i64 0/\G=[Ey p d 0 0 (.slice A l.length cp) M a b,.cells t (K_ (l.set i ⟨some ⟨g,0,none⟩,c,(gt l (i:Int)).b.set at_.toNat (gt (gt l (i:Int)).b at_ ^^^ mk),true⟩)++sp) 102,.cells g (((gt l (i:Int)).b.set at_.toNat (gt (gt l (i:Int)).b at_ ^^^ mk)).map JE++sp2) 5]/\Q=[]):=by
 refine Ct.IK (λw h=>qO_open (λe=>by rw[e] at hf;simp at hf;omega) w h) (λz hz=>?_)
 obtain⟨k1,k2,k3,k4⟩:=hz
 refine C_ [1,1,0] rfl ?_
 refine Ct.IK (λw h=>QM (λe=>by subst e;simp at hi) w h) (λy hy=>?_)
 obtain⟨rfl,h2,h3,h4⟩:=hy
 refine Ct.mono (C_ [1,0,0] rfl (nspoil_c p d 0 0 M a b y.1 l y.2 cp i at_ mk z.1 (gt l (i:Int)).cp (gt l (i:Int)).b z.2 (by rw[<-hq,<-k1]) hi hf)) ?_
 rintro v H Q' ⟨rfl,rfl,rfl⟩
 exact⟨y.1,z.1,_,y.2,z.2,rfl,h2,h3,h4,by simpa using k2,k3,k4,rfl,rfl,rfl⟩
end
end Go.Proofs.YtliacpkblicnhaaGreat
namespace Go.Proofs.YtliacpkblicnhaaGreat
open Go Go.Sx Go.Proofs
theorem qP(p:Nat)(K:List Nat)(x:NX)(i at_:Int)(mk:UInt8):Ct Tryz.prog 19 [.pointer (some ⟨p,0,none⟩),.int .i64 i,.int .i64 at_,.int .u8 (mk.toNat:Int)] [JK p K x] [] (MK p (.int .i64 (x.Ib i at_ mk).1) (x.Ib i at_ mk).2) :=
 Ct.mono (DR (R:=λv x' E=>v=.int .i64 (x.Ib i at_ mk).1/\x'=(x.Ib i at_ mk).2/\E=[]) λy hy=>by
  have hl:=QS hy
  by_cases hi:0<=i/\i<(x.ps.length:Int)
  ·have hg:=rel_gt hy hi.1 (by omega)
   obtain⟨j,rfl⟩:=Int.eq_ofNat_of_zero_le hi.1
   obtain⟨d,A,cp,l,M,mp⟩:=y
   dsimp only at hl hg
   have hj:j<l.length:=by omega
   have pm:(Dw p x ⟨d,A,cp,l,M,mp⟩).Perm ([rowP A cp l,Ey p d 0 0 (.slice A l.length cp) M x.sent x.lost]++(mp++l.map qO)) :=
    (List.Perm.cons _ List.perm_middle).trans (List.Perm.swap _ _ _)
   by_cases hf:0<=at_/\at_<((gt l (j:Int)).b.length:Int)
   ·by_cases hb:(gt l (j:Int)).bad=true
    ·have e:x.Ib (j:Int) at_ mk=(230,x):=by rw[NX.Ib,if_pos ⟨hi.1,hi.2,hf.1,by rw[hg];exact hf.2⟩,if_pos (by rw[hg];exact hb)]
     rw[e]
     refine CB pm (aI p d M x.sent x.lost A l cp j at_ _ hj hf hb) ?_
     rintro v H Q' ⟨rfl,rfl,rfl⟩
     exact⟨x,⟨d,A,cp,l,M,mp⟩,[],⟨rfl,rfl,rfl⟩,hy,by rw[List.append_nil];exact RG.perm (L:=[]) (by rw[List.append_nil];exact pm.symm),rfl⟩
    ·have hb':(gt l (j:Int)).bad=false:=by simpa using hb
     have e:x.Ib (j:Int) at_ mk=(0,{ x with ps:=x.ps.set j ⟨(gt l (j:Int)).b.set at_.toNat (gt (gt l (j:Int)).b at_ ^^^ mk),true⟩ }):=by rw[NX.Ib,if_pos ⟨hi.1,hi.2,hf.1,by rw[hg];exact hf.2⟩,if_neg (by rw[hg];exact hb),hg];rfl
     rw[e]
     refine CB (G0:=[_,_,_]) (Gr:=mp++(l.eraseIdx j).map qO) (pm.trans ?_) (qN p d M x.sent x.lost A l cp j at_ mk hj hf hb') ?_
     ·show(rowP A cp l::Ey p d 0 0 (.slice A l.length cp) M x.sent x.lost::(mp++l.map qO)).Perm (qO (gt l (j:Int))::rowP A cp l::Ey p d 0 0 (.slice A l.length cp) M x.sent x.lost::(mp++(l.eraseIdx j).map qO))
      refine List.Perm.trans (List.Perm.cons _ (List.Perm.cons _ (((List.Perm.refl mp).append ((Y0 hj).map qO)).trans List.perm_middle))) ?_
      exact(List.Perm.cons _ (List.Perm.swap _ _ _)).trans (List.Perm.swap _ _ _)
     ·rintro v H Q' ⟨t,g,c,sp,sp2,rfl,g2,g3,g4,k2,k3,k4,rfl,rfl,rfl⟩
      refine⟨_,⟨d,some ⟨t,0,none⟩,cp,l.set j ⟨some ⟨g,0,none⟩,c,(gt l (j:Int)).b.set at_.toNat (gt (gt l (j:Int)).b at_ ^^^ mk),true⟩,M,mp⟩,[],⟨rfl,rfl,rfl⟩,⟨?_,hy.2⟩,?_,rfl⟩
      ·show(l.set j _).map sZ=x.ps.set j _
       rw[<-hy.1,List.map_set]
      ·rw[List.append_nil]
       exact spoil_rg p hj (by rw[List.length_append,Jl,List.length_set,<-Jl,<-List.length_append];exact g2) g3 g4 k2 (by rw[List.length_set];exact k3) k4 []
   ·have e:x.Ib (j:Int) at_ mk=(5,x):=by rw[NX.Ib,if_neg (by rw[hg];exact λh=>hf ⟨h.2.2.1,h.2.2.2⟩)]
    rw[e]
    refine CB pm (aH p d M x.sent x.lost A l cp j at_ _ hj hf) ?_
    rintro v H Q' ⟨rfl,rfl,rfl⟩
    exact⟨x,⟨d,A,cp,l,M,mp⟩,[],⟨rfl,rfl,rfl⟩,hy,by rw[List.append_nil];exact RG.perm (L:=[]) (by rw[List.append_nil];exact pm.symm),rfl⟩
  ·have e:x.Ib i at_ mk=(5,x):=by rw[NX.Ib,if_neg (λh=>hi ⟨h.1,h.2.1⟩)]
   rw[e]
   exact CB (G0:=[_]) (List.Perm.refl _) (gX p y.d 0 0 y.M x.sent x.lost y.A y.l.length y.cp i at_ _ (by omega)) λv H Q' ⟨h1,h2,h3⟩=>⟨x,y,[],⟨h1,rfl,rfl⟩,hy,by subst h2;exact fF p hy,h3⟩) λv G Q h=>MK.of h
abbrev WT(b:List UInt8)(at_ n:Nat):Int:=if at_+n<=b.length then 0 else 10
abbrev JL(b:List UInt8)(at_ n:Nat):Nat:=if at_+n<=b.length then GH (seg b at_ (at_+n)) else 0
abbrev Uj(b:List UInt8)(at_ n:Nat):Nat:=if at_+n<=b.length then at_+n else 0
theorem m_(A:Option Addr)(b:List UInt8)(cp at_ n:Nat)(hn:1<=n)(hn':n<=8)(hb:b.length<=cp)(hb':b.length<=140737488355328)(hat:at_<=b.length):Ct Tryz.prog 72 [.slice A b.length cp,.int .i64 (at_:Int),.int .i64 (n:Int)] [] [D7.row Kd.u8 A b]
  (λu G Q=>u=.tuple #[.int .u64 ((JL b at_ n:Nat):Int),.int .i64 ((Uj b at_ n:Nat):Int),.int .i64 (WT b at_ n)]/\G=[]/\Q=[]):=by
 by_cases h:at_+n<=b.length
 ·rw[JL,Uj,WT,if_pos h,if_pos h,if_pos h];exact WS A b cp at_ n hn hn' hb (by omega) h
 ·rw[JL,Uj,WT,if_neg h,if_neg h,if_neg h];exact Tn A b cp at_ n hn hn' hb' hat (by omega)
theorem Jg{b:List UInt8}{l h n:Nat}(hh:h<=b.length)(hn:h - l=n):GH (seg b l h)<256 ^ n:=by
 have:=YG (seg b l h)
 rwa [seg_length hh,hn] at this
def UZ(b:List UInt8)(at_:Nat):List UInt8×Nat×Int :=
 if at_+4<=b.length then
  (if GH (seg b at_ (at_+4))<=16777216 then
   (if at_+4+GH (seg b at_ (at_+4))<=b.length then (seg b (at_+4) (at_+4+GH (seg b at_ (at_+4))),at_+4+GH (seg b at_ (at_+4)),0) else ([],0,10))
  else ([],0,2))
 else ([],0,10)
theorem zq65_{X:Prop}(h:X:=by(exact⟨[],0,2,none,0,by rw[UZ,if_pos hq4,if_neg (by omega)],by simp,by simp,rfl,rfl,rfl⟩)):X:=h
theorem zq66_{X:Prop}(h:X:=by(exact⟨[],0,10,none,0,by rw[UZ,if_pos hq4,if_pos (by omega),if_neg (by omega)],by simp,by simp,rfl,rfl,rfl⟩)):X:=h
theorem zq67_{X:Prop}(h:X:=by(exact⟨[],0,10,none,0,by rw[UZ,if_neg hq4],by simp,by simp,rfl,rfl,rfl⟩)):X:=h
theorem WR(A:Option Addr)(b:List UInt8)(cp at_:Nat)(hb:b.length<=cp)(Gl:cp<=9223372036854775807)(hb':b.length<=10000000000000)(hat:at_<=b.length):Ct Tryz.prog 205 [.slice A b.length cp,.int .i64 (at_:Int)] [] [D7.row Kd.u8 A b]
    (λu G Q=>∃x n e A' c',UZ b at_=(x,n,e)/\x.length<=c'/\c'<=9223372036854775807/\u=.tuple #[.slice A' x.length c',.int .i64 ((n:Nat):Int),.int .i64 e]/\G=[]/\Q=[D7.row Kd.u8 A' x]):=by
 by_cases hq4:at_+4<=b.length
 ·have hv:=Jg (b:=b) (l:=at_) (h:=at_+4) (n:=4) hq4 (by omega)
  rw[Gn] at hv
  have ee:((at_+4:Nat):Int)+((GH (seg b at_ (at_+4)):Nat):Int)=((at_+4+GH (seg b at_ (at_+4)):Nat):Int):=by omega
  have hsl:at_+4+GH (seg b at_ (at_+4))<=b.length->(seg b (at_+4) (at_+4+GH (seg b at_ (at_+4)))).length=GH (seg b at_ (at_+4)):=λh=>by rw[seg_length h];omega
  refine Ct.intro Tryz.func205 rfl rfl rfl (λc hc=>?_)
  refine AP 3 ?_;refine AV 2 ?_;refine Ah Tryz.call72 [] [0] rfl rfl rfl (by exact WS _ b _ at_ 4 (by omega) (by omega) hb (by omega) hq4) ?_
  rintro _ _ _ ⟨rfl,rfl,rfl⟩
  refine AL 7 ?_;refine AB ?_;refine GC.block ?_;refine AP 3 ?_;refine AY rfl ?_;refine AP 3 ?_;refine Af ?_ ?_
  ·intro h1;try simp only[D6] at h1
   refine AP 3 ?_;refine GC.know (q:=D7.row Kd.u8 none []) (λ_ _ _=>.inl rfl) ?_;refine GC.ret (DF 4 5 6 [] [0] ?_)
   exact zq65_
  intro h1;try simp only[D6] at h1
  refine AV 1 ?_;refine AO rfl (EO (t:=45) (r:=((GH (seg b at_ (at_+4)):Nat):Int)) (by rw[Tryz.underlying45];simp) Tryz.underlying3 rfl (W9 (by omega) (by omega))) ?_
  refine AA 3 ?_;refine AO rfl (Jv rfl rfl (Fh (by omega) (by omega))) ?_;refine AL 2 ?_;refine Af ?_ ?_
  ·intro h2;try simp only[D6] at h2
   refine AP 3 ?_;refine GC.know (q:=D7.row Kd.u8 none []) (λ_ _ _=>.inl rfl) ?_;refine GC.ret (DF 4 5 6 [] [0] ?_)
   exact zq66_
  intro h2;try simp only[D6] at h2
  refine GC.skip (?_:GC _ _ _ _)
  refine AV 2 ?_;refine AO rfl (EO (t:=45) (r:=((GH (seg b at_ (at_+4)):Nat):Int)) (by rw[Tryz.underlying45];simp) Tryz.underlying3 rfl (W9 (by omega) (by omega))) ?_
  refine AO rfl (EU rfl rfl (Fh (by omega) (by omega))) ?_;refine AL 1 ?_;refine AV 3 ?_;refine GL.step rfl (PW (j:=0) rfl rfl rfl rfl rfl Tryz.underlying47 Fa (by omega) (by omega) (by omega) (by omega)) ?_
  rw[ee,show(((at_+4:Nat):Int)).toNat=at_+4 from rfl,show(((at_+4+GH (seg b at_ (at_+4)):Nat):Int)).toNat=at_+4+GH (seg b at_ (at_+4)) from rfl]
  refine Ah Tryz.call95 [] [0] rfl rfl rfl (by exact MS _ (seg b (at_+4) (at_+4+GH (seg b at_ (at_+4)))) _ (by rw[hsl (by omega)];omega)) ?_
  rintro _ _ _ ⟨A41,rZ,l41,k41,rfl,rfl,rfl⟩
  refine AL 4 ?_;refine GC.EN (i:=0) rfl ?_;refine GC.ret (DF 4 5 6 [] [0] ?_)
  exact⟨_,_,0,_,_,by rw[UZ,if_pos hq4,if_pos (by omega),if_pos (by omega)],l41,k41,rfl,rfl,rfl⟩
 skip
 refine Ct.intro Tryz.func205 rfl rfl rfl (λc hc=>?_)
 refine AP 3 ?_;refine AV 2 ?_;refine Ah Tryz.call72 [] [0] rfl rfl rfl (by exact Tn _ b _ at_ 4 (by omega) (by omega) (by omega) hat (by omega)) ?_
 rintro _ _ _ ⟨rfl,rfl,rfl⟩
 refine AL 7 ?_;refine AB ?_;refine GC.block ?_;refine AP 3 ?_;refine AU rfl ?_;refine AP 4 ?_;refine GC.know (q:=D7.row Kd.u8 none []) (λ_ _ _=>.inl rfl) ?_;refine GC.ret (DF 4 5 6 [] [0] ?_)
 exact zq67_
theorem PG{α β γ:Type}{a x:α}{b t:β}{c k:γ}(h:(a,b,c)=(x,t,k)):a=x/\b=t/\c=k:=⟨(Prod.mk.inj h).1,(Prod.mk.inj (Prod.mk.inj h).2).1,(Prod.mk.inj (Prod.mk.inj h).2).2⟩
def KD(b:List UInt8)(at_:Nat)(code:Int)(n:Nat):Nat×Nat×Int :=
 if code=0 then (if at_+n<=b.length then (GH (seg b at_ (at_+n)),at_+n,0) else (0,at_,10)) else (0,at_,code)
def UY(b:List UInt8)(at_:Nat)(code:Int):List UInt8×Nat×Int :=
 if code=0 then (if (UZ b at_).2.2=0 then UZ b at_ else ([],at_,if (UZ b at_).2.2=10 then 10 else 42)) else ([],at_,code)
theorem Jy{b:List UInt8}{at_:Nat}{code:Int}{n v t:Nat}{k:Int}(h:KD b at_ code n=(v,t,k))(hat:at_<=b.length):t<=b.length/\v<256 ^ n:=by
 unfold KD at h
 have hp:0<256 ^ n:=Nat.pow_pos (by decide)
 split at h
 ·split at h
  ·rename_i h2
   obtain⟨rfl,rfl,rfl⟩:=PG h
   exact⟨h2,Jg h2 (by omega)⟩
  ·obtain⟨rfl,rfl,rfl⟩:=PG h
   exact⟨hat,hp⟩
 ·obtain⟨rfl,rfl,rfl⟩:=PG h
  exact⟨hat,hp⟩
theorem KH{b:List UInt8}{at_:Nat}{x:List UInt8}{t:Nat}{e:Int}(h:UZ b at_=(x,t,e))(h0:e=0):t<=b.length/\x.length<=16777216:=by
 unfold UZ at h
 split at h
 ·split at h
  ·split at h
   ·rename_i h1 h2 h3
    obtain⟨rfl,rfl,_⟩:=PG h
    exact⟨h3,by rw[seg_length h3];omega⟩
   ·have:=(Prod.mk.inj (Prod.mk.inj h).2).2;omega
  ·have:=(Prod.mk.inj (Prod.mk.inj h).2).2;omega
 ·have:=(Prod.mk.inj (Prod.mk.inj h).2).2;omega
theorem L_{b:List UInt8}{at_:Nat}{code:Int}{x:List UInt8}{t:Nat}{k:Int}(h:UY b at_ code=(x,t,k))(hat:at_<=b.length):t<=b.length/\x.length<=16777216:=by
 unfold UY at h
 split at h
 ·split at h
  ·rename_i h1 h2
   exact KH h (by rw[h] at h2;exact h2)
  ·obtain⟨rfl,rfl,_⟩:=PG h
   exact⟨hat,by simp⟩
 ·obtain⟨rfl,rfl,_⟩:=PG h
  exact⟨hat,by simp⟩
abbrev Ju(p e:Nat)(A:Option Addr)(b:List UInt8)(cp at_:Nat)(code:Int):List Own:=[.cells p [.slice A b.length cp,.int .i64 (at_:Int),.int .i64 code] e]
theorem LU(p e_:Nat)(A:Option Addr)(b:List UInt8)(cp at_:Nat)(code:Int)(n:Nat)(hn:1<=n)(hn':n<=4)(hb:b.length<=cp)(hb':b.length<=10000000000000)(hat:at_<=b.length):Ct Tryz.prog 162 [.pointer (some ⟨p,0,none⟩),.int .i64 (n:Int)] (Ju p e_ A b cp at_ code) [D7.row Kd.u8 A b]
    (λu G Q=>∃v t k,KD b at_ code n=(v,t,k)/\u=.int .i64 (v:Int)/\G=Ju p e_ A b cp t k/\Q=[]):=by
 have hp4:(256:Nat) ^ n<=4294967296:=by rw[<-Gn];exact Nat.pow_le_pow_right (by decide) hn'
 have hvr:at_+n<=b.length->GH (seg b at_ (at_+n))<4294967296:=λh=>Nat.lt_of_lt_of_le (Jg h (by omega)) hp4
 by_cases hc0:code=0
 ·subst hc0
  by_cases hq4:at_+n<=b.length
  ·have hv:=hvr hq4
   refine Ct.intro Tryz.func162 rfl rfl rfl (λc hc=>?_)
   refine AP 1 ?_;refine AB ?_;refine AV 3 ?_;refine Ad 0 ?_;refine AL 1 ?_;refine AY rfl ?_
   refine GC.skip (?_:GC _ _ _ _)
   refine AB ?_;refine BP Ef (by kernel_rfl) ?_;refine Am 3 ?_;refine GQ.step rfl (Ea (EF (i:=0) rfl rfl G_ rfl)) ?_;refine Am 3 ?_;refine GQ.step rfl (Ea (EF (i:=0) rfl rfl Ei rfl)) ?_
   refine Am 1 ?_;refine GQ.step rfl (JU Tryz.call72 rfl (js:=[0]) rfl (by exact WS _ b _ at_ n hn (by omega) hb (by omega) hq4)) ?_;refine Am 7 ?_
   refine BO (?_:GC _ _ _ _)
   refine AB ?_;refine AP 2 ?_;refine AY rfl ?_
   refine GC.skip (?_:GC _ _ _ _)
   refine AV 4 ?_;refine BI 0 ?_;refine BL 1 ?_;refine AO rfl (EO (t:=45) (r:=((GH (seg b at_ (at_+n)):Nat):Int)) (by rw[Tryz.underlying45];simp) Tryz.underlying3 rfl (W9 (by omega) (by omega))) ?_
   refine AL 1 ?_;refine GC.ret (AQ 4 [0] [] ?_)
   exact⟨_,_,0,by rw[KD,if_pos rfl,if_pos hq4],rfl,rfl,rfl⟩
  skip
  refine Ct.intro Tryz.func162 rfl rfl rfl (λc hc=>?_)
  refine AP 1 ?_;refine AB ?_;refine AV 3 ?_;refine Ad 0 ?_;refine AL 1 ?_;refine AY rfl ?_
  refine GC.skip (?_:GC _ _ _ _)
  refine AB ?_;refine BP Ef (by kernel_rfl) ?_;refine Am 3 ?_;refine GQ.step rfl (Ea (EF (i:=0) rfl rfl G_ rfl)) ?_;refine Am 3 ?_;refine GQ.step rfl (Ea (EF (i:=0) rfl rfl Ei rfl)) ?_
  refine Am 1 ?_;refine GQ.step rfl (JU Tryz.call72 rfl (js:=[0]) rfl (by exact Tn _ b _ at_ n hn (by omega) (by omega) hat (by omega))) ?_;refine Am 7 ?_
  refine BO (?_:GC _ _ _ _)
  refine AB ?_;refine AP 2 ?_;refine AU rfl ?_;refine AV 4 ?_;refine BI 0 ?_;refine BL 1 ?_;refine Ap ?_;refine GC.ret (AQ 4 [0] [] ?_)
  exact⟨0,_,10,by rw[KD,if_pos rfl,if_neg hq4],rfl,rfl,rfl⟩
 skip
 refine Ct.intro Tryz.func162 rfl rfl rfl (λc hc=>?_)
 refine AP 1 ?_;refine AB ?_;refine AV 3 ?_;refine Ad 0 ?_;refine AL 1 ?_;refine Af ?_ ?_
 ·intro h1;try simp only[D6] at h1
  refine AP 1 ?_;refine GC.ret (AQ 4 [0] [] ?_)
  exact⟨0,_,_,by rw[KD,if_neg hc0],rfl,rfl,rfl⟩
 intro h1;try simp only[D6] at h1
 exfalso;first|exact hc0 h1|exact hc0 (by omega)
theorem zq68_{X:Prop}(h:X:=by(exact⟨[],_,_,none,0,by rw[UY,if_pos rfl,Iq,if_neg (by assumption)];first|rw[if_pos (by omega),show e20=10 by omega]|rw[if_neg (by omega)],by simp,by simp,rfl,rfl,rfl⟩)):X:=h
theorem KY(p e_:Nat)(A:Option Addr)(b:List UInt8)(cp at_:Nat)(code:Int)(hb:b.length<=cp)(Gl:cp<=9223372036854775807)(hb':b.length<=10000000000000)(hat:at_<=b.length):Ct Tryz.prog 163 [.pointer (some ⟨p,0,none⟩)] (Ju p e_ A b cp at_ code) [D7.row Kd.u8 A b]
    (λu G Q=>∃x t k A' c',UY b at_ code=(x,t,k)/\x.length<=c'/\c'<=9223372036854775807/\u=.slice A' x.length c'/\G=Ju p e_ A b cp t k/\Q=[D7.row Kd.u8 A' x]):=by
 by_cases hc0:code=0
 ·subst hc0
  refine Ct.intro Tryz.func163 rfl rfl rfl (λc hc=>?_)
  refine AP 1 ?_;refine AB ?_;refine AV 3 ?_;refine Ad 0 ?_;refine AL 1 ?_;refine AY rfl ?_
  refine GC.skip (?_:GC _ _ _ _)
  refine AB ?_;refine BF (m:=16) (is:=[0]) (js:=[0]) Ef rfl rfl rfl ?_;refine AZ 0 [0] [0] ?_;refine AZ 1 [0] [0] ?_;refine AZ 2 [0] [0] ?_;refine BA 3 rfl [0] [0] (i_mem (EF (i:=0) rfl rfl G_ rfl)) ?_
  refine AZ 4 [0] [0] ?_;refine AZ 5 [0] [0] ?_;refine AZ 6 [0] [0] ?_;refine BA 7 rfl [0] [0] (i_mem (EF (i:=0) rfl rfl Ei rfl)) ?_;refine Aw [8] ?_
  refine E8.cons (i:=8) rfl rfl (EI rfl Tryz.call205 rfl (is:=[]) (js:=[0]) rfl rfl (by exact WR _ _ _ _ (by omega) (by omega) (by omega) (by omega))) (by rintro a w ⟨_,_,_,⟨x20,n20,e20,YA,c20,Iq,V9,k20,rfl,rfl,rfl⟩,h⟩;exact h.me [0] [1]) (GA.ret ?_) Ag
  rintro _ _ _ ⟨x20,n20,e20,YA,c20,Iq,V9,k20,rfl,rfl,rfl⟩
  refine AZ 9 [0] [1] ?_;refine AZ 10 [0] [1] ?_;refine AZ 11 [0] [1] ?_;refine AZ 12 [0] [1] ?_;refine AZ 13 [0] [1] ?_;refine AZ 14 [0] [1] ?_;refine AZ 15 [0] [1] ?_
  refine BG (by kernel_rfl) (?_:GC _ _ _ _)
  refine AB ?_;refine AP 2 ?_;refine Af ?_ ?_
  ·intro h1;try simp only[D6] at h1
   refine AV 4 ?_;refine BI 0 ?_;refine Ap ?_;refine AB ?_;refine AP 2 ?_;refine Af ?_ ?_
   ·intro h2;try simp only[D6] at h2
    refine GC.region ?_;refine AA 3 ?_;refine BI 0 ?_
    refine Ac (?_:GC _ _ _ _)
    refine AP 1 ?_;refine GC.know (q:=D7.row Kd.u8 none []) (λ_ _ _=>.inl rfl) ?_;refine GC.ret (AQ 2 [0] [0] ?_)
    exact zq68_
   intro h2;try simp only[D6] at h2
   refine GC.skip (?_:GC _ _ _ _)
   refine AP 1 ?_;refine GC.know (q:=D7.row Kd.u8 none []) (λ_ _ _=>.inl rfl) ?_;refine GC.ret (AQ 2 [0] [0] ?_)
   exact zq68_
  intro h1;try simp only[D6] at h1
  refine GC.skip (?_:GC _ _ _ _)
  refine AV 4 ?_;refine BI 0 ?_;refine BL 2 ?_;refine Ap ?_;refine GC.ret (AQ 2 [0] [0] ?_)
  exact⟨_,_,0,_,_,by rw[UY,if_pos rfl,Iq,if_pos (by assumption)];rw[show e20=0 by assumption],V9,k20,rfl,rfl,rfl⟩
 skip
 refine Ct.intro Tryz.func163 rfl rfl rfl (λc hc=>?_)
 refine AP 1 ?_;refine AB ?_;refine AV 3 ?_;refine Ad 0 ?_;refine AL 1 ?_;refine Af ?_ ?_
 ·intro h1;try simp only[D6] at h1
  refine AP 1 ?_;refine GC.know (q:=D7.row Kd.u8 none []) (λ_ _ _=>.inl rfl) ?_;refine GC.ret (AQ 2 [0] [0] ?_)
  exact⟨[],_,_,none,0,by rw[UY,if_neg hc0],by simp,by simp,rfl,rfl,rfl⟩
 intro h1;try simp only[D6] at h1
 exfalso;first|exact hc0 h1|exact hc0 (by omega)
theorem SX(p e_:Nat)(A:Option Addr)(b:List UInt8)(cp at_:Nat)(code may:Int):Ct Tryz.prog 164 [.pointer (some ⟨p,0,none⟩),.int .i64 may] (Ju p e_ A b cp at_ code) []
    (λu G Q=>∃n e,((e=0↔code=0/\may=0)/\(e=0->n=(at_:Int)))/\u=.tuple #[.int .i64 n,.int .i64 e]/\G=Ju p e_ A b cp at_ code/\Q=[]):=by
 refine Ct.intro Tryz.func164 rfl rfl rfl (λc hc=>?_)
 refine AP 2 ?_;refine AB ?_;refine AV 4 ?_;refine Ad 0 ?_;refine AL 1 ?_;refine Af ?_ ?_
 ·intro h1;try simp only[D6] at h1
  refine AB ?_;refine BP Ef (by kernel_rfl) ?_;refine Am 4 ?_;refine GQ.step rfl (Ea (EF (i:=0) rfl rfl JC rfl)) ?_;refine Am 2 ?_
  refine BO (?_:GC _ _ _ _)
  refine GC.ret (BR 4 5 [0] [] ?_)
  exact⟨_,_,⟨by omega,by omega⟩,rfl,rfl,rfl⟩
 intro h1;try simp only[D6] at h1
 refine GC.skip (?_:GC _ _ _ _)
 refine AB ?_;refine AP 2 ?_;refine Af ?_ ?_
 ·intro h2;try simp only[D6] at h2
  refine AP 2 ?_;refine GC.ret (BR 4 5 [0] [] ?_)
  exact⟨_,_,⟨by omega,by omega⟩,rfl,rfl,rfl⟩
 intro h2;try simp only[D6] at h2
 refine GC.skip (?_:GC _ _ _ _)
 refine AV 4 ?_;refine Ad 0 ?_;refine AL 2 ?_;refine GC.ret (BR 4 5 [0] [] ?_)
 exact⟨_,_,⟨by omega,by omega⟩,rfl,rfl,rfl⟩
def OD(b:List UInt8):LM×Nat×Int :=
 let x1:=KD b 0 0 1
 let x2:=KD b x1.2.1 x1.2.2 4
 let x3:=KD b x2.2.1 x2.2.2 4
 let x4:=UY b x3.2.1 x3.2.2
 let x5:=UY b x4.2.1 x4.2.2
 (⟨(x1.1:Int),(x2.1:Int),(x3.1:Int),x4.1,x5.1⟩,x5.2)
theorem LK{b:List UInt8}{v1 t1 v2 t2 v3 t3 t4 t5:Nat}{k1 k2 k3 k4 k5:Int}{x4 x5:List UInt8}(e1:KD b 0 0 1=(v1,t1,k1))(e2:KD b t1 k1 4=(v2,t2,k2))(e3:KD b t2 k2 4=(v3,t3,k3))(e4:UY b t3 k3=(x4,t4,k4))(e5:UY b t4 k4=(x5,t5,k5)) :
  OD b=(⟨(v1:Int),(v2:Int),(v3:Int),x4,x5⟩,t5,k5):=by
 simp only[OD,e1,e2,e3,e4,e5]
def JM(b:List UInt8):Option (LM×Nat):=if (OD b).2.2=0/\SG (OD b).1.kind (OD b).1.at_ (OD b).1.n (OD b).1.data.length (OD b).1.old.length=0 then some ((OD b).1,(OD b).2.1) else none
theorem jX{X:Prop}(h:X:=by(exact⟨Iw,0,_,none,0,none,0,λh=>by omega,⟨by omega,λ_=>by rw[JM,hd,if_neg];intro hh;exact absurd (Yw.1.2 hh) (by assumption)⟩,by simp[Iw],by simp,by simp[Iw],by simp,rfl,rfl,rfl⟩)):X:=h
theorem jW{X:Prop}(h:X:=by(exact⟨⟨(v16:Int),(v21:Int),(v25:Int),x30,x35⟩,t35,0,_,_,_,_,λ_=>by rw[JM,hd,if_pos (Yw.1.1 rfl)],⟨qp,λh=>absurd rfl h⟩,l30,m30,l35,m35,rfl,rfl,rfl⟩)):X:=h
theorem SN(A:Option Addr)(b:List UInt8)(cp:Nat)(hb:b.length<=cp)(Gl:cp<=9223372036854775807)(hb':b.length<=10000000000000):Ct Tryz.prog 109 [.slice A b.length cp] [] [D7.row Kd.u8 A b]
    (λu G Q=>∃(o:LM) (n:Nat) (e:Int) (A1:Option Addr) (c1:Nat) (A2:Option Addr) (c2:Nat),(e=0->JM b=some (o,n))/\(n<=b.length/\(e≠0->JM b=none))/\o.data.length<=c1/\c1<=9223372036854775807/\o.old.length<=c2/\c2<=9223372036854775807/\u=.tuple #[lI o A1 c1 A2 c2,.int .i64 (n:Int),.int .i64 e]/\G=[]/\Q=[D7.row Kd.u8 A1 o.data,D7.row Kd.u8 A2 o.old]):=by
 have hp1:(256:Nat) ^ 1=256:=Gp
 have hp4:(256:Nat) ^ 4=4294967296:=Gn
 refine Ct.intro Tryz.func109 rfl rfl rfl (λc hc=>?_)
 refine AX ?_;refine GL.step rfl (EH rfl Hy) (Aa λGm=>?_);refine AL 2 ?_;refine AV 1 ?_;refine AO rfl (ED ze_236 of_236 rfl rfl) ?_;refine AO rfl (ED ze_238 of_238 rfl rfl) ?_
 refine GL.step rfl (Ee rfl rfl rfl) (Aa λXE=>?_);refine AL 1 ?_;refine AB ?_;refine BF (m:=16) (is:=[1]) (js:=[0]) Ef rfl rfl rfl ?_;refine AZ 0 [1] [0] ?_;refine AZ 1 [1] [0] ?_
 refine AZ 2 [1] [0] ?_;refine AZ 5 [1] [0] ?_;refine AZ 6 [1] [0] ?_;refine AZ 7 [1] [0] ?_;refine AZ 9 [1] [0] ?_;refine AZ 10 [1] [0] ?_;refine AZ 11 [1] [0] ?_;refine Aw [3,14] ?_
 refine E8.cons (i:=3) rfl rfl (EI rfl Tryz.call162 rfl (is:=[0]) (js:=[0]) rfl rfl (by exact LU _ _ _ b _ 0 0 1 (by omega) (by omega) (by omega) (by omega) (by omega))) (by rintro a w ⟨_,_,_,⟨v16,t16,k16,SB,rfl,rfl,rfl⟩,h⟩;exact h.me [1] [0]) (GA.ret ?_) ?_
 ·rintro _ _ _ ⟨v16,t16,k16,SB,rfl,rfl,rfl⟩
  obtain⟨ht16,hv16⟩:=Jy SB (by omega)
  refine BA 4 rfl [1] [0] (EK (EO (t:=3) (r:=((v16:Nat):Int)) (by rw[Tryz.underlying3];simp) Tryz.underlying46 rfl (by simp[IntKind.wrap,IntKind.bits,IntKind.signed];omega))) ?_;refine Aw [8,14] ?_
  refine E8.cons (i:=8) rfl rfl (EI rfl Tryz.call162 rfl (is:=[0]) (js:=[0]) rfl rfl (by exact LU _ _ _ b _ t16 k16 4 (by omega) (by omega) (by omega) (by omega) (by omega))) (by rintro a w ⟨_,_,_,⟨v21,t21,k21,Gx,rfl,rfl,rfl⟩,h⟩;exact h.me [1] [0]) (GA.ret ?_) ?_
  ·rintro _ _ _ ⟨v21,t21,k21,Gx,rfl,rfl,rfl⟩
   obtain⟨WC,WB⟩:=Jy Gx (by omega)
   refine Aw [12,14] ?_
   refine E8.cons (i:=12) rfl rfl (EI rfl Tryz.call162 rfl (is:=[0]) (js:=[0]) rfl rfl (by exact LU _ _ _ b _ t21 k21 4 (by omega) (by omega) (by omega) (by omega) (by omega))) (by rintro a w ⟨_,_,_,⟨v25,t25,k25,Q5,rfl,rfl,rfl⟩,h⟩;exact h.me [1] [0]) (GA.ret ?_) ?_
   ·rintro _ _ _ ⟨v25,t25,k25,Q5,rfl,rfl,rfl⟩
    obtain⟨ht25,hv25⟩:=Jy Q5 (by omega)
    refine BA 13 rfl [1] [0] (EK (ED Hy KO rfl rfl)) ?_;refine Aw [14] ?_
    refine E8.cons (i:=14) rfl rfl (EH rfl Hy) (by rintro a w ⟨_,h⟩;exact h.me [2] [0]) (BZ λKr=>?_) Ag
    refine Aw [15] ?_
    refine E8.cons (i:=15) rfl rfl (EZ (i:=0) rfl rfl rfl Qm rfl rfl rfl) (by rintro a w h;exact h.me [2] [0]) ?_ Ag
    refine BG (by kernel_rfl) (?_:GC _ _ _ _)
    refine AV 3 ?_;refine Ah Tryz.call163 [1] [0] rfl rfl rfl (by exact KY _ _ _ _ _ _ _ (by omega) (by omega) (by omega) (by omega)) ?_
    rintro _ _ _ ⟨x30,t30,k30,A30,c30,LD,l30,m30,rfl,rfl,rfl⟩
    obtain⟨ht30,hx30⟩:=L_ LD (by omega)
    refine AA 1 ?_;refine BI 1 ?_;refine BL 3 ?_;refine Ah Tryz.call163 [0] [1] rfl rfl rfl (by exact KY _ _ _ _ _ _ _ (by omega) (by omega) (by omega) (by omega)) ?_
    rintro _ _ _ ⟨x35,t35,k35,A35,c35,Jt,l35,m35,rfl,rfl,rfl⟩
    obtain⟨qp,hx35⟩:=L_ Jt (by omega)
    refine AA 1 ?_;refine BI 1 ?_;refine BL 1 ?_;refine Az 1 5 ?_;refine Ah Tryz.call87 [] [] rfl rfl rfl (by exact Oq (v16:Int) (v21:Int) (v25:Int) _ x30.length _ _ x35.length _) ?_
    rintro _ _ _ ⟨rfl,rfl,rfl⟩
    refine Ah Tryz.call164 [0] [] rfl rfl rfl (by exact SX _ _ _ _ _ _ _ _) ?_
    rintro _ _ _ ⟨n41,e41,Yw,rfl,rfl,rfl⟩
    refine AL 5 ?_;refine AB ?_;refine AX ?_
    have hd:=LK SB Gx Q5 LD Jt
    refine AL 2 ?_;refine Af ?_ ?_
    ·intro h1;try simp only[D6] at h1
     refine AX ?_;refine AO rfl (ED Hy KO rfl rfl) ?_;refine AA 1 ?_;refine Ar 2 ?_;refine AL 2 ?_;refine GC.know (q:=D7.row Kd.u8 none []) (λ_ _ _=>.inl rfl) ?_;refine GC.ret (Fin.c2 2 49 3 4 2 5 [] [0,0] ?_)
     exact jX
    intro h1;try simp only[D6] at h1
    refine GC.skip (?_:GC _ _ _ _)
    refine AX ?_;refine Az 1 5 ?_;refine AA 1 ?_;refine Ar 2 ?_;refine AL 2 ?_;refine GC.ret (Fin.c2 2 49 3 4 2 5 [] [1,0] ?_)
    have e0:e41=0:=by assumption
    have en:=Yw.2 e0
    subst en e0
    exact jW
   refine E8.cons (i:=14) rfl rfl (EH rfl Hy) (by rintro a w ⟨_,h⟩;exact h.me [2] [0]) (BZ λKr=>?_) Ag
   refine Aw [12] ?_
   refine E8.cons (i:=12) rfl rfl (EI rfl Tryz.call162 rfl (is:=[1]) (js:=[0]) rfl rfl (by exact LU _ _ _ b _ t21 k21 4 (by omega) (by omega) (by omega) (by omega) (by omega))) (by rintro a w ⟨_,_,_,⟨v25,t25,k25,Q5,rfl,rfl,rfl⟩,h⟩;exact h.me [2] [0]) (GA.ret ?_) Ag
   rintro _ _ _ ⟨v25,t25,k25,Q5,rfl,rfl,rfl⟩
   obtain⟨ht25,hv25⟩:=Jy Q5 (by omega)
   refine BA 13 rfl [2] [0] (EK (ED Hy KO rfl rfl)) ?_;refine Aw [15] ?_
   refine E8.cons (i:=15) rfl rfl (EZ (i:=1) rfl rfl rfl Qm rfl rfl rfl) (by rintro a w h;exact h.me [2] [0]) ?_ Ag
   refine BG (by kernel_rfl) (?_:GC _ _ _ _)
   refine AV 3 ?_;refine Ah Tryz.call163 [0] [0] rfl rfl rfl (by exact KY _ _ _ _ _ _ _ (by omega) (by omega) (by omega) (by omega)) ?_
   rintro _ _ _ ⟨x30,t30,k30,A30,c30,LD,l30,m30,rfl,rfl,rfl⟩
   obtain⟨ht30,hx30⟩:=L_ LD (by omega)
   refine AA 1 ?_;refine BI 1 ?_;refine BL 3 ?_;refine Ah Tryz.call163 [0] [1] rfl rfl rfl (by exact KY _ _ _ _ _ _ _ (by omega) (by omega) (by omega) (by omega)) ?_
   rintro _ _ _ ⟨x35,t35,k35,A35,c35,Jt,l35,m35,rfl,rfl,rfl⟩
   obtain⟨qp,hx35⟩:=L_ Jt (by omega)
   refine AA 1 ?_;refine BI 1 ?_;refine BL 1 ?_;refine Az 1 5 ?_;refine Ah Tryz.call87 [] [] rfl rfl rfl (by exact Oq (v16:Int) (v21:Int) (v25:Int) _ x30.length _ _ x35.length _) ?_
   rintro _ _ _ ⟨rfl,rfl,rfl⟩
   refine Ah Tryz.call164 [0] [] rfl rfl rfl (by exact SX _ _ _ _ _ _ _ _) ?_
   rintro _ _ _ ⟨n41,e41,Yw,rfl,rfl,rfl⟩
   refine AL 5 ?_;refine AB ?_;refine AX ?_
   have hd:=LK SB Gx Q5 LD Jt
   refine AL 2 ?_;refine Af ?_ ?_
   ·intro h1;try simp only[D6] at h1
    refine AX ?_;refine AO rfl (ED Hy KO rfl rfl) ?_;refine AA 1 ?_;refine Ar 2 ?_;refine AL 2 ?_;refine GC.know (q:=D7.row Kd.u8 none []) (λ_ _ _=>.inl rfl) ?_;refine GC.ret (Fin.c2 2 49 3 4 2 5 [] [0,0] ?_)
    exact jX
   intro h1;try simp only[D6] at h1
   refine GC.skip (?_:GC _ _ _ _)
   refine AX ?_;refine Az 1 5 ?_;refine AA 1 ?_;refine Ar 2 ?_;refine AL 2 ?_;refine GC.ret (Fin.c2 2 49 3 4 2 5 [] [1,0] ?_)
   have e0:e41=0:=by assumption
   have en:=Yw.2 e0
   subst en e0
   exact jW
  refine E8.cons (i:=14) rfl rfl (EH rfl Hy) (by rintro a w ⟨_,h⟩;exact h.me [2] [0]) (BZ λKr=>?_) Ag
  refine Aw [8] ?_
  refine E8.cons (i:=8) rfl rfl (EI rfl Tryz.call162 rfl (is:=[1]) (js:=[0]) rfl rfl (by exact LU _ _ _ b _ t16 k16 4 (by omega) (by omega) (by omega) (by omega) (by omega))) (by rintro a w ⟨_,_,_,⟨v21,t21,k21,Gx,rfl,rfl,rfl⟩,h⟩;exact h.me [2] [0]) (GA.ret ?_) Ag
  rintro _ _ _ ⟨v21,t21,k21,Gx,rfl,rfl,rfl⟩
  obtain⟨WC,WB⟩:=Jy Gx (by omega)
  refine Aw [12] ?_
  refine E8.cons (i:=12) rfl rfl (EI rfl Tryz.call162 rfl (is:=[0]) (js:=[0]) rfl rfl (by exact LU _ _ _ b _ t21 k21 4 (by omega) (by omega) (by omega) (by omega) (by omega))) (by rintro a w ⟨_,_,_,⟨v25,t25,k25,Q5,rfl,rfl,rfl⟩,h⟩;exact h.me [2] [0]) (GA.ret ?_) Ag
  rintro _ _ _ ⟨v25,t25,k25,Q5,rfl,rfl,rfl⟩
  obtain⟨ht25,hv25⟩:=Jy Q5 (by omega)
  refine BA 13 rfl [2] [0] (EK (ED Hy KO rfl rfl)) ?_;refine Aw [15] ?_
  refine E8.cons (i:=15) rfl rfl (EZ (i:=1) rfl rfl rfl Qm rfl rfl rfl) (by rintro a w h;exact h.me [2] [0]) ?_ Ag
  refine BG (by kernel_rfl) (?_:GC _ _ _ _)
  refine AV 3 ?_;refine Ah Tryz.call163 [0] [0] rfl rfl rfl (by exact KY _ _ _ _ _ _ _ (by omega) (by omega) (by omega) (by omega)) ?_
  rintro _ _ _ ⟨x30,t30,k30,A30,c30,LD,l30,m30,rfl,rfl,rfl⟩
  obtain⟨ht30,hx30⟩:=L_ LD (by omega)
  refine AA 1 ?_;refine BI 1 ?_;refine BL 3 ?_;refine Ah Tryz.call163 [0] [1] rfl rfl rfl (by exact KY _ _ _ _ _ _ _ (by omega) (by omega) (by omega) (by omega)) ?_
  rintro _ _ _ ⟨x35,t35,k35,A35,c35,Jt,l35,m35,rfl,rfl,rfl⟩
  obtain⟨qp,hx35⟩:=L_ Jt (by omega)
  refine AA 1 ?_;refine BI 1 ?_;refine BL 1 ?_;refine Az 1 5 ?_;refine Ah Tryz.call87 [] [] rfl rfl rfl (by exact Oq (v16:Int) (v21:Int) (v25:Int) _ x30.length _ _ x35.length _) ?_
  rintro _ _ _ ⟨rfl,rfl,rfl⟩
  refine Ah Tryz.call164 [0] [] rfl rfl rfl (by exact SX _ _ _ _ _ _ _ _) ?_
  rintro _ _ _ ⟨n41,e41,Yw,rfl,rfl,rfl⟩
  refine AL 5 ?_;refine AB ?_;refine AX ?_
  have hd:=LK SB Gx Q5 LD Jt
  refine AL 2 ?_;refine Af ?_ ?_
  ·intro h1;try simp only[D6] at h1
   refine AX ?_;refine AO rfl (ED Hy KO rfl rfl) ?_;refine AA 1 ?_;refine Ar 2 ?_;refine AL 2 ?_;refine GC.know (q:=D7.row Kd.u8 none []) (λ_ _ _=>.inl rfl) ?_;refine GC.ret (Fin.c2 2 49 3 4 2 5 [] [0,0] ?_)
   exact jX
  intro h1;try simp only[D6] at h1
  refine GC.skip (?_:GC _ _ _ _)
  refine AX ?_;refine Az 1 5 ?_;refine AA 1 ?_;refine Ar 2 ?_;refine AL 2 ?_;refine GC.ret (Fin.c2 2 49 3 4 2 5 [] [1,0] ?_)
  have e0:e41=0:=by assumption
  have en:=Yw.2 e0
  subst en e0
  exact jW
 refine E8.cons (i:=14) rfl rfl (EH rfl Hy) (by rintro a w ⟨_,h⟩;exact h.me [2] [0]) (BZ λKr=>?_) Ag
 refine Aw [3] ?_
 refine E8.cons (i:=3) rfl rfl (EI rfl Tryz.call162 rfl (is:=[1]) (js:=[0]) rfl rfl (by exact LU _ _ _ b _ 0 0 1 (by omega) (by omega) (by omega) (by omega) (by omega))) (by rintro a w ⟨_,_,_,⟨v16,t16,k16,SB,rfl,rfl,rfl⟩,h⟩;exact h.me [2] [0]) (GA.ret ?_) Ag
 rintro _ _ _ ⟨v16,t16,k16,SB,rfl,rfl,rfl⟩
 obtain⟨ht16,hv16⟩:=Jy SB (by omega)
 refine BA 4 rfl [2] [0] (EK (EO (t:=3) (r:=((v16:Nat):Int)) (by rw[Tryz.underlying3];simp) Tryz.underlying46 rfl (by simp[IntKind.wrap,IntKind.bits,IntKind.signed];omega))) ?_;refine Aw [8] ?_
 refine E8.cons (i:=8) rfl rfl (EI rfl Tryz.call162 rfl (is:=[0]) (js:=[0]) rfl rfl (by exact LU _ _ _ b _ t16 k16 4 (by omega) (by omega) (by omega) (by omega) (by omega))) (by rintro a w ⟨_,_,_,⟨v21,t21,k21,Gx,rfl,rfl,rfl⟩,h⟩;exact h.me [2] [0]) (GA.ret ?_) Ag
 rintro _ _ _ ⟨v21,t21,k21,Gx,rfl,rfl,rfl⟩
 obtain⟨WC,WB⟩:=Jy Gx (by omega)
 refine Aw [12] ?_
 refine E8.cons (i:=12) rfl rfl (EI rfl Tryz.call162 rfl (is:=[0]) (js:=[0]) rfl rfl (by exact LU _ _ _ b _ t21 k21 4 (by omega) (by omega) (by omega) (by omega) (by omega))) (by rintro a w ⟨_,_,_,⟨v25,t25,k25,Q5,rfl,rfl,rfl⟩,h⟩;exact h.me [2] [0]) (GA.ret ?_) Ag
 rintro _ _ _ ⟨v25,t25,k25,Q5,rfl,rfl,rfl⟩
 obtain⟨ht25,hv25⟩:=Jy Q5 (by omega)
 refine BA 13 rfl [2] [0] (EK (ED Hy KO rfl rfl)) ?_;refine Aw [15] ?_
 refine E8.cons (i:=15) rfl rfl (EZ (i:=1) rfl rfl rfl Qm rfl rfl rfl) (by rintro a w h;exact h.me [2] [0]) ?_ Ag
 refine BG (by kernel_rfl) (?_:GC _ _ _ _)
 refine AV 3 ?_;refine Ah Tryz.call163 [0] [0] rfl rfl rfl (by exact KY _ _ _ _ _ _ _ (by omega) (by omega) (by omega) (by omega)) ?_
 rintro _ _ _ ⟨x30,t30,k30,A30,c30,LD,l30,m30,rfl,rfl,rfl⟩
 obtain⟨ht30,hx30⟩:=L_ LD (by omega)
 refine AA 1 ?_;refine BI 1 ?_;refine BL 3 ?_;refine Ah Tryz.call163 [0] [1] rfl rfl rfl (by exact KY _ _ _ _ _ _ _ (by omega) (by omega) (by omega) (by omega)) ?_
 rintro _ _ _ ⟨x35,t35,k35,A35,c35,Jt,l35,m35,rfl,rfl,rfl⟩
 obtain⟨qp,hx35⟩:=L_ Jt (by omega)
 refine AA 1 ?_;refine BI 1 ?_;refine BL 1 ?_;refine Az 1 5 ?_;refine Ah Tryz.call87 [] [] rfl rfl rfl (by exact Oq (v16:Int) (v21:Int) (v25:Int) _ x30.length _ _ x35.length _) ?_
 rintro _ _ _ ⟨rfl,rfl,rfl⟩
 refine Ah Tryz.call164 [0] [] rfl rfl rfl (by exact SX _ _ _ _ _ _ _ _) ?_
 rintro _ _ _ ⟨n41,e41,Yw,rfl,rfl,rfl⟩
 refine AL 5 ?_;refine AB ?_;refine AX ?_
 have hd:=LK SB Gx Q5 LD Jt
 refine AL 2 ?_;refine Af ?_ ?_
 ·intro h1;try simp only[D6] at h1
  refine AX ?_;refine AO rfl (ED Hy KO rfl rfl) ?_;refine AA 1 ?_;refine Ar 2 ?_;refine AL 2 ?_;refine GC.know (q:=D7.row Kd.u8 none []) (λ_ _ _=>.inl rfl) ?_;refine GC.ret (Fin.c2 2 49 3 4 2 5 [] [0,0] ?_)
  exact jX
 intro h1;try simp only[D6] at h1
 refine GC.skip (?_:GC _ _ _ _)
 refine AX ?_;refine Az 1 5 ?_;refine AA 1 ?_;refine Ar 2 ?_;refine AL 2 ?_;refine GC.ret (Fin.c2 2 49 3 4 2 5 [] [1,0] ?_)
 have e0:e41=0:=by assumption
 have en:=Yw.2 e0
 subst en e0
 exact jW
def O4(b:List UInt8):J4×Nat×Int :=
 let x1:=KD b 0 0 1
 let x2:=UY b x1.2.1 x1.2.2
 (⟨(x1.1:Int),x2.1⟩,x2.2)
theorem O1{b:List UInt8}{v1 t1 t2:Nat}{k1 k2:Int}{x2:List UInt8}(e1:KD b 0 0 1=(v1,t1,k1))(e2:UY b t1 k1=(x2,t2,k2)):O4 b=(⟨(v1:Int),x2⟩,t2,k2):=by
 simp only[O4,e1,e2]
def Hw(b:List UInt8):Option (J4×Nat):=if (O4 b).2.2=0/\Ic (O4 b).1.code (O4 b).1.data.length=true then some ((O4 b).1,(O4 b).2.1) else none
theorem Qc(A:Option Addr)(b:List UInt8)(cp:Nat)(hb:b.length<=cp)(Gl:cp<=9223372036854775807)(hb':b.length<=10000000000000):Ct Tryz.prog 110 [.slice A b.length cp] [] [D7.row Kd.u8 A b]
    (λu G Q=>∃(o:J4) (n:Nat) (e:Int) (A1:Option Addr) (c1:Nat),(e=0->Hw b=some (o,n))/\(n<=b.length/\(e≠0->Hw b=none))/\o.data.length<=c1/\c1<=9223372036854775807/\u=.tuple #[.agg #[.int .u8 o.code,.slice A1 o.data.length c1],.int .i64 (n:Int),.int .i64 e]/\G=[]/\Q=[D7.row Kd.u8 A1 o.data]):=by
 have hp1:(256:Nat) ^ 1=256:=Gp
 refine Ct.intro Tryz.func110 rfl rfl rfl (λc hc=>?_)
 refine AX ?_;refine GL.step rfl (EH rfl Ig) (Aa λGm=>?_);refine AL 2 ?_;refine AV 1 ?_;refine AO rfl (ED ze_236 of_236 rfl rfl) ?_;refine AO rfl (ED ze_238 of_238 rfl rfl) ?_
 refine GL.step rfl (Ee rfl rfl rfl) (Aa λXE=>?_);refine AL 1 ?_;refine AV 3 ?_;refine Ah Tryz.call162 [0] [0] rfl rfl rfl (by exact LU _ _ _ b _ 0 0 1 (by omega) (by omega) (by omega) (by omega) (by omega)) ?_
 rintro _ _ _ ⟨v16,t16,k16,SB,rfl,rfl,rfl⟩
 obtain⟨ht16,hv16⟩:=Jy SB (by omega)
 refine AO rfl (EO (t:=3) (r:=((v16:Nat):Int)) (by rw[Tryz.underlying3];simp) Tryz.underlying50 rfl (by simp[IntKind.wrap,IntKind.bits,IntKind.signed];omega)) ?_;refine AO rfl (ED Ig OU rfl rfl) ?_
 refine GL.step rfl (EH rfl Ig) (Aa λKr=>?_);refine Ar 0 ?_;refine BL 3 ?_;refine Ah Tryz.call163 [1] [0] rfl rfl rfl (by exact KY _ _ _ _ _ _ _ (by omega) (by omega) (by omega) (by omega)) ?_
 rintro _ _ _ ⟨x22,t22,k22,U7,U6,OW,XQ,m22,rfl,rfl,rfl⟩
 obtain⟨ht22,hx22⟩:=L_ OW (by omega)
 refine AA 1 ?_;refine BI 1 ?_;refine BL 1 ?_;refine Az 1 2 ?_;refine Ah Tryz.call88 [] [] rfl rfl rfl (by exact SV (v16:Int) _ x22.length _) ?_
 rintro _ _ _ ⟨rfl,rfl,rfl⟩
 refine Ah Tryz.call164 [0] [] rfl rfl rfl (by exact SX _ _ _ _ _ _ _ _) ?_
 rintro _ _ _ ⟨n28,e28,iP,rfl,rfl,rfl⟩
 refine AL 5 ?_;refine AB ?_;refine AX ?_
 have hd:=O1 SB OW
 refine AL 2 ?_;refine Af ?_ ?_
 ·intro h1;try simp only[D6] at h1
  refine AX ?_;refine AO rfl (ED Ig OU rfl rfl) ?_;refine AA 1 ?_;refine Ar 2 ?_;refine AL 2 ?_;refine GC.know (q:=D7.row Kd.u8 none []) (λ_ _ _=>.inl rfl) ?_;refine GC.ret (Fin.c2 2 52 3 4 2 2 [] [0] ?_)
  exact⟨⟨0,[]⟩,0,_,none,0,λh=>by omega,⟨by omega,λ_=>by rw[Hw,hd,if_neg];intro hh;exact absurd (iP.1.2 ⟨hh.1,by rw[if_pos hh.2]⟩) (by assumption)⟩,by simp,by simp,rfl,rfl,rfl⟩
 intro h1;try simp only[D6] at h1
 refine GC.skip (?_:GC _ _ _ _)
 refine AX ?_;refine Az 1 2 ?_;refine AA 1 ?_;refine Ar 2 ?_;refine AL 2 ?_;refine GC.ret (Fin.c2 2 52 3 4 2 2 [] [0] ?_)
 have e0:e28=0:=by assumption
 have en:=iP.2 e0
 subst en e0
 exact⟨⟨(v16:Int),x22⟩,t22,0,_,_,λ_=>by rw[Hw,hd,if_pos ⟨(iP.1.1 rfl).1,Eq.mp (EJ _) (iP.1.1 rfl).2⟩],⟨ht22,λh=>absurd rfl h⟩,XQ,m22,rfl,rfl,rfl⟩
abbrev mF(e:Int):Value:=.iface 247 (.agg #[.int .i64 e])
def Qy(v:Value):Prop:=∃e:Int,e≠0/\v=mF e
theorem QW(e:Int):PK Tryz.prog 170 [.int .i64 e] [] [] (λu G Q=>e=0/\u=.tuple #[]/\G=[]/\Q=[]) (λv=>e≠0/\v=mF e):=by
 refine PK.intro Tryz.func170 rfl rfl rfl (λc hc=>?_)
 refine AP 2 ?_;refine Af ?_ ?_
 ·intro h1;try simp only[D6] at h1
  refine GC.region ?_;refine AA 1 ?_;refine AO rfl (ED PN TP rfl rfl) ?_;refine AO rfl (J_ Tryz.underlying247 (λm h=>by cases h) rfl) ?_;refine Cb rfl (λa w h=>?_)
  exact Iu.panic ⟨by assumption,rfl⟩ h
 intro h1;try simp only[D6] at h1
 refine GC.skip ?_
 refine λa w h=>DV rfl (is:=[]) (js:=[]) rfl rfl ?_ h
 clear h
 exact⟨by omega,rfl,rfl,rfl⟩
theorem LH{b:List UInt8}{at_ n:Nat}(h:WT b at_ n=0):at_+n<=b.length:=by
 by_cases hq:at_+n<=b.length
 ·exact hq
 ·rw[WT,if_neg hq] at h;omega
def FU(b:List UInt8)(at_ n:Nat):Option (Int×Nat):=if at_+n<=b.length then some (if (JL b at_ n:Int) > 4611686018427387904 then -1 else (JL b at_ n:Int),Uj b at_ n) else none
theorem ER{b:List UInt8}{at_ n:Nat}{v:Int}{t:Nat}(h:FU b at_ n=some (v,t)):t<=b.length/\t=at_+n /\ -1<=v/\v<=4611686018427387904/\v<(256 ^ n:Nat):=by
 unfold FU at h
 split at h
 ·rename_i hq
  obtain⟨h1,h2⟩:=Prod.mk.inj (Option.some.inj h)
  have hv:GH (seg b at_ (at_+n))<256 ^ n:=Jg hq (by omega)
  have hp:0<256 ^ n:=Nat.pow_pos (by decide)
  split at h1<;>omega
 ·cases h
abbrev KP(p e:Nat)(A:Option Addr)(b:List UInt8)(cp at_:Nat):List Own:=[.cells p [.slice A b.length cp,.int .i64 (at_:Int)] e]
theorem Em(p e_:Nat)(A:Option Addr)(b:List UInt8)(cp at_:Nat)(n:Nat)(hn:1<=n)(hn':n<=8)(hb:b.length<=cp)(hb':b.length<=10000000000000)(hat:at_<=b.length):PK Tryz.prog 169 [.pointer (some ⟨p,0,none⟩),.int .i64 (n:Int)] (KP p e_ A b cp at_) [D7.row Kd.u8 A b]
    (λu G Q=>∃v t,FU b at_ n=some (v,t)/\u=.int .i64 v/\G=KP p e_ A b cp t/\Q=[]) (λv=>Qy v/\FU b at_ n=none):=by
 refine PK.intro Tryz.func169 rfl rfl rfl (λc hc=>?_)
 refine AP 1 ?_;refine AB ?_;refine BP Ef (by kernel_rfl) ?_;refine Am 3 ?_;refine GQ.step rfl (Ea (EF (i:=0) rfl rfl G_ rfl)) ?_;refine Am 3 ?_;refine GQ.step rfl (Ea (EF (i:=0) rfl rfl Ei rfl)) ?_
 refine Am 1 ?_;refine GQ.step rfl (JU Tryz.call72 rfl (js:=[0]) rfl (by exact m_ _ b _ at_ n hn hn' hb (by omega) hat)) ?_;refine Am 7 ?_
 refine BO (?_:GC _ _ _ _)
 refine AV 1 ?_;refine Bc rfl Tryz.call170 rfl (is:=[]) (js:=[]) rfl rfl (by exact QW _) (λv a w he h=>Iu.panic ⟨⟨_,he⟩,by rw[FU,if_neg (λhq=>he.1 (if_pos hq))]⟩ h) (GL.ret ?_)
 rintro _ _ _ ⟨he23,rfl,rfl,rfl⟩
 have hq4:=LH he23
 refine BL 4 ?_;refine BI 0 ?_;refine Ap ?_;refine AB ?_;refine AP 2 ?_;refine Af ?_ ?_
 ·intro h1;try simp only[D6] at h1
  refine AP 1 ?_;refine GC.ret (DW 4 [0] [] ?_)
  exact⟨-1,_,by rw[FU,if_pos hq4,if_pos (by assumption)],rfl,rfl,rfl⟩
 intro h1;try simp only[D6] at h1
 refine GC.skip (?_:GC _ _ _ _)
 refine AV 1 ?_;refine AO rfl (EO (t:=45) (r:=((JL b at_ n:Nat):Int)) (by rw[Tryz.underlying45];simp) Tryz.underlying3 rfl (W9 (by omega) (by omega))) ?_
 refine AL 1 ?_;refine GC.ret (DW 4 [0] [] ?_)
 exact⟨_,_,by rw[FU,if_pos hq4,if_neg (by omega)],rfl,rfl,rfl⟩
def Rt(b:List UInt8)(at_:Nat):Option (List UInt8×Nat):=if (UZ b at_).2.2=0 then some ((UZ b at_).1,(UZ b at_).2.1) else none
theorem Rq{b:List UInt8}{at_:Nat}{x:List UInt8}{t:Nat}(h:Rt b at_=some (x,t)):t<=b.length/\x.length<=16777216:=by
 unfold Rt at h
 split at h
 ·rename_i h0
  obtain⟨h1,h2⟩:=Prod.mk.inj (Option.some.inj h)
  exact KH (b:=b) (at_:=at_) (e:=(UZ b at_).2.2) (by rw[<-h1,<-h2]) h0
 ·cases h
theorem zq71_{X:Prop}(h:X:=by(exact⟨_,_,_,_,by rw[Rt,Fj];exact if_pos e0,l15,k15,rfl,rfl,rfl⟩)):X:=h
theorem QY(p e_:Nat)(A:Option Addr)(b:List UInt8)(cp at_:Nat)(hb:b.length<=cp)(Gl:cp<=9223372036854775807)(hb':b.length<=10000000000000)(hat:at_<=b.length):PK Tryz.prog 207 [.pointer (some ⟨p,0,none⟩)] (KP p e_ A b cp at_) [D7.row Kd.u8 A b]
    (λu G Q=>∃x t A' c',Rt b at_=some (x,t)/\x.length<=c'/\c'<=9223372036854775807/\u=.slice A' x.length c'/\G=KP p e_ A b cp t/\Q=[D7.row Kd.u8 A' x]) (λv=>Qy v/\Rt b at_=none):=by
 refine PK.intro Tryz.func207 rfl rfl rfl (λc hc=>?_)
 refine AP 1 ?_;refine AB ?_;refine BF (m:=16) (is:=[0]) (js:=[0]) Ef rfl rfl rfl ?_;refine AZ 0 [0] [0] ?_;refine AZ 1 [0] [0] ?_;refine AZ 2 [0] [0] ?_;refine BA 3 rfl [0] [0] (i_mem (EF (i:=0) rfl rfl G_ rfl)) ?_
 refine AZ 4 [0] [0] ?_;refine AZ 5 [0] [0] ?_;refine AZ 6 [0] [0] ?_;refine BA 7 rfl [0] [0] (i_mem (EF (i:=0) rfl rfl Ei rfl)) ?_;refine Aw [8] ?_
 refine E8.cons (i:=8) rfl rfl (EI rfl Tryz.call205 rfl (is:=[]) (js:=[0]) rfl rfl (by exact WR _ _ _ _ (by omega) (by omega) (by omega) (by omega))) (by rintro a w ⟨_,_,_,⟨x15,n15,e15,jT,c15,Fj,l15,k15,rfl,rfl,rfl⟩,h⟩;exact h.me [0] [1]) (GA.ret ?_) Ag
 rintro _ _ _ ⟨x15,n15,e15,jT,c15,Fj,l15,k15,rfl,rfl,rfl⟩
 refine AZ 9 [0] [1] ?_;refine AZ 10 [0] [1] ?_;refine AZ 11 [0] [1] ?_;refine AZ 12 [0] [1] ?_;refine AZ 13 [0] [1] ?_;refine AZ 14 [0] [1] ?_;refine AZ 15 [0] [1] ?_
 refine BG (by kernel_rfl) (?_:GC _ _ _ _)
 refine AB ?_;refine AV 3 ?_;refine Ak 21 ?_ ?_
 ·intro h1;try simp only[D6] at h1
  refine AL 3 ?_;refine Af ?_ ?_
  ·intro h2;try simp only[D6] at h2
   refine GC.region ?_;refine AA 1 ?_
   refine Ac (?_:GC _ _ _ _)
   refine AV 1 ?_;refine Bc rfl Tryz.call170 rfl (is:=[]) (js:=[]) rfl rfl (by exact QW _) (λv a w he h=>Iu.panic ⟨⟨_,he⟩,by rw[Rt,Fj];exact if_neg (by omega)⟩ h) (GL.ret ?_)
   rintro _ _ _ ⟨he26,rfl,rfl,rfl⟩
   refine BL 4 ?_;refine BI 0 ?_;refine BL 2 ?_;refine Ap ?_;refine GC.ret (DW 2 [0] [0] ?_)
   have e0:e15=0:=by omega
   exact zq71_
  intro h2;try simp only[D6] at h2
  refine GC.skip (?_:GC _ _ _ _)
  refine AV 1 ?_;refine Bc rfl Tryz.call170 rfl (is:=[]) (js:=[]) rfl rfl (by exact QW _) (λv a w he h=>Iu.panic ⟨⟨_,he⟩,by rw[Rt,Fj];exact if_neg (by omega)⟩ h) (GL.ret ?_)
  rintro _ _ _ ⟨he26,rfl,rfl,rfl⟩
  refine BL 4 ?_;refine BI 0 ?_;refine BL 2 ?_;refine Ap ?_;refine GC.ret (DW 2 [0] [0] ?_)
  have e0:e15=0:=by omega
  exact zq71_
 intro h1;try simp only[D6] at h1
 refine AL 3 ?_;refine AY rfl ?_
 refine GC.skip (?_:GC _ _ _ _)
 refine AV 1 ?_;refine Bc rfl Tryz.call170 rfl (is:=[]) (js:=[]) rfl rfl (by exact QW _) (λv a w he h=>Iu.panic ⟨⟨_,he⟩,by rw[Rt,Fj];exact if_neg (by omega)⟩ h) (GL.ret ?_)
 rintro _ _ _ ⟨he26,rfl,rfl,rfl⟩
 refine BL 4 ?_;refine BI 0 ?_;refine BL 2 ?_;refine Ap ?_;refine GC.ret (DW 2 [0] [0] ?_)
 have e0:e15=0:=by omega
 exact zq71_
def Fq{α σ:Type}(f:σ->Option (α×σ))(t:σ):Nat->Option (List α×σ)
 |0=>some ([],t)
 |k+1=>(Fq f t k).bind λr=>(f r.2).map λx=>(r.1++[x.1],x.2)
theorem iE{α σ:Type}{f:σ->Option (α×σ)}{t:σ}{k:Nat}(h:Fq f t k=none):∀{m:Nat},k<=m->Fq f t m=none:=by
  intro m hm
  induction m with
  |zero =>
            obtain rfl:k=0:=by omega
            exact h
  |succ m ih =>
    by_cases he:k=m+1
    · subst he;exact h
    · rw[Fq,ih (by omega)];rfl
theorem J6{α σ:Type}{f:σ->Option (α×σ)}{t u v:σ}{k:Nat}{xs:List α}{x:α}(h:Fq f t k=some (xs,u))(hx:f u=some (x,v)):Fq f t (k+1)=some (xs++[x],v):=by
 rw[Fq,h];simp[hx]
theorem FV{α σ:Type}{f:σ->Option (α×σ)}{t u:σ}{k m:Nat}{xs:List α}(h:Fq f t k=some (xs,u))(hx:f u=none)(hm:k<m):Fq f t m=none :=
 iE (k:=k+1) (by rw[Fq,h];simp[hx]) hm
theorem Jm{b:List UInt8}{at_ n:Nat}{v:Int}{t:Nat}(h:FU b at_ n=some (v,t))(hn:n<=7):0<=v:=by
 unfold FU at h
 split at h
 ·rename_i hq
  obtain⟨h1,h2⟩:=Prod.mk.inj (Option.some.inj h)
  have hv:GH (seg b at_ (at_+n))<256 ^ n:=Jg hq (by omega)
  have hp:256 ^ n<=256 ^ 7:=Nat.pow_le_pow_right (by decide) hn
  have h7:(256:Nat) ^ 7=72057594037927936:=by decide
  split at h1<;>omega
 ·cases h
def Nr(b:List UInt8)(at_:Nat):Option (Ld×Nat) :=
 (FU b at_ 8).bind λe=>(FU b e.2 1).bind λc=>(Fq (λt=>FU b t 1) c.2 c.1.toNat).map λr=>(⟨e.1,r.1⟩,r.2)
theorem zq72_{X:Prop}(h:X:=by(exact λa w h=>⟨(k+1),(xs++[v20]),(_),(_),(by omega),⟨⟨by simp;omega,by omega⟩,by omega,J6 hk.2.2 Iq⟩,h.cut (is:=[1,1,1,1]) (js:=[0]) ⟨rfl,rfl,rfl,rfl,rfl,trivial⟩ rfl rfl⟩)):X:=h
theorem mG(p e_:Nat)(A:Option Addr)(b:List UInt8)(cp at_:Nat)(hb:b.length<=cp)(hb':b.length<=10000000000000)(hat:at_<=b.length):PK Tryz.prog 171 [.pointer (some ⟨p,0,none⟩)] (KP p e_ A b cp at_) [D7.row Kd.u8 A b]
    (λu G Q=>∃(g:Ld) (t:Nat) (A':Option Addr) (c':Nat),Nr b at_=some (g,t)/\(t<=b.length/\g.members.length<=255)/\g.members.length<=c'/\c'<=9223372036854775807/\u=.agg #[.int .i64 g.epoch,.slice A' g.members.length c']/\G=KP p e_ A b cp t/\Q=[D7.row kI A' g.members]) (λv=>Qy v/\Nr b at_=none):=by
 have hp1:(256:Nat) ^ 1=256:=Gp
 refine PK.intro Tryz.func171 rfl rfl rfl (λc hc=>?_)
 refine AX ?_;refine GL.step rfl (EH rfl OG) (Aa λGm=>?_);refine BL 3 ?_;refine Bc rfl Tryz.call169 rfl (is:=[1]) (js:=[0]) rfl rfl (by exact(Em _ _ _ b _ at_ 8 (by omega) (by omega) (by omega) (by omega) (by omega)).mono (λ_ _ _ h=>h) (λ_ h=>⟨h.1,by simp only[Nr,h.2,Option.bind_none]⟩)) (λv a w he h=>Iu.panic he h) (GL.ret ?_)
 rintro _ _ _ ⟨v7,t7,hs7,rfl,rfl,rfl⟩
 obtain⟨ht7,hu7,hv7,hw7,hx7⟩:=ER hs7
 refine AO rfl (ED OG lN rfl rfl) ?_;refine GL.step rfl (EH rfl OG) (Aa λFQ=>?_);refine Ar 0 ?_;refine Ap ?_;refine AB ?_;refine AV 3 ?_;refine Bc rfl Tryz.call169 rfl (is:=[1]) (js:=[0]) rfl rfl (by exact(Em _ _ _ b _ t7 1 (by omega) (by omega) (by omega) (by omega) (by omega)).mono (λ_ _ _ h=>h) (λ_ h=>⟨h.1,by simp only[Nr,hs7,Option.bind_some,h.2,Option.bind_none]⟩)) (λv a w he h=>Iu.panic he h) (GL.ret ?_)
 rintro _ _ _ ⟨v12,t12,XU,rfl,rfl,rfl⟩
 obtain⟨ht12,hu12,hv12,hw12,hx12⟩:=ER XU
 have hpos:=Jm XU (by omega)
 refine GL.Hu 3 1 ?_;refine AL 1 ?_;refine GC.block ?_;refine Dp (ks:=[0,2,3,12]) (is:=[3]) (js:=[0]) (fun(k:Nat) (xs:List Int) (U:Value) (t:Nat)=>(xs.length=k/\t<=b.length)/\(k:Int)<=v12/\Fq (λt=>FU b t 1) t12 k=some (xs,t)) (fun(k:Nat) (xs:List Int) (U:Value) (t:Nat)=>[(13,.int .i64 (k:Int))]) (fun(k:Nat) (xs:List Int) (U:Value) (t:Nat)=>[.cells p [.slice A b.length cp,.int .i64 (t:Int)] e_,.cells FQ [.int .i64 v7,U] 55,.row U 3 1 xs.length (xs.map (Value.int .i64))]) (fun(k:Nat) (xs:List Int) (U:Value) (t:Nat)=>[]) (fun(k:Nat) (xs:List Int) (U:Value) (t:Nat)=>v12.toNat - k) (0) ([]) (_) (t12) rfl rfl rfl (λa w h=>⟨⟨⟨rfl,by omega⟩,by omega,rfl⟩,h.Hf (is:=[1,1,0,0]) (js:=[0]) (ks:=[0,2,3,12]) ⟨rfl,trivial⟩ rfl rfl rfl⟩) ?_
 intro k xs U t hk
 try dsimp only[List.cons_append,List.nil_append] at hk ⊢
 refine AP 1 ?_;refine AB ?_;refine Af ?_ ?_
 ·intro h1;try simp only[D6] at h1
  refine GC.skip (?_:GC _ _ _ _)
  refine AB ?_;refine GC.block ?_;refine Df (m:=10) (is:=[3]) (js:=[0]) Ef rfl rfl rfl (λ_ _ _ hd hp hD=>⟨hd.trans hD,.inr hp⟩) ?_
  refine BK 0 [3] [0] ?_
  refine BK 2 [3] [0] ?_
  refine BK 3 [3] [0] ?_
  refine BK 4 [3] [0] ?_
  refine BH [1,5] ?_
  refine IZ.cons (i:=1) rfl rfl (Ed rfl (EF (i:=1) rfl rfl JZ rfl)) (by rintro a w h;exact h.me [3] [0]) ?_ ?_
  ·refine BH [5] ?_
   refine BD (i:=5) rfl rfl Tryz.call169 rfl (is:=[0]) (js:=[0]) rfl rfl (by exact(Em _ _ _ b _ t 1 (by omega) (by omega) (by omega) (by omega) (by omega)).mono (λ_ _ _ h=>h) (λ_ h=>⟨h.1,by simp only[Nr,hs7,XU,Option.bind_some];rw[FV hk.2.2 h.2 (by omega)];rfl⟩)) (by rintro a w ⟨_,_,_,⟨v20,t20,Iq,rfl,rfl,rfl⟩,h⟩;exact h.me [3] [0]) (GX.ret ?_) Aq
   rintro _ _ _ ⟨v20,t20,Iq,rfl,rfl,rfl⟩
   obtain⟨ht20,hu20,qo,ql,qg⟩:=ER Iq
   refine BH [6] ?_
   refine IZ.cons (i:=6) rfl rfl (EC rfl Tryz.underlying53 GV Ja rfl rfl rfl rfl rfl rfl) (by rintro a w ⟨_,h⟩;exact h.me [4] [0]) (Bj λX_=>?_) Aq
   refine BH [7] ?_
   refine IZ.cons (i:=7) rfl rfl (Eh (i:=3) (k:=0) rfl NS rfl rfl rfl rfl rfl (EX rfl) (by have:=hk.1.1;omega) (λ_=>rfl)) (by rintro a w ⟨_,h⟩;exact h.me [4] [0]) (Bj λv22=>?_) Aq
   refine GX.shape (i:=3) rfl (λA_v22 c_v22 bf l_v22 k_v22=>?_)
   subst bf
   refine BK 8 [4] [0] ?_
   refine BH [9] ?_
   refine IZ.cons (i:=9) rfl rfl (Et (i:=2) rfl rfl rfl rfl O7 rfl rfl rfl) (by rintro a w h;exact h.me [4] [0]) ?_ Aq
   refine B_ (by kernel_rfl) (?_:GC _ _ _ _)
   refine GC.region ?_;refine GL.rowIs (i:=3) (m':=((xs++[v20])).length) (cs':=((xs++[v20])).map (Value.int .i64)) rfl (by first|rfl|(simp;done)|(simp;omega)) (by first|rfl|(simp;done)) rfl ?_
   refine AO rfl (EU rfl rfl (Fh (by omega) (by omega))) ?_;refine AA 1 ?_;refine Ac ?_
   exact zq72_
  refine BD (i:=5) rfl rfl Tryz.call169 rfl (is:=[0]) (js:=[0]) rfl rfl (by exact(Em _ _ _ b _ t 1 (by omega) (by omega) (by omega) (by omega) (by omega)).mono (λ_ _ _ h=>h) (λ_ h=>⟨h.1,by simp only[Nr,hs7,XU,Option.bind_some];rw[FV hk.2.2 h.2 (by omega)];rfl⟩)) (by rintro a w ⟨_,_,_,⟨v20,t20,Iq,rfl,rfl,rfl⟩,h⟩;exact h.me [3] [0]) (GX.ret ?_) Aq
  rintro _ _ _ ⟨v20,t20,Iq,rfl,rfl,rfl⟩
  obtain⟨ht20,hu20,qo,ql,qg⟩:=ER Iq
  refine BH [1,6] ?_
  refine IZ.cons (i:=1) rfl rfl (Ed rfl (EF (i:=1) rfl rfl JZ rfl)) (by rintro a w h;exact h.me [3] [0]) ?_ ?_
  ·refine BH [6] ?_
   refine IZ.cons (i:=6) rfl rfl (EC rfl Tryz.underlying53 GV Ja rfl rfl rfl rfl rfl rfl) (by rintro a w ⟨_,h⟩;exact h.me [4] [0]) (Bj λX_=>?_) Aq
   refine BH [7] ?_
   refine IZ.cons (i:=7) rfl rfl (Eh (i:=3) (k:=0) rfl NS rfl rfl rfl rfl rfl (EX rfl) (by have:=hk.1.1;omega) (λ_=>rfl)) (by rintro a w ⟨_,h⟩;exact h.me [4] [0]) (Bj λv22=>?_) Aq
   refine GX.shape (i:=3) rfl (λA_v22 c_v22 bf l_v22 k_v22=>?_)
   subst bf
   refine BK 8 [4] [0] ?_
   refine BH [9] ?_
   refine IZ.cons (i:=9) rfl rfl (Et (i:=2) rfl rfl rfl rfl O7 rfl rfl rfl) (by rintro a w h;exact h.me [4] [0]) ?_ Aq
   refine B_ (by kernel_rfl) (?_:GC _ _ _ _)
   refine GC.region ?_;refine GL.rowIs (i:=3) (m':=((xs++[v20])).length) (cs':=((xs++[v20])).map (Value.int .i64)) rfl (by first|rfl|(simp;done)|(simp;omega)) (by first|rfl|(simp;done)) rfl ?_
   refine AO rfl (EU rfl rfl (Fh (by omega) (by omega))) ?_;refine AA 1 ?_;refine Ac ?_
   exact zq72_
  refine IZ.cons (i:=6) rfl rfl (EC rfl Tryz.underlying53 GV Ja rfl rfl rfl rfl rfl rfl) (by rintro a w ⟨_,h⟩;exact h.me [4] [0]) (Bj λX_=>?_) Aq
  refine BH [1] ?_
  refine IZ.cons (i:=1) rfl rfl (Ed rfl (EF (i:=2) rfl rfl JZ rfl)) (by rintro a w h;exact h.me [4] [0]) ?_ Aq
  refine BH [7] ?_
  refine IZ.cons (i:=7) rfl rfl (Eh (i:=3) (k:=0) rfl NS rfl rfl rfl rfl rfl (EX rfl) (by have:=hk.1.1;omega) (λ_=>rfl)) (by rintro a w ⟨_,h⟩;exact h.me [4] [0]) (Bj λv22=>?_) Aq
  refine GX.shape (i:=3) rfl (λA_v22 c_v22 bf l_v22 k_v22=>?_)
  subst bf
  refine BK 8 [4] [0] ?_
  refine BH [9] ?_
  refine IZ.cons (i:=9) rfl rfl (Et (i:=2) rfl rfl rfl rfl O7 rfl rfl rfl) (by rintro a w h;exact h.me [4] [0]) ?_ Aq
  refine B_ (by kernel_rfl) (?_:GC _ _ _ _)
  refine GC.region ?_;refine GL.rowIs (i:=3) (m':=((xs++[v20])).length) (cs':=((xs++[v20])).map (Value.int .i64)) rfl (by first|rfl|(simp;done)|(simp;omega)) (by first|rfl|(simp;done)) rfl ?_
  refine AO rfl (EU rfl rfl (Fh (by omega) (by omega))) ?_;refine AA 1 ?_;refine Ac ?_
  exact zq72_
 intro h1;try simp only[D6] at h1
 refine GC.exit (?_:GC _ _ _ _)
 refine AX ?_;refine GL.shape (i:=2) rfl (λA_M c_M e_M l_M k_M=>?_)
 subst e_M
 refine GL.LQ (i:=2) rfl ?_;refine Az 1 2 ?_;refine Ar 2 ?_;refine Ap ?_;refine GC.ret (DJ 2 55 2 2 [0] [0] ?_)
 exact⟨⟨v7,xs⟩,_,_,_,by simp only[Nr,hs7,XU,Option.bind_some];rw[show v12.toNat=k by omega,hk.2.2];rfl,⟨hk.1.2,by have:=hk.1.1;show xs.length<=255;omega⟩,l_M,k_M,rfl,rfl,rfl⟩
def KA(b:List UInt8)(k n v c s:Int)(t:Nat):Option (Entry×Nat) :=
 if k=1 then (JM (seg b t b.length)).map λo=>(⟨k,n,v,c,s,o.1,Le⟩,t+o.2)
 else if k=2 then (Nr b t).map λg=>(⟨k,n,v,c,s,Iw,g.1⟩,g.2)
 else some (⟨k,n,v,c,s,Iw,Le⟩,t)
def Py(r:Entry×Nat):Option (Entry×Nat):=if Oy r.1=0 then some r else none
def Gf(b:List UInt8)(at_:Nat):Option (Entry×Nat) :=
 (FU b at_ 1).bind λk=>(FU b k.2 8).bind λn=>(FU b n.2 8).bind λv=>(FU b v.2 8).bind λc=>(FU b c.2 8).bind λs=>(KA b k.1 n.1 v.1 c.1 s.1 s.2).bind Py
theorem Gt{b:List UInt8}{t:Nat}(h:t<=b.length):(seg b t b.length).length=b.length - t:=seg_length (Nat.le_refl _)
abbrev EntR(e:Entry)(u:Value)(Q:List D7):Prop:=∃A cp B cq C cr,e.op.data.length<=cp/\cp<=9223372036854775807/\e.op.old.length<=cq/\cq<=9223372036854775807/\e.grp.members.length<=cr/\cr<=9223372036854775807/\u=Wj e A cp B cq C cr/\Q=Wn e A B C
theorem ZI{X:Prop}(h:X:=by(exact B_ (by kernel_rfl) (λa w h=>⟨_,_,_,_,_,_,_,_,_,_,_,⟨hs10,Fj,KT,LG,IE⟩,h.cut (is:=[0,0,0]) (js:=[0]) ⟨rfl,rfl,rfl,trivial⟩ rfl rfl⟩))):X:=h
theorem zq74_{X:Prop}(h:X:=by(exact BG (by kernel_rfl) (λa w h=>⟨_,_,_,_,_,_,_,_,⟨bC,hn45,l45,k45,m45,p45⟩,h.cut (is:=[1,1,1,0]) (js:=[0,1,3]) ⟨rfl,rfl,rfl,rfl,rfl,rfl,trivial⟩ rfl rfl⟩))):X:=h
theorem zq75_{X:Prop}(h:X:=by(exact Iu.panic ⟨⟨42,by decide,rfl⟩,by rw[hMB,Py];exact if_neg (by assumption)⟩ h)):X:=h
theorem mentr_ct(p e_:Nat)(A:Option Addr)(b:List UInt8)(cp at_:Nat)(hb:b.length<=cp)(Gl:cp<=9223372036854775807)(hb':b.length<=10000000000000)(hat:at_<=b.length):PK Tryz.prog 115 [.pointer (some ⟨p,0,none⟩)] (KP p e_ A b cp at_) [D7.row Kd.u8 A b]
    (λu G Q=>∃(e:Entry) (t:Nat),Gf b at_=some (e,t)/\t<=b.length/\EntR e u Q/\G=KP p e_ A b cp t) (λv=>Qy v/\Gf b at_=none):=by
 have hp1:(256:Nat) ^ 1=256:=Gp
 refine PK.intro Tryz.func115 rfl rfl rfl (λc hc=>?_)
 refine AX ?_;refine GL.step rfl (EH rfl Ia) (Aa λGm=>?_);refine Ap ?_;refine AB ?_;refine Cc (m:=24) (M:=λa w=>∃v10:Int,∃t10:Nat,∃v15:Int,∃t15:Nat,∃v19:Int,∃t19:Nat,∃v23:Int,∃t23:Nat,∃v27:Int,∃t27:Nat,∃FQ:Nat,(FU b at_ 1=some (v10,t10)/\FU b t10 8=some (v15,t15)/\FU b t15 8=some (v19,t19)/\FU b t19 8=some (v23,t23)/\FU b t23 8=some (v27,t27))/\St c 74 [(0,.pointer (some ⟨p,0,none⟩)),(2,.pointer (some ⟨Gm,0,none⟩)),(3,.pointer (some ⟨FQ,0,none⟩))] [.cells p [.slice A b.length cp,.int .i64 (t27:Int)] e_,.cells FQ [.int .u8 v10,.int .i64 v15,.int .i64 v19,.int .i64 v23,.int .i64 v27,.int .u8 0,.int .i64 0,.int .i64 0,.slice none 0 0,.slice none 0 0,.int .i64 0,.slice none 0 0] 97,.cells Gm [.int .u8 0,.int .i64 0,.int .i64 0,.int .i64 0,.int .i64 0,.int .u8 0,.int .i64 0,.int .i64 0,.slice none 0 0,.slice none 0 0,.int .i64 0,.slice none 0 0] 97] [D7.row Kd.u8 A b] a w) (is:=[0]) (js:=[0]) Ef rfl rfl rfl (λ_ _ _ hd hp hD=>⟨hd.trans hD,.inr hp⟩) ?_ ?_
 ·refine BK 0 [0] [0] ?_
  refine BK 1 [0] [0] ?_
  refine BK 2 [0] [0] ?_
  refine BK 5 [0] [0] ?_
  refine BK 6 [0] [0] ?_
  refine BK 7 [0] [0] ?_
  refine BK 9 [0] [0] ?_
  refine BK 10 [0] [0] ?_
  refine BK 11 [0] [0] ?_
  refine BK 13 [0] [0] ?_
  refine BK 14 [0] [0] ?_
  refine BK 15 [0] [0] ?_
  refine BK 17 [0] [0] ?_
  refine BK 18 [0] [0] ?_
  refine BK 19 [0] [0] ?_
  refine BH [3,22] ?_
  refine BD (i:=3) rfl rfl Tryz.call169 rfl (is:=[1]) (js:=[0]) rfl rfl (by exact(Em _ _ _ b _ at_ 1 (by omega) (by omega) (by omega) (by omega) (by omega)).mono (λ_ _ _ h=>h) (λ_ h=>⟨h.1,by simp only[Gf,h.2,Option.bind_none]⟩)) (by rintro a w ⟨_,_,_,⟨v10,t10,hs10,rfl,rfl,rfl⟩,h⟩;exact h.me [1] [0]) (GX.ret ?_) ?_
  ·rintro _ _ _ ⟨v10,t10,hs10,rfl,rfl,rfl⟩
   obtain⟨ht10,hu10,iL,iK,qh⟩:=ER hs10
   refine Bq 4 rfl [1] [0] (EK (EO (t:=3) (r:=v10) (by rw[Tryz.underlying3];simp) Tryz.underlying95 rfl (by have:=Jm hs10 (by omega);simp[IntKind.wrap,IntKind.bits,IntKind.signed];omega))) ?_
   refine BH [8,22] ?_
   refine BD (i:=8) rfl rfl Tryz.call169 rfl (is:=[0]) (js:=[0]) rfl rfl (by exact(Em _ _ _ b _ t10 8 (by omega) (by omega) (by omega) (by omega) (by omega)).mono (λ_ _ _ h=>h) (λ_ h=>⟨h.1,by simp only[Gf,hs10,Option.bind_some,h.2,Option.bind_none]⟩)) (by rintro a w ⟨_,_,_,⟨v15,t15,Fj,rfl,rfl,rfl⟩,h⟩;exact h.me [1] [0]) (GX.ret ?_) ?_
   ·rintro _ _ _ ⟨v15,t15,Fj,rfl,rfl,rfl⟩
    obtain⟨au,hu15,aj,ah,iJ⟩:=ER Fj
    refine BH [12,22] ?_
    refine BD (i:=12) rfl rfl Tryz.call169 rfl (is:=[0]) (js:=[0]) rfl rfl (by exact(Em _ _ _ b _ t15 8 (by omega) (by omega) (by omega) (by omega) (by omega)).mono (λ_ _ _ h=>h) (λ_ h=>⟨h.1,by simp only[Gf,hs10,Fj,Option.bind_some,h.2,Option.bind_none]⟩)) (by rintro a w ⟨_,_,_,⟨v19,t19,KT,rfl,rfl,rfl⟩,h⟩;exact h.me [1] [0]) (GX.ret ?_) ?_
    ·rintro _ _ _ ⟨v19,t19,KT,rfl,rfl,rfl⟩
     obtain⟨ht19,hu19,hv19,hw19,hx19⟩:=ER KT
     refine BH [16,22] ?_
     refine BD (i:=16) rfl rfl Tryz.call169 rfl (is:=[0]) (js:=[0]) rfl rfl (by exact(Em _ _ _ b _ t19 8 (by omega) (by omega) (by omega) (by omega) (by omega)).mono (λ_ _ _ h=>h) (λ_ h=>⟨h.1,by simp only[Gf,hs10,Fj,KT,Option.bind_some,h.2,Option.bind_none]⟩)) (by rintro a w ⟨_,_,_,⟨v23,t23,LG,rfl,rfl,rfl⟩,h⟩;exact h.me [1] [0]) (GX.ret ?_) ?_
     ·rintro _ _ _ ⟨v23,t23,LG,rfl,rfl,rfl⟩
      obtain⟨qw,hu23,qm,qj,hx23⟩:=ER LG
      refine BH [20,22] ?_
      refine BD (i:=20) rfl rfl Tryz.call169 rfl (is:=[0]) (js:=[0]) rfl rfl (by exact(Em _ _ _ b _ t23 8 (by omega) (by omega) (by omega) (by omega) (by omega)).mono (λ_ _ _ h=>h) (λ_ h=>⟨h.1,by simp only[Gf,hs10,Fj,KT,LG,Option.bind_some,h.2,Option.bind_none]⟩)) (by rintro a w ⟨_,_,_,⟨v27,t27,IE,rfl,rfl,rfl⟩,h⟩;exact h.me [1] [0]) (GX.ret ?_) ?_
      ·rintro _ _ _ ⟨v27,t27,IE,rfl,rfl,rfl⟩
       obtain⟨ak,iM,hv27,Ug,hx27⟩:=ER IE
       refine Bq 21 rfl [1] [0] (EK (ED Ia Qo rfl rfl)) ?_
       refine BH [22] ?_
       refine IZ.cons (i:=22) rfl rfl (EH rfl Ia) (by rintro a w ⟨_,h⟩;exact h.me [2] [0]) (Bj λFQ=>?_) Aq
       refine BH [23] ?_
       refine IZ.cons (i:=23) rfl rfl (EZ (i:=0) rfl rfl rfl F9 rfl rfl rfl) (by rintro a w h;exact h.me [2] [0]) ?_ Aq
       exact B_ (by kernel_rfl) (λa w h=>⟨_,_,_,_,_,_,_,_,_,_,_,⟨hs10,Fj,KT,LG,IE⟩,h.cut (is:=[1,0,0]) (js:=[0]) ⟨rfl,rfl,rfl,trivial⟩ rfl rfl⟩)
      refine IZ.cons (i:=22) rfl rfl (EH rfl Ia) (by rintro a w ⟨_,h⟩;exact h.me [2] [0]) (Bj λFQ=>?_) Aq
      refine BH [20] ?_
      refine BD (i:=20) rfl rfl Tryz.call169 rfl (is:=[1]) (js:=[0]) rfl rfl (by exact(Em _ _ _ b _ t23 8 (by omega) (by omega) (by omega) (by omega) (by omega)).mono (λ_ _ _ h=>h) (λ_ h=>⟨h.1,by simp only[Gf,hs10,Fj,KT,LG,Option.bind_some,h.2,Option.bind_none]⟩)) (by rintro a w ⟨_,_,_,⟨v27,t27,IE,rfl,rfl,rfl⟩,h⟩;exact h.me [2] [0]) (GX.ret ?_) Aq
      rintro _ _ _ ⟨v27,t27,IE,rfl,rfl,rfl⟩
      obtain⟨ak,iM,hv27,Ug,hx27⟩:=ER IE
      refine Bq 21 rfl [2] [0] (EK (ED Ia Qo rfl rfl)) ?_
      refine BH [23] ?_
      refine IZ.cons (i:=23) rfl rfl (EZ (i:=1) rfl rfl rfl F9 rfl rfl rfl) (by rintro a w h;exact h.me [2] [0]) ?_ Aq
      exact ZI
     refine IZ.cons (i:=22) rfl rfl (EH rfl Ia) (by rintro a w ⟨_,h⟩;exact h.me [2] [0]) (Bj λFQ=>?_) Aq
     refine BH [16] ?_
     refine BD (i:=16) rfl rfl Tryz.call169 rfl (is:=[1]) (js:=[0]) rfl rfl (by exact(Em _ _ _ b _ t19 8 (by omega) (by omega) (by omega) (by omega) (by omega)).mono (λ_ _ _ h=>h) (λ_ h=>⟨h.1,by simp only[Gf,hs10,Fj,KT,Option.bind_some,h.2,Option.bind_none]⟩)) (by rintro a w ⟨_,_,_,⟨v23,t23,LG,rfl,rfl,rfl⟩,h⟩;exact h.me [2] [0]) (GX.ret ?_) Aq
     rintro _ _ _ ⟨v23,t23,LG,rfl,rfl,rfl⟩
     obtain⟨qw,hu23,qm,qj,hx23⟩:=ER LG
     refine BH [20] ?_
     refine BD (i:=20) rfl rfl Tryz.call169 rfl (is:=[0]) (js:=[0]) rfl rfl (by exact(Em _ _ _ b _ t23 8 (by omega) (by omega) (by omega) (by omega) (by omega)).mono (λ_ _ _ h=>h) (λ_ h=>⟨h.1,by simp only[Gf,hs10,Fj,KT,LG,Option.bind_some,h.2,Option.bind_none]⟩)) (by rintro a w ⟨_,_,_,⟨v27,t27,IE,rfl,rfl,rfl⟩,h⟩;exact h.me [2] [0]) (GX.ret ?_) Aq
     rintro _ _ _ ⟨v27,t27,IE,rfl,rfl,rfl⟩
     obtain⟨ak,iM,hv27,Ug,hx27⟩:=ER IE
     refine Bq 21 rfl [2] [0] (EK (ED Ia Qo rfl rfl)) ?_
     refine BH [23] ?_
     refine IZ.cons (i:=23) rfl rfl (EZ (i:=1) rfl rfl rfl F9 rfl rfl rfl) (by rintro a w h;exact h.me [2] [0]) ?_ Aq
     exact ZI
    refine IZ.cons (i:=22) rfl rfl (EH rfl Ia) (by rintro a w ⟨_,h⟩;exact h.me [2] [0]) (Bj λFQ=>?_) Aq
    refine BH [12] ?_
    refine BD (i:=12) rfl rfl Tryz.call169 rfl (is:=[1]) (js:=[0]) rfl rfl (by exact(Em _ _ _ b _ t15 8 (by omega) (by omega) (by omega) (by omega) (by omega)).mono (λ_ _ _ h=>h) (λ_ h=>⟨h.1,by simp only[Gf,hs10,Fj,Option.bind_some,h.2,Option.bind_none]⟩)) (by rintro a w ⟨_,_,_,⟨v19,t19,KT,rfl,rfl,rfl⟩,h⟩;exact h.me [2] [0]) (GX.ret ?_) Aq
    rintro _ _ _ ⟨v19,t19,KT,rfl,rfl,rfl⟩
    obtain⟨ht19,hu19,hv19,hw19,hx19⟩:=ER KT
    refine BH [16] ?_
    refine BD (i:=16) rfl rfl Tryz.call169 rfl (is:=[0]) (js:=[0]) rfl rfl (by exact(Em _ _ _ b _ t19 8 (by omega) (by omega) (by omega) (by omega) (by omega)).mono (λ_ _ _ h=>h) (λ_ h=>⟨h.1,by simp only[Gf,hs10,Fj,KT,Option.bind_some,h.2,Option.bind_none]⟩)) (by rintro a w ⟨_,_,_,⟨v23,t23,LG,rfl,rfl,rfl⟩,h⟩;exact h.me [2] [0]) (GX.ret ?_) Aq
    rintro _ _ _ ⟨v23,t23,LG,rfl,rfl,rfl⟩
    obtain⟨qw,hu23,qm,qj,hx23⟩:=ER LG
    refine BH [20] ?_
    refine BD (i:=20) rfl rfl Tryz.call169 rfl (is:=[0]) (js:=[0]) rfl rfl (by exact(Em _ _ _ b _ t23 8 (by omega) (by omega) (by omega) (by omega) (by omega)).mono (λ_ _ _ h=>h) (λ_ h=>⟨h.1,by simp only[Gf,hs10,Fj,KT,LG,Option.bind_some,h.2,Option.bind_none]⟩)) (by rintro a w ⟨_,_,_,⟨v27,t27,IE,rfl,rfl,rfl⟩,h⟩;exact h.me [2] [0]) (GX.ret ?_) Aq
    rintro _ _ _ ⟨v27,t27,IE,rfl,rfl,rfl⟩
    obtain⟨ak,iM,hv27,Ug,hx27⟩:=ER IE
    refine Bq 21 rfl [2] [0] (EK (ED Ia Qo rfl rfl)) ?_
    refine BH [23] ?_
    refine IZ.cons (i:=23) rfl rfl (EZ (i:=1) rfl rfl rfl F9 rfl rfl rfl) (by rintro a w h;exact h.me [2] [0]) ?_ Aq
    exact ZI
   refine IZ.cons (i:=22) rfl rfl (EH rfl Ia) (by rintro a w ⟨_,h⟩;exact h.me [2] [0]) (Bj λFQ=>?_) Aq
   refine BH [8] ?_
   refine BD (i:=8) rfl rfl Tryz.call169 rfl (is:=[1]) (js:=[0]) rfl rfl (by exact(Em _ _ _ b _ t10 8 (by omega) (by omega) (by omega) (by omega) (by omega)).mono (λ_ _ _ h=>h) (λ_ h=>⟨h.1,by simp only[Gf,hs10,Option.bind_some,h.2,Option.bind_none]⟩)) (by rintro a w ⟨_,_,_,⟨v15,t15,Fj,rfl,rfl,rfl⟩,h⟩;exact h.me [2] [0]) (GX.ret ?_) Aq
   rintro _ _ _ ⟨v15,t15,Fj,rfl,rfl,rfl⟩
   obtain⟨au,hu15,aj,ah,iJ⟩:=ER Fj
   refine BH [12] ?_
   refine BD (i:=12) rfl rfl Tryz.call169 rfl (is:=[0]) (js:=[0]) rfl rfl (by exact(Em _ _ _ b _ t15 8 (by omega) (by omega) (by omega) (by omega) (by omega)).mono (λ_ _ _ h=>h) (λ_ h=>⟨h.1,by simp only[Gf,hs10,Fj,Option.bind_some,h.2,Option.bind_none]⟩)) (by rintro a w ⟨_,_,_,⟨v19,t19,KT,rfl,rfl,rfl⟩,h⟩;exact h.me [2] [0]) (GX.ret ?_) Aq
   rintro _ _ _ ⟨v19,t19,KT,rfl,rfl,rfl⟩
   obtain⟨ht19,hu19,hv19,hw19,hx19⟩:=ER KT
   refine BH [16] ?_
   refine BD (i:=16) rfl rfl Tryz.call169 rfl (is:=[0]) (js:=[0]) rfl rfl (by exact(Em _ _ _ b _ t19 8 (by omega) (by omega) (by omega) (by omega) (by omega)).mono (λ_ _ _ h=>h) (λ_ h=>⟨h.1,by simp only[Gf,hs10,Fj,KT,Option.bind_some,h.2,Option.bind_none]⟩)) (by rintro a w ⟨_,_,_,⟨v23,t23,LG,rfl,rfl,rfl⟩,h⟩;exact h.me [2] [0]) (GX.ret ?_) Aq
   rintro _ _ _ ⟨v23,t23,LG,rfl,rfl,rfl⟩
   obtain⟨qw,hu23,qm,qj,hx23⟩:=ER LG
   refine BH [20] ?_
   refine BD (i:=20) rfl rfl Tryz.call169 rfl (is:=[0]) (js:=[0]) rfl rfl (by exact(Em _ _ _ b _ t23 8 (by omega) (by omega) (by omega) (by omega) (by omega)).mono (λ_ _ _ h=>h) (λ_ h=>⟨h.1,by simp only[Gf,hs10,Fj,KT,LG,Option.bind_some,h.2,Option.bind_none]⟩)) (by rintro a w ⟨_,_,_,⟨v27,t27,IE,rfl,rfl,rfl⟩,h⟩;exact h.me [2] [0]) (GX.ret ?_) Aq
   rintro _ _ _ ⟨v27,t27,IE,rfl,rfl,rfl⟩
   obtain⟨ak,iM,hv27,Ug,hx27⟩:=ER IE
   refine Bq 21 rfl [2] [0] (EK (ED Ia Qo rfl rfl)) ?_
   refine BH [23] ?_
   refine IZ.cons (i:=23) rfl rfl (EZ (i:=1) rfl rfl rfl F9 rfl rfl rfl) (by rintro a w h;exact h.me [2] [0]) ?_ Aq
   exact ZI
  refine IZ.cons (i:=22) rfl rfl (EH rfl Ia) (by rintro a w ⟨_,h⟩;exact h.me [1] [0]) (Bj λFQ=>?_) Aq
  refine BH [3] ?_
  refine BD (i:=3) rfl rfl Tryz.call169 rfl (is:=[2]) (js:=[0]) rfl rfl (by exact(Em _ _ _ b _ at_ 1 (by omega) (by omega) (by omega) (by omega) (by omega)).mono (λ_ _ _ h=>h) (λ_ h=>⟨h.1,by simp only[Gf,h.2,Option.bind_none]⟩)) (by rintro a w ⟨_,_,_,⟨v10,t10,hs10,rfl,rfl,rfl⟩,h⟩;exact h.me [2] [0]) (GX.ret ?_) Aq
  rintro _ _ _ ⟨v10,t10,hs10,rfl,rfl,rfl⟩
  obtain⟨ht10,hu10,iL,iK,qh⟩:=ER hs10
  refine Bq 4 rfl [2] [0] (EK (EO (t:=3) (r:=v10) (by rw[Tryz.underlying3];simp) Tryz.underlying95 rfl (by have:=Jm hs10 (by omega);simp[IntKind.wrap,IntKind.bits,IntKind.signed];omega))) ?_
  refine BH [8] ?_
  refine BD (i:=8) rfl rfl Tryz.call169 rfl (is:=[0]) (js:=[0]) rfl rfl (by exact(Em _ _ _ b _ t10 8 (by omega) (by omega) (by omega) (by omega) (by omega)).mono (λ_ _ _ h=>h) (λ_ h=>⟨h.1,by simp only[Gf,hs10,Option.bind_some,h.2,Option.bind_none]⟩)) (by rintro a w ⟨_,_,_,⟨v15,t15,Fj,rfl,rfl,rfl⟩,h⟩;exact h.me [2] [0]) (GX.ret ?_) Aq
  rintro _ _ _ ⟨v15,t15,Fj,rfl,rfl,rfl⟩
  obtain⟨au,hu15,aj,ah,iJ⟩:=ER Fj
  refine BH [12] ?_
  refine BD (i:=12) rfl rfl Tryz.call169 rfl (is:=[0]) (js:=[0]) rfl rfl (by exact(Em _ _ _ b _ t15 8 (by omega) (by omega) (by omega) (by omega) (by omega)).mono (λ_ _ _ h=>h) (λ_ h=>⟨h.1,by simp only[Gf,hs10,Fj,Option.bind_some,h.2,Option.bind_none]⟩)) (by rintro a w ⟨_,_,_,⟨v19,t19,KT,rfl,rfl,rfl⟩,h⟩;exact h.me [2] [0]) (GX.ret ?_) Aq
  rintro _ _ _ ⟨v19,t19,KT,rfl,rfl,rfl⟩
  obtain⟨ht19,hu19,hv19,hw19,hx19⟩:=ER KT
  refine BH [16] ?_
  refine BD (i:=16) rfl rfl Tryz.call169 rfl (is:=[0]) (js:=[0]) rfl rfl (by exact(Em _ _ _ b _ t19 8 (by omega) (by omega) (by omega) (by omega) (by omega)).mono (λ_ _ _ h=>h) (λ_ h=>⟨h.1,by simp only[Gf,hs10,Fj,KT,Option.bind_some,h.2,Option.bind_none]⟩)) (by rintro a w ⟨_,_,_,⟨v23,t23,LG,rfl,rfl,rfl⟩,h⟩;exact h.me [2] [0]) (GX.ret ?_) Aq
  rintro _ _ _ ⟨v23,t23,LG,rfl,rfl,rfl⟩
  obtain⟨qw,hu23,qm,qj,hx23⟩:=ER LG
  refine BH [20] ?_
  refine BD (i:=20) rfl rfl Tryz.call169 rfl (is:=[0]) (js:=[0]) rfl rfl (by exact(Em _ _ _ b _ t23 8 (by omega) (by omega) (by omega) (by omega) (by omega)).mono (λ_ _ _ h=>h) (λ_ h=>⟨h.1,by simp only[Gf,hs10,Fj,KT,LG,Option.bind_some,h.2,Option.bind_none]⟩)) (by rintro a w ⟨_,_,_,⟨v27,t27,IE,rfl,rfl,rfl⟩,h⟩;exact h.me [2] [0]) (GX.ret ?_) Aq
  rintro _ _ _ ⟨v27,t27,IE,rfl,rfl,rfl⟩
  obtain⟨ak,iM,hv27,Ug,hx27⟩:=ER IE
  refine Bq 21 rfl [2] [0] (EK (ED Ia Qo rfl rfl)) ?_
  refine BH [23] ?_
  refine IZ.cons (i:=23) rfl rfl (EZ (i:=1) rfl rfl rfl F9 rfl rfl rfl) (by rintro a w h;exact h.me [2] [0]) ?_ Aq
  exact ZI
 refine(?_:GC _ _ _ _)
 refine BQ λv10=>BQ λt10=>BQ λv15=>BQ λt15=>BQ λv19=>BQ λt19=>BQ λv23=>BQ λt23=>BQ λv27=>BQ λt27=>BQ λFQ=>GC.and fun⟨hs10,Fj,KT,LG,IE⟩=>?_
 refine AB ?_;refine AX ?_
 obtain⟨ht10,hu10,iL,iK,qh⟩:=ER hs10
 obtain⟨au,hu15,aj,ah,iJ⟩:=ER Fj
 obtain⟨ht19,hu19,hv19,hw19,hx19⟩:=ER KT
 obtain⟨qw,hu23,qm,qj,hx23⟩:=ER LG
 obtain⟨ak,iM,hv27,Ug,hx27⟩:=ER IE
 have hM:Gf b at_=(KA b v10 v15 v19 v23 v27 t27).bind Py:=by simp only[Gf,hs10,Fj,KT,LG,IE,Option.bind_some]
 have hv0:=Jm hs10 (by omega)
 refine AA 1 ?_;refine Ad 1 ?_;refine Ap ?_;refine GC.block ?_;refine AP 2 ?_;refine Af ?_ ?_
 ·intro h1;try simp only[D6] at h1
  refine AB ?_;refine CS (m:=20) (M:=λa w=>∃Yi:LM,∃n45:Nat,∃e45:Int,∃A45:Option Addr,∃c45:Nat,∃B45:Option Addr,∃d45:Nat,∃KZ:Nat,((e45=0->JM (seg b t27 b.length)=some (Yi,n45))/\(n45<=(seg b t27 b.length).length/\(e45≠0->JM (seg b t27 b.length)=none))/\Yi.data.length<=c45/\c45<=9223372036854775807/\Yi.old.length<=d45/\d45<=9223372036854775807)/\St c 74 [(0,.pointer (some ⟨p,0,none⟩)),(2,.pointer (some ⟨Gm,0,none⟩)),(3,.pointer (some ⟨FQ,0,none⟩)),(4,.pointer (some ⟨KZ,0,none⟩)),(5,.int .i64 (n45:Int)),(6,.int .i64 e45)] [.cells p [.slice A b.length cp,.int .i64 (t27:Int)] e_,.cells FQ [.int .u8 v10,.int .i64 v15,.int .i64 v19,.int .i64 v23,.int .i64 v27,.int .u8 0,.int .i64 0,.int .i64 0,.slice none 0 0,.slice none 0 0,.int .i64 0,.slice none 0 0] 97,.cells Gm [.int .u8 0,.int .i64 0,.int .i64 0,.int .i64 0,.int .i64 0,.int .u8 0,.int .i64 0,.int .i64 0,.slice none 0 0,.slice none 0 0,.int .i64 0,.slice none 0 0] 97,.cells KZ [.int .u8 Yi.kind,.int .i64 Yi.at_,.int .i64 Yi.n,.slice A45 Yi.data.length c45,.slice B45 Yi.old.length d45] 49] [D7.row Kd.u8 A45 Yi.data,D7.row Kd.u8 B45 Yi.old,D7.row Kd.u8 A b] a w) (is:=[0,0,0]) (js:=[0]) Ef rfl rfl rfl ?_ ?_
  ·refine AZ 0 [0,0,0] [0] ?_;refine AZ 1 [0,0,0] [0] ?_;refine AZ 2 [0,0,0] [0] ?_;refine AZ 3 [0,0,0] [0] ?_;refine BA 4 rfl [0,0,0] [0] (i_mem (EF (i:=0) rfl rfl G_ rfl)) ?_;refine AZ 5 [0,0,0] [0] ?_
   refine AZ 6 [0,0,0] [0] ?_;refine AZ 7 [0,0,0] [0] ?_;refine AZ 8 [0,0,0] [0] ?_;refine BA 9 rfl [0,0,0] [0] (i_mem (EF (i:=0) rfl rfl Ei rfl)) ?_;refine Aw [10,16] ?_
   refine E8.cons (i:=10) rfl rfl (Jk (j:=0) rfl rfl rfl rfl Tryz.underlying47 Fa (by omega) (by omega) (by omega)) (by rintro a w h;exact h.me [0,0,0] [1]) ?_ ?_
   ·refine Aw [11,16] ?_
    refine E8.cons (i:=11) rfl rfl (EI rfl Tryz.call109 rfl (is:=[]) (js:=[0]) rfl rfl (by exact SN _ (seg b t27 b.length) _ (by rw[Gt (by omega)];omega) (by omega) (by rw[Gt (by omega)];omega))) (by rintro a w ⟨_,_,_,⟨Yi,n45,e45,A45,c45,B45,d45,bC,hn45,l45,k45,m45,p45,rfl,rfl,rfl⟩,h⟩;exact h.me [0,0,0] [3]) (GA.ret ?_) ?_
    ·rintro _ _ _ ⟨Yi,n45,e45,A45,c45,B45,d45,bC,hn45,l45,k45,m45,p45,rfl,rfl,rfl⟩
     have iO:=hn45.1
     rw[Gt (by omega)] at iO
     refine AZ 12 [0,0,0] [3] ?_;refine AZ 13 [0,0,0] [3] ?_;refine AZ 14 [0,0,0] [3] ?_;refine AZ 15 [0,0,0] [3] ?_;refine Aw [16] ?_
     refine E8.cons (i:=16) rfl rfl (EH rfl Hy) (by rintro a w ⟨_,h⟩;exact h.me [1,1,1] [3]) (BZ λKZ=>?_) Ag
     refine Aw [17] ?_
     refine E8.cons (i:=17) rfl rfl (EZ (i:=0) rfl rfl rfl Qm rfl rfl rfl) (by rintro a w h;exact h.me [1,1,1] [3]) ?_ Ag
     refine AZ 18 [1,1,1] [3] ?_;refine AZ 19 [1,1,1] [3] ?_
     exact zq74_
    refine E8.cons (i:=16) rfl rfl (EH rfl Hy) (by rintro a w ⟨_,h⟩;exact h.me [1,1,1] [1]) (BZ λKZ=>?_) Ag
    refine Aw [11] ?_
    refine E8.cons (i:=11) rfl rfl (EI rfl Tryz.call109 rfl (is:=[]) (js:=[0]) rfl rfl (by exact SN _ (seg b t27 b.length) _ (by rw[Gt (by omega)];omega) (by omega) (by rw[Gt (by omega)];omega))) (by rintro a w ⟨_,_,_,⟨Yi,n45,e45,A45,c45,B45,d45,bC,hn45,l45,k45,m45,p45,rfl,rfl,rfl⟩,h⟩;exact h.me [1,1,1] [3]) (GA.ret ?_) Ag
    rintro _ _ _ ⟨Yi,n45,e45,A45,c45,B45,d45,bC,hn45,l45,k45,m45,p45,rfl,rfl,rfl⟩
    have iO:=hn45.1
    rw[Gt (by omega)] at iO
    refine AZ 12 [1,1,1] [3] ?_;refine AZ 13 [1,1,1] [3] ?_;refine AZ 14 [1,1,1] [3] ?_;refine AZ 15 [1,1,1] [3] ?_;refine Aw [17] ?_
    refine E8.cons (i:=17) rfl rfl (EZ (i:=0) rfl rfl rfl Qm rfl rfl rfl) (by rintro a w h;exact h.me [1,1,1] [3]) ?_ Ag
    refine AZ 18 [1,1,1] [3] ?_;refine AZ 19 [1,1,1] [3] ?_
    exact zq74_
   refine E8.cons (i:=16) rfl rfl (EH rfl Hy) (by rintro a w ⟨_,h⟩;exact h.me [1,1,1] [0]) (BZ λKZ=>?_) Ag
   refine Aw [10] ?_
   refine E8.cons (i:=10) rfl rfl (Jk (j:=0) rfl rfl rfl rfl Tryz.underlying47 Fa (by omega) (by omega) (by omega)) (by rintro a w h;exact h.me [1,1,1] [1]) ?_ Ag
   refine Aw [11] ?_
   refine E8.cons (i:=11) rfl rfl (EI rfl Tryz.call109 rfl (is:=[]) (js:=[0]) rfl rfl (by exact SN _ (seg b t27 b.length) _ (by rw[Gt (by omega)];omega) (by omega) (by rw[Gt (by omega)];omega))) (by rintro a w ⟨_,_,_,⟨Yi,n45,e45,A45,c45,B45,d45,bC,hn45,l45,k45,m45,p45,rfl,rfl,rfl⟩,h⟩;exact h.me [1,1,1] [3]) (GA.ret ?_) Ag
   rintro _ _ _ ⟨Yi,n45,e45,A45,c45,B45,d45,bC,hn45,l45,k45,m45,p45,rfl,rfl,rfl⟩
   have iO:=hn45.1
   rw[Gt (by omega)] at iO
   refine AZ 12 [1,1,1] [3] ?_;refine AZ 13 [1,1,1] [3] ?_;refine AZ 14 [1,1,1] [3] ?_;refine AZ 15 [1,1,1] [3] ?_;refine Aw [17] ?_
   refine E8.cons (i:=17) rfl rfl (EZ (i:=0) rfl rfl rfl Qm rfl rfl rfl) (by rintro a w h;exact h.me [1,1,1] [3]) ?_ Ag
   refine AZ 18 [1,1,1] [3] ?_;refine AZ 19 [1,1,1] [3] ?_
   exact zq74_
  refine(?_:GC _ _ _ _)
  refine BQ λYi=>BQ λn45=>BQ λe45=>BQ λA45=>BQ λc45=>BQ λB45=>BQ λd45=>BQ λKZ=>GC.and fun⟨bC,hn45,l45,k45,m45,p45⟩=>?_;refine AX ?_
  have iO:=hn45.1
  rw[Gt (by omega)] at iO
  refine AA 1 ?_;refine Bc rfl Tryz.call170 rfl (is:=[]) (js:=[]) rfl rfl (by exact(QW _).mono (λ_ _ _ h=>h) (λ_ h=>⟨⟨_,h⟩,by rw[hM,KA,if_pos (by assumption),hn45.2 h.1];rfl⟩)) (λv a w he h=>Iu.panic he h) (GL.ret ?_)
  rintro _ _ _ ⟨he50,rfl,rfl,rfl⟩
  have hd45:=bC he50
  refine Ap ?_;refine AX ?_;refine Az 3 5 ?_;refine AA 1 ?_;refine Ar 1 ?_;refine Ap ?_;refine GC.region ?_;refine AA 4 ?_;refine Ad 0 ?_;refine AA 1 ?_;refine AO rfl (EU rfl rfl (Fh (by omega) (by omega))) ?_
  refine AA 3 ?_;refine BI 0 ?_
  refine Ac (?_:GC _ _ _ _)
  refine AB ?_;refine AX ?_;refine GL.know (q:=D7.row Kd.u8 none []) (λ_ _ _=>.inl rfl) ?_;refine GL.know (q:=D7.row kI none []) (λ_ _ _=>.inl rfl) ?_;refine Az 1 12 ?_
  have hBX:KA b v10 v15 v19 v23 v27 t27=some ((⟨v10,v15,v19,v23,v27,Yi,Le⟩:Entry),t27+n45):=by rw[KA,if_pos (by assumption),hd45];rfl
  have hMB:=hM
  rw[hBX,Option.bind_some] at hMB
  refine Ah Tryz.call101 [] [2,3,0] rfl rfl rfl (by exact Ns (⟨v10,v15,v19,v23,v27,Yi,Le⟩:Entry) _ _ _ _ _ _ (by simp[Le])) ?_
  rintro _ _ _ ⟨rfl,rfl,rfl⟩
  refine AL 1 ?_;refine Af ?_ ?_
  ·intro h2;try simp only[D6] at h2
   refine GC.region ?_;refine AO rfl (ED PN TP rfl rfl) ?_;refine AO rfl (J_ Tryz.underlying247 (λm h=>by cases h) rfl) ?_;refine Cb rfl (λa w h=>?_)
   exact zq75_
  intro h2;try simp only[D6] at h2
  refine GC.skip (?_:GC _ _ _ _)
  refine AX ?_;refine Az 1 12 ?_;refine Ar 2 ?_;refine Ap ?_;refine GC.ret (DJ 2 97 2 12 [0] [2,3,0] ?_)
  exact⟨_,_,by rw[hMB,Py];exact if_pos (by assumption),by omega,⟨A45,c45,B45,d45,none,0,l45,k45,m45,p45,by simp[Le],by omega,rfl,rfl⟩,rfl⟩
 intro h1;try simp only[D6] at h1
 refine AP 2 ?_;refine Af ?_ ?_
 ·intro h3;try simp only[D6] at h3
  refine GC.region ?_;refine AA 1 ?_;refine Bc rfl Tryz.call171 rfl (is:=[0]) (js:=[0]) rfl rfl (by exact(mG _ _ _ b _ t27 (by omega) (by omega) (by omega)).mono (λ_ _ _ h=>h) (λ_ h=>⟨h.1,by rw[hM,KA,if_neg (by omega),if_pos (by assumption),h.2];rfl⟩)) (λv a w he h=>Iu.panic he h) (GL.ret ?_)
  rintro _ _ _ ⟨g66,t66,A66,c66,hs66,ht66,l66,m66,rfl,rfl,rfl⟩
  refine AA 1 ?_;refine Ar 1 ?_
  refine Ac (?_:GC _ _ _ _)
  refine AB ?_;refine AX ?_;refine GL.know (q:=D7.row Kd.u8 none []) (λ_ _ _=>.inl rfl) ?_;refine GL.know (q:=D7.row kI none []) (λ_ _ _=>.inl rfl) ?_;refine Az 1 12 ?_
  have hBX:KA b v10 v15 v19 v23 v27 t27=some ((⟨v10,v15,v19,v23,v27,Iw,g66⟩:Entry),t66):=by rw[KA,if_neg (by omega),if_pos (by assumption),hs66];rfl
  have hMB:=hM
  rw[hBX,Option.bind_some] at hMB
  refine Ah Tryz.call101 [] [1,1,2] rfl rfl rfl (by exact Ns (⟨v10,v15,v19,v23,v27,Iw,g66⟩:Entry) _ _ _ _ _ _ (by show g66.members.length<=140737488355328;omega)) ?_
  rintro _ _ _ ⟨rfl,rfl,rfl⟩
  refine AL 1 ?_;refine Af ?_ ?_
  ·intro h4;try simp only[D6] at h4
   refine GC.region ?_;refine AO rfl (ED PN TP rfl rfl) ?_;refine AO rfl (J_ Tryz.underlying247 (λm h=>by cases h) rfl) ?_;refine Cb rfl (λa w h=>?_)
   exact zq75_
  intro h4;try simp only[D6] at h4
  refine GC.skip (?_:GC _ _ _ _)
  refine AX ?_;refine Az 1 12 ?_;refine Ar 2 ?_;refine Ap ?_;refine GC.ret (DJ 2 97 2 12 [0] [1,1,2] ?_)
  exact⟨_,_,by rw[hMB,Py];exact if_pos (by assumption),by omega,⟨none,0,none,0,A66,c66,by simp[Iw],by omega,by simp[Iw],by omega,l66,m66,rfl,rfl⟩,rfl⟩
 intro h3;try simp only[D6] at h3
 refine GC.skip (?_:GC _ _ _ _)
 refine AB ?_;refine AX ?_;refine GL.know (q:=D7.row Kd.u8 none []) (λ_ _ _=>.inl rfl) ?_;refine GL.know (q:=D7.row kI none []) (λ_ _ _=>.inl rfl) ?_;refine Az 1 12 ?_
 have hBX:KA b v10 v15 v19 v23 v27 t27=some ((⟨v10,v15,v19,v23,v27,Iw,Le⟩:Entry),t27):=by rw[KA,if_neg (by omega),if_neg (by omega)]
 have hMB:=hM
 rw[hBX,Option.bind_some] at hMB
 refine Ah Tryz.call101 [] [1,1,0] rfl rfl rfl (by exact Ns (⟨v10,v15,v19,v23,v27,Iw,Le⟩:Entry) _ _ _ _ _ _ (by simp[Le])) ?_
 rintro _ _ _ ⟨rfl,rfl,rfl⟩
 refine AL 1 ?_;refine Af ?_ ?_
 ·intro h5;try simp only[D6] at h5
  refine GC.region ?_;refine AO rfl (ED PN TP rfl rfl) ?_;refine AO rfl (J_ Tryz.underlying247 (λm h=>by cases h) rfl) ?_;refine Cb rfl (λa w h=>?_)
  exact zq75_
 intro h5;try simp only[D6] at h5
 refine GC.skip (?_:GC _ _ _ _)
 refine AX ?_;refine Az 1 12 ?_;refine Ar 2 ?_;refine Ap ?_;refine GC.ret (DJ 2 97 2 12 [0] [1,1,0] ?_)
 exact⟨_,_,by rw[hMB,Py];exact if_pos (by assumption),by omega,⟨none,0,none,0,none,0,by simp[Iw],by omega,by simp[Iw],by omega,by simp[Le],by omega,rfl,rfl⟩,rfl⟩
def KE(b:List UInt8)(t:Nat):Option (F5×Nat):=(FU b t 4).bind λa=>(FU b a.2 8).bind λv=>(Rt b v.2).map λd=>(⟨a.1,v.1,d.1⟩,d.2)
def JW(b:List UInt8)(t:Nat):Option (Row×Nat):=(FU b t 8).bind λc=>(FU b c.2 8).bind λs=>(Hw (seg b s.2 b.length)).map λr=>(⟨c.1,s.1,r.1⟩,s.2+r.2)
def iC(r:I4×Nat):Option (I4×Nat):=if Gj r.1/\r.2<=33554432 then some r else none
def Ih(b:List UInt8)(at_:Nat):Option (I4×Nat) :=
 (FU b at_ 8).bind λn=>(FU b n.2 4).bind λbl=>(FU b bl.2 4).bind λsz=>(FU b sz.2 4).bind λpc=>(Fq (KE b) pc.2 pc.1.toNat).bind λps=>(FU b ps.2 1).bind λrc=>(Fq (JW b) rc.2 rc.1.toNat).bind λrs=>(Nr b rs.2).bind λg=>iC (⟨n.1,⟨bl.1,sz.1⟩,ps.1,rs.1,g.1⟩,g.2)
theorem Wy{b:List UInt8}{o:J4}{n:Nat}(h:Hw b=some (o,n)):o.data.length<=262144:=by
 unfold Hw at h
 split at h
 ·rename_i hh
  rw[<-(Prod.mk.inj (Option.some.inj h)).1]
  exact(QO hh.2).2.2
 ·cases h
abbrev SttR(s:I4)(u:Value)(Q:List D7):Prop:=∃A cp B cq C cr,s.pages.length<=cp/\cp<=9223372036854775807/\s.rows.length<=cq/\cq<=9223372036854775807/\s.grp.members.length<=cr/\cr<=9223372036854775807/\u=Nw s A cp B cq C cr/\Q=NW s A B C
theorem zq76_{X:Prop}(h:X:=by(exact B_ (by kernel_rfl) (λa w h=>⟨_,_,_,_,_,_,_,⟨Ji,Ir,Gx⟩,h.cut (is:=[0,0,0]) (js:=[0]) ⟨rfl,rfl,rfl,trivial⟩ rfl rfl⟩))):X:=h
theorem ZH{X:Prop}(h:X:=by(exact λa w h=>⟨(k+1),(ps++[(⟨v35,v39,x43⟩:F5)]),(_),(_),(_),(by omega),⟨⟨by simp;omega,by omega⟩,by omega,J6 hk.2.2.1 (show KE b t=some _ from by simp only[KE,Jt,Qz,Option.bind_some,OC,Option.map_some]),λp hp=>by rcases List.mem_append.1 hp with hp|hp;exact hk.2.2.2 p hp;rw[List.mem_singleton.1 hp];exact hx43⟩,by rw[List.length_append];exact h.cut (is:=[1,1,1,1]) (js:=[0,3]) ⟨rfl,rfl,rfl,rfl,rfl,trivial⟩ rfl rfl⟩)):X:=h
theorem zq78_{X:Prop}(h:X:=by(exact B_ (by kernel_rfl) (λa w h=>⟨_,_,_,_,_,⟨R_,hs62⟩,h.cut (is:=[0,1,2,1,0]) (js:=[0,1,2]) ⟨rfl,rfl,rfl,rfl,rfl,rfl,trivial⟩ rfl rfl⟩))):X:=h
theorem zq79_{X:Prop}(h:X:=by(exact BG (by kernel_rfl) (λa w h=>⟨_,_,_,_,_,_,⟨Uh,Yv,l76,k76⟩,h.cut (is:=[1,1,1,1,1,0]) (js:=[0,2,3,4]) ⟨rfl,rfl,rfl,rfl,rfl,rfl,rfl,rfl,rfl,trivial⟩ rfl rfl⟩))):X:=h
theorem zq80_{X:Prop}(h:X:=by(exact Iu.panic ⟨⟨_,by decide,rfl⟩,by rw[hM,iC];exact if_neg (λhh=>by first|exact absurd hh.1 (by assumption)|(have h2:t102<=33554432:=hh.2;omega))⟩ h)):X:=h
theorem mstr_ct(p e_:Nat)(A:Option Addr)(b:List UInt8)(cp at_:Nat)(hb:b.length<=cp)(Gl:cp<=9223372036854775807)(hb':b.length<=10000000000000)(hat:at_<=b.length):PK Tryz.prog 167 [.pointer (some ⟨p,0,none⟩)] (KP p e_ A b cp at_) [D7.row Kd.u8 A b]
    (λu G Q=>∃(s:I4) (t:Nat),Ih b at_=some (s,t)/\t<=b.length/\IU s/\SttR s u Q/\G=KP p e_ A b cp t) (λv=>Qy v/\Ih b at_=none):=by
 have hp1:(256:Nat) ^ 1=256:=Gp
 have hp4:(256:Nat) ^ 4=4294967296:=Gn
 refine PK.intro Tryz.func167 rfl rfl rfl (λc hc=>?_)
 refine AX ?_;refine GL.step rfl (EH rfl I5) (Aa λGm=>?_);refine Ap ?_;refine AB ?_;refine Cc (m:=16) (M:=λa w=>∃v13:Int,∃t13:Nat,∃v17:Int,∃t17:Nat,∃v21:Int,∃t21:Nat,∃FQ:Nat,(FU b at_ 8=some (v13,t13)/\FU b t13 4=some (v17,t17)/\FU b t17 4=some (v21,t21))/\St c 122 [(0,.pointer (some ⟨p,0,none⟩)),(2,.pointer (some ⟨Gm,0,none⟩)),(3,.pointer (some ⟨FQ,0,none⟩))] [.cells p [.slice A b.length cp,.int .i64 (t21:Int)] e_,.cells FQ [.int .i64 v13,.int .i64 v17,.int .i64 v21,.slice none 0 0,.slice none 0 0,.int .i64 0,.slice none 0 0] 61,.cells Gm [.int .i64 0,.int .i64 0,.int .i64 0,.slice none 0 0,.slice none 0 0,.int .i64 0,.slice none 0 0] 61] [D7.row Kd.u8 A b] a w) (is:=[0]) (js:=[0]) Ef rfl rfl rfl (λ_ _ _ hd hp hD=>⟨hd.trans hD,.inr hp⟩) ?_ ?_
 ·refine BK 0 [0] [0] ?_
  refine BK 1 [0] [0] ?_
  refine BK 2 [0] [0] ?_
  refine BK 4 [0] [0] ?_
  refine BK 5 [0] [0] ?_
  refine BK 6 [0] [0] ?_
  refine BK 8 [0] [0] ?_
  refine BK 9 [0] [0] ?_
  refine BK 10 [0] [0] ?_
  refine BH [3,14] ?_
  refine BD (i:=3) rfl rfl Tryz.call169 rfl (is:=[1]) (js:=[0]) rfl rfl (by exact(Em _ _ _ b _ at_ 8 (by omega) (by omega) (by omega) (by omega) (by omega)).mono (λ_ _ _ h=>h) (λ_ h=>⟨h.1,by simp only[Ih,h.2,Option.bind_none]⟩)) (by rintro a w ⟨_,_,_,⟨v13,t13,Ji,rfl,rfl,rfl⟩,h⟩;exact h.me [1] [0]) (GX.ret ?_) ?_
  ·rintro _ _ _ ⟨v13,t13,Ji,rfl,rfl,rfl⟩
   obtain⟨ht13,hu13,hv13,hw13,hx13⟩:=ER Ji
   refine BH [7,14] ?_
   refine BD (i:=7) rfl rfl Tryz.call169 rfl (is:=[0]) (js:=[0]) rfl rfl (by exact(Em _ _ _ b _ t13 4 (by omega) (by omega) (by omega) (by omega) (by omega)).mono (λ_ _ _ h=>h) (λ_ h=>⟨h.1,by simp only[Ih,Ji,Option.bind_some,h.2,Option.bind_none]⟩)) (by rintro a w ⟨_,_,_,⟨v17,t17,Ir,rfl,rfl,rfl⟩,h⟩;exact h.me [1] [0]) (GX.ret ?_) ?_
   ·rintro _ _ _ ⟨v17,t17,Ir,rfl,rfl,rfl⟩
    obtain⟨ht17,hu17,hv17,hw17,hx17⟩:=ER Ir
    refine BH [11,14] ?_
    refine BD (i:=11) rfl rfl Tryz.call169 rfl (is:=[0]) (js:=[0]) rfl rfl (by exact(Em _ _ _ b _ t17 4 (by omega) (by omega) (by omega) (by omega) (by omega)).mono (λ_ _ _ h=>h) (λ_ h=>⟨h.1,by simp only[Ih,Ji,Ir,Option.bind_some,h.2,Option.bind_none]⟩)) (by rintro a w ⟨_,_,_,⟨v21,t21,Gx,rfl,rfl,rfl⟩,h⟩;exact h.me [1] [0]) (GX.ret ?_) ?_
    ·rintro _ _ _ ⟨v21,t21,Gx,rfl,rfl,rfl⟩
     obtain⟨WC,hu21,WB,aZ,Yu⟩:=ER Gx
     refine Bq 12 rfl [1] [0] (EK (ED jk lM rfl rfl)) ?_
     refine Bq 13 rfl [1] [0] (EK (ED I5 Nq rfl rfl)) ?_
     refine BH [14] ?_
     refine IZ.cons (i:=14) rfl rfl (EH rfl I5) (by rintro a w ⟨_,h⟩;exact h.me [2] [0]) (Bj λFQ=>?_) Aq
     refine BH [15] ?_
     refine IZ.cons (i:=15) rfl rfl (EZ (i:=0) rfl rfl rfl JH rfl rfl rfl) (by rintro a w h;exact h.me [2] [0]) ?_ Aq
     exact B_ (by kernel_rfl) (λa w h=>⟨_,_,_,_,_,_,_,⟨Ji,Ir,Gx⟩,h.cut (is:=[1,0,0]) (js:=[0]) ⟨rfl,rfl,rfl,trivial⟩ rfl rfl⟩)
    refine IZ.cons (i:=14) rfl rfl (EH rfl I5) (by rintro a w ⟨_,h⟩;exact h.me [2] [0]) (Bj λFQ=>?_) Aq
    refine BH [11] ?_
    refine BD (i:=11) rfl rfl Tryz.call169 rfl (is:=[1]) (js:=[0]) rfl rfl (by exact(Em _ _ _ b _ t17 4 (by omega) (by omega) (by omega) (by omega) (by omega)).mono (λ_ _ _ h=>h) (λ_ h=>⟨h.1,by simp only[Ih,Ji,Ir,Option.bind_some,h.2,Option.bind_none]⟩)) (by rintro a w ⟨_,_,_,⟨v21,t21,Gx,rfl,rfl,rfl⟩,h⟩;exact h.me [2] [0]) (GX.ret ?_) Aq
    rintro _ _ _ ⟨v21,t21,Gx,rfl,rfl,rfl⟩
    obtain⟨WC,hu21,WB,aZ,Yu⟩:=ER Gx
    refine Bq 12 rfl [2] [0] (EK (ED jk lM rfl rfl)) ?_
    refine Bq 13 rfl [2] [0] (EK (ED I5 Nq rfl rfl)) ?_
    refine BH [15] ?_
    refine IZ.cons (i:=15) rfl rfl (EZ (i:=1) rfl rfl rfl JH rfl rfl rfl) (by rintro a w h;exact h.me [2] [0]) ?_ Aq
    exact zq76_
   refine IZ.cons (i:=14) rfl rfl (EH rfl I5) (by rintro a w ⟨_,h⟩;exact h.me [2] [0]) (Bj λFQ=>?_) Aq
   refine BH [7] ?_
   refine BD (i:=7) rfl rfl Tryz.call169 rfl (is:=[1]) (js:=[0]) rfl rfl (by exact(Em _ _ _ b _ t13 4 (by omega) (by omega) (by omega) (by omega) (by omega)).mono (λ_ _ _ h=>h) (λ_ h=>⟨h.1,by simp only[Ih,Ji,Option.bind_some,h.2,Option.bind_none]⟩)) (by rintro a w ⟨_,_,_,⟨v17,t17,Ir,rfl,rfl,rfl⟩,h⟩;exact h.me [2] [0]) (GX.ret ?_) Aq
   rintro _ _ _ ⟨v17,t17,Ir,rfl,rfl,rfl⟩
   obtain⟨ht17,hu17,hv17,hw17,hx17⟩:=ER Ir
   refine BH [11] ?_
   refine BD (i:=11) rfl rfl Tryz.call169 rfl (is:=[0]) (js:=[0]) rfl rfl (by exact(Em _ _ _ b _ t17 4 (by omega) (by omega) (by omega) (by omega) (by omega)).mono (λ_ _ _ h=>h) (λ_ h=>⟨h.1,by simp only[Ih,Ji,Ir,Option.bind_some,h.2,Option.bind_none]⟩)) (by rintro a w ⟨_,_,_,⟨v21,t21,Gx,rfl,rfl,rfl⟩,h⟩;exact h.me [2] [0]) (GX.ret ?_) Aq
   rintro _ _ _ ⟨v21,t21,Gx,rfl,rfl,rfl⟩
   obtain⟨WC,hu21,WB,aZ,Yu⟩:=ER Gx
   refine Bq 12 rfl [2] [0] (EK (ED jk lM rfl rfl)) ?_
   refine Bq 13 rfl [2] [0] (EK (ED I5 Nq rfl rfl)) ?_
   refine BH [15] ?_
   refine IZ.cons (i:=15) rfl rfl (EZ (i:=1) rfl rfl rfl JH rfl rfl rfl) (by rintro a w h;exact h.me [2] [0]) ?_ Aq
   exact zq76_
  refine IZ.cons (i:=14) rfl rfl (EH rfl I5) (by rintro a w ⟨_,h⟩;exact h.me [1] [0]) (Bj λFQ=>?_) Aq
  refine BH [3] ?_
  refine BD (i:=3) rfl rfl Tryz.call169 rfl (is:=[2]) (js:=[0]) rfl rfl (by exact(Em _ _ _ b _ at_ 8 (by omega) (by omega) (by omega) (by omega) (by omega)).mono (λ_ _ _ h=>h) (λ_ h=>⟨h.1,by simp only[Ih,h.2,Option.bind_none]⟩)) (by rintro a w ⟨_,_,_,⟨v13,t13,Ji,rfl,rfl,rfl⟩,h⟩;exact h.me [2] [0]) (GX.ret ?_) Aq
  rintro _ _ _ ⟨v13,t13,Ji,rfl,rfl,rfl⟩
  obtain⟨ht13,hu13,hv13,hw13,hx13⟩:=ER Ji
  refine BH [7] ?_
  refine BD (i:=7) rfl rfl Tryz.call169 rfl (is:=[0]) (js:=[0]) rfl rfl (by exact(Em _ _ _ b _ t13 4 (by omega) (by omega) (by omega) (by omega) (by omega)).mono (λ_ _ _ h=>h) (λ_ h=>⟨h.1,by simp only[Ih,Ji,Option.bind_some,h.2,Option.bind_none]⟩)) (by rintro a w ⟨_,_,_,⟨v17,t17,Ir,rfl,rfl,rfl⟩,h⟩;exact h.me [2] [0]) (GX.ret ?_) Aq
  rintro _ _ _ ⟨v17,t17,Ir,rfl,rfl,rfl⟩
  obtain⟨ht17,hu17,hv17,hw17,hx17⟩:=ER Ir
  refine BH [11] ?_
  refine BD (i:=11) rfl rfl Tryz.call169 rfl (is:=[0]) (js:=[0]) rfl rfl (by exact(Em _ _ _ b _ t17 4 (by omega) (by omega) (by omega) (by omega) (by omega)).mono (λ_ _ _ h=>h) (λ_ h=>⟨h.1,by simp only[Ih,Ji,Ir,Option.bind_some,h.2,Option.bind_none]⟩)) (by rintro a w ⟨_,_,_,⟨v21,t21,Gx,rfl,rfl,rfl⟩,h⟩;exact h.me [2] [0]) (GX.ret ?_) Aq
  rintro _ _ _ ⟨v21,t21,Gx,rfl,rfl,rfl⟩
  obtain⟨WC,hu21,WB,aZ,Yu⟩:=ER Gx
  refine Bq 12 rfl [2] [0] (EK (ED jk lM rfl rfl)) ?_
  refine Bq 13 rfl [2] [0] (EK (ED I5 Nq rfl rfl)) ?_
  refine BH [15] ?_
  refine IZ.cons (i:=15) rfl rfl (EZ (i:=1) rfl rfl rfl JH rfl rfl rfl) (by rintro a w h;exact h.me [2] [0]) ?_ Aq
  exact zq76_
 refine(?_:GC _ _ _ _)
 refine BQ λv13=>BQ λt13=>BQ λv17=>BQ λt17=>BQ λv21=>BQ λt21=>BQ λFQ=>GC.and fun⟨Ji,Ir,Gx⟩=>?_;refine AB ?_;refine AX ?_
 obtain⟨ht13,hu13,hv13,hw13,hx13⟩:=ER Ji
 obtain⟨ht17,hu17,hv17,hw17,hx17⟩:=ER Ir
 obtain⟨WC,hu21,WB,aZ,Yu⟩:=ER Gx
 refine AA 3 ?_;refine Bc rfl Tryz.call169 rfl (is:=[0]) (js:=[0]) rfl rfl (by exact(Em _ _ _ b _ t21 4 (by omega) (by omega) (by omega) (by omega) (by omega)).mono (λ_ _ _ h=>h) (λ_ h=>⟨h.1,by simp only[Ih,Ji,Ir,Gx,Option.bind_some,h.2,Option.bind_none]⟩)) (λv a w he h=>Iu.panic he h) (GL.ret ?_)
 rintro _ _ _ ⟨v27,t27,IE,rfl,rfl,rfl⟩
 obtain⟨ak,iM,hv27,Ug,hx27⟩:=ER IE
 have hpos:=Jm IE (by omega)
 refine GL.Hu 164 3 ?_;refine GL.know (q:=A_ GR [] []) (λ_ _ _=>rfl) ?_;refine AL 1 ?_;refine GC.block ?_;refine DT (ks:=[0,2,3,27]) (is:=[3]) (js:=[1]) (fun(k:Nat) (ps:List F5) (V:Value) (cs:List Value) (t:Nat)=>(ps.length=k/\t<=b.length)/\(k:Int)<=v27/\Fq (KE b) t27 k=some (ps,t)/\∀p∈ps,p.data.length<=16777216) (fun(k:Nat) (ps:List F5) (V:Value) (cs:List Value) (t:Nat)=>[(28,.int .i64 (k:Int))]) (fun(k:Nat) (ps:List F5) (V:Value) (cs:List Value) (t:Nat)=>[.cells p [.slice A b.length cp,.int .i64 (t:Int)] e_,.cells FQ [.int .i64 v13,.int .i64 v17,.int .i64 v21,V,.slice none 0 0,.int .i64 0,.slice none 0 0] 61,.row V 164 3 ps.length cs]) (fun(k:Nat) (ps:List F5) (V:Value) (cs:List Value) (t:Nat)=>[A_ GR ps cs]) (fun(k:Nat) (ps:List F5) (V:Value) (cs:List Value) (t:Nat)=>v27.toNat - k) (0) ([]) (_) ([]) (t27) rfl rfl rfl (λa w h=>⟨⟨⟨rfl,by omega⟩,by omega,rfl,by simp⟩,h.Hf (is:=[1,1,0,0]) (js:=[0,1]) (ks:=[0,2,3,27]) ⟨rfl,trivial⟩ rfl rfl rfl⟩) ?_
 intro k ps V cs t hk
 try dsimp only[List.cons_append,List.nil_append] at hk ⊢
 refine AP 1 ?_;refine AB ?_;refine Af ?_ ?_
 ·intro h1;try simp only[D6] at h1
  refine GC.skip (?_:GC _ _ _ _)
  refine AB ?_;refine GC.block ?_;refine Df (m:=19) (is:=[3]) (js:=[0,1]) Ef rfl rfl rfl (λ_ _ _ hd hp hD=>⟨hd.trans hD,.inr hp⟩) ?_
  refine BK 0 [3] [0,1] ?_
  refine BK 2 [3] [0,1] ?_
  refine BK 3 [3] [0,1] ?_
  refine BK 4 [3] [0,1] ?_
  refine BK 6 [3] [0,1] ?_
  refine BK 7 [3] [0,1] ?_
  refine BK 8 [3] [0,1] ?_
  refine BK 10 [3] [0,1] ?_
  refine BK 11 [3] [0,1] ?_
  refine BK 12 [3] [0,1] ?_
  refine BH [1,5] ?_
  refine IZ.cons (i:=1) rfl rfl (Ed rfl (EF (i:=1) rfl rfl Qq rfl)) (by rintro a w h;exact h.me [3] [0,1]) ?_ ?_
  ·refine BH [5] ?_
   refine BD (i:=5) rfl rfl Tryz.call169 rfl (is:=[0]) (js:=[1]) rfl rfl (by exact(Em _ _ _ b _ t 4 (by omega) (by omega) (by omega) (by omega) (by omega)).mono (λ_ _ _ h=>h) (λ_ h=>⟨h.1,by simp only[Ih,Ji,Ir,Gx,IE,Option.bind_some];rw[FV hk.2.2.1 (show KE b t=none from by simp only[KE,h.2,Option.bind_none]) (by omega)];rfl⟩)) (by rintro a w ⟨_,_,_,⟨v35,t35,Jt,rfl,rfl,rfl⟩,h⟩;exact h.me [3] [0,1]) (GX.ret ?_) Aq
   rintro _ _ _ ⟨v35,t35,Jt,rfl,rfl,rfl⟩
   obtain⟨qp,hu35,hv35,hw35,hx35⟩:=ER Jt
   refine BH [9] ?_
   refine BD (i:=9) rfl rfl Tryz.call169 rfl (is:=[0]) (js:=[1]) rfl rfl (by exact(Em _ _ _ b _ t35 8 (by omega) (by omega) (by omega) (by omega) (by omega)).mono (λ_ _ _ h=>h) (λ_ h=>⟨h.1,by simp only[Ih,Ji,Ir,Gx,IE,Option.bind_some];rw[FV hk.2.2.1 (show KE b t=none from by simp only[KE,Jt,Option.bind_some,h.2,Option.bind_none]) (by omega)];rfl⟩)) (by rintro a w ⟨_,_,_,⟨v39,t39,Qz,rfl,rfl,rfl⟩,h⟩;exact h.me [3] [0,1]) (GX.ret ?_) Aq
   rintro _ _ _ ⟨v39,t39,Qz,rfl,rfl,rfl⟩
   obtain⟨ht39,hu39,hv39,hw39,hx39⟩:=ER Qz
   refine BH [13] ?_
   refine BD (i:=13) rfl rfl Tryz.call207 rfl (is:=[0]) (js:=[1]) rfl rfl (by exact(QY _ _ _ b _ t39 (by omega) (by omega) (by omega) (by omega)).mono (λ_ _ _ h=>h) (λ_ h=>⟨h.1,by simp only[Ih,Ji,Ir,Gx,IE,Option.bind_some];rw[FV hk.2.2.1 (show KE b t=none from by simp only[KE,Jt,Qz,Option.bind_some,h.2,Option.map_none]) (by omega)];rfl⟩)) (by rintro a w ⟨_,_,_,⟨x43,t43,oJ,nU,OC,iF,Xv,rfl,rfl,rfl⟩,h⟩;exact h.me [3] [1,2]) (GX.ret ?_) Aq
   rintro _ _ _ ⟨x43,t43,oJ,nU,OC,iF,Xv,rfl,rfl,rfl⟩
   obtain⟨ht43,hx43⟩:=Rq OC
   refine Bq 14 rfl [3] [1,2] (EK (ED Je Vw rfl rfl)) ?_
   refine BH [15] ?_
   refine IZ.cons (i:=15) rfl rfl (EC rfl Tryz.underlying58 Gs Je rfl rfl rfl rfl rfl rfl) (by rintro a w ⟨_,h⟩;exact h.me [4] [1,2]) (Bj λng=>?_) Aq
   refine BH [16] ?_
   refine IZ.cons (i:=16) rfl rfl (Eh (i:=3) (k:=0) rfl X5 rfl rfl rfl rfl rfl (EX rfl) (by first|(have:=hk.1.1;omega)|(have:=hj.1.1;omega)) (λ_=>rfl)) (by rintro a w ⟨_,h⟩;exact h.me [4] [1,2]) (Bj λv46=>?_) Aq
   refine GX.shape (i:=3) rfl (λoI nT SL mP mV=>?_)
   subst SL
   refine BK 17 [4] [1,2] ?_
   refine GX.snoc (j:=1) (js:=[0]) (⟨v35,v39,x43⟩:F5) ((),((),(oJ,nU))) rfl rfl ⟨trivial,trivial,iF,Xv⟩ ?_
   refine BH [18] ?_
   refine IZ.cons (i:=18) rfl rfl (Et (i:=2) rfl rfl rfl rfl ZX rfl rfl rfl) (by rintro a w h;exact h.me [4] [2,3]) ?_ Aq
   refine B_ (by kernel_rfl) (?_:GC _ _ _ _)
   refine GC.region ?_;refine AO rfl (EU rfl rfl (Fh (by omega) (by omega))) ?_;refine AA 1 ?_;refine Ac ?_
   exact ZH
  refine BD (i:=5) rfl rfl Tryz.call169 rfl (is:=[0]) (js:=[1]) rfl rfl (by exact(Em _ _ _ b _ t 4 (by omega) (by omega) (by omega) (by omega) (by omega)).mono (λ_ _ _ h=>h) (λ_ h=>⟨h.1,by simp only[Ih,Ji,Ir,Gx,IE,Option.bind_some];rw[FV hk.2.2.1 (show KE b t=none from by simp only[KE,h.2,Option.bind_none]) (by omega)];rfl⟩)) (by rintro a w ⟨_,_,_,⟨v35,t35,Jt,rfl,rfl,rfl⟩,h⟩;exact h.me [3] [0,1]) (GX.ret ?_) Aq
  rintro _ _ _ ⟨v35,t35,Jt,rfl,rfl,rfl⟩
  obtain⟨qp,hu35,hv35,hw35,hx35⟩:=ER Jt
  refine BH [1,9] ?_
  refine IZ.cons (i:=1) rfl rfl (Ed rfl (EF (i:=1) rfl rfl Qq rfl)) (by rintro a w h;exact h.me [3] [0,1]) ?_ ?_
  ·refine BH [9] ?_
   refine BD (i:=9) rfl rfl Tryz.call169 rfl (is:=[0]) (js:=[1]) rfl rfl (by exact(Em _ _ _ b _ t35 8 (by omega) (by omega) (by omega) (by omega) (by omega)).mono (λ_ _ _ h=>h) (λ_ h=>⟨h.1,by simp only[Ih,Ji,Ir,Gx,IE,Option.bind_some];rw[FV hk.2.2.1 (show KE b t=none from by simp only[KE,Jt,Option.bind_some,h.2,Option.bind_none]) (by omega)];rfl⟩)) (by rintro a w ⟨_,_,_,⟨v39,t39,Qz,rfl,rfl,rfl⟩,h⟩;exact h.me [3] [0,1]) (GX.ret ?_) Aq
   rintro _ _ _ ⟨v39,t39,Qz,rfl,rfl,rfl⟩
   obtain⟨ht39,hu39,hv39,hw39,hx39⟩:=ER Qz
   refine BH [13] ?_
   refine BD (i:=13) rfl rfl Tryz.call207 rfl (is:=[0]) (js:=[1]) rfl rfl (by exact(QY _ _ _ b _ t39 (by omega) (by omega) (by omega) (by omega)).mono (λ_ _ _ h=>h) (λ_ h=>⟨h.1,by simp only[Ih,Ji,Ir,Gx,IE,Option.bind_some];rw[FV hk.2.2.1 (show KE b t=none from by simp only[KE,Jt,Qz,Option.bind_some,h.2,Option.map_none]) (by omega)];rfl⟩)) (by rintro a w ⟨_,_,_,⟨x43,t43,oJ,nU,OC,iF,Xv,rfl,rfl,rfl⟩,h⟩;exact h.me [3] [1,2]) (GX.ret ?_) Aq
   rintro _ _ _ ⟨x43,t43,oJ,nU,OC,iF,Xv,rfl,rfl,rfl⟩
   obtain⟨ht43,hx43⟩:=Rq OC
   refine Bq 14 rfl [3] [1,2] (EK (ED Je Vw rfl rfl)) ?_
   refine BH [15] ?_
   refine IZ.cons (i:=15) rfl rfl (EC rfl Tryz.underlying58 Gs Je rfl rfl rfl rfl rfl rfl) (by rintro a w ⟨_,h⟩;exact h.me [4] [1,2]) (Bj λng=>?_) Aq
   refine BH [16] ?_
   refine IZ.cons (i:=16) rfl rfl (Eh (i:=3) (k:=0) rfl X5 rfl rfl rfl rfl rfl (EX rfl) (by first|(have:=hk.1.1;omega)|(have:=hj.1.1;omega)) (λ_=>rfl)) (by rintro a w ⟨_,h⟩;exact h.me [4] [1,2]) (Bj λv46=>?_) Aq
   refine GX.shape (i:=3) rfl (λoI nT SL mP mV=>?_)
   subst SL
   refine BK 17 [4] [1,2] ?_
   refine GX.snoc (j:=1) (js:=[0]) (⟨v35,v39,x43⟩:F5) ((),((),(oJ,nU))) rfl rfl ⟨trivial,trivial,iF,Xv⟩ ?_
   refine BH [18] ?_
   refine IZ.cons (i:=18) rfl rfl (Et (i:=2) rfl rfl rfl rfl ZX rfl rfl rfl) (by rintro a w h;exact h.me [4] [2,3]) ?_ Aq
   refine B_ (by kernel_rfl) (?_:GC _ _ _ _)
   refine GC.region ?_;refine AO rfl (EU rfl rfl (Fh (by omega) (by omega))) ?_;refine AA 1 ?_;refine Ac ?_
   exact ZH
  refine BD (i:=9) rfl rfl Tryz.call169 rfl (is:=[0]) (js:=[1]) rfl rfl (by exact(Em _ _ _ b _ t35 8 (by omega) (by omega) (by omega) (by omega) (by omega)).mono (λ_ _ _ h=>h) (λ_ h=>⟨h.1,by simp only[Ih,Ji,Ir,Gx,IE,Option.bind_some];rw[FV hk.2.2.1 (show KE b t=none from by simp only[KE,Jt,Option.bind_some,h.2,Option.bind_none]) (by omega)];rfl⟩)) (by rintro a w ⟨_,_,_,⟨v39,t39,Qz,rfl,rfl,rfl⟩,h⟩;exact h.me [3] [0,1]) (GX.ret ?_) Aq
  rintro _ _ _ ⟨v39,t39,Qz,rfl,rfl,rfl⟩
  obtain⟨ht39,hu39,hv39,hw39,hx39⟩:=ER Qz
  refine BH [1,13] ?_
  refine IZ.cons (i:=1) rfl rfl (Ed rfl (EF (i:=1) rfl rfl Qq rfl)) (by rintro a w h;exact h.me [3] [0,1]) ?_ ?_
  ·refine BH [13] ?_
   refine BD (i:=13) rfl rfl Tryz.call207 rfl (is:=[0]) (js:=[1]) rfl rfl (by exact(QY _ _ _ b _ t39 (by omega) (by omega) (by omega) (by omega)).mono (λ_ _ _ h=>h) (λ_ h=>⟨h.1,by simp only[Ih,Ji,Ir,Gx,IE,Option.bind_some];rw[FV hk.2.2.1 (show KE b t=none from by simp only[KE,Jt,Qz,Option.bind_some,h.2,Option.map_none]) (by omega)];rfl⟩)) (by rintro a w ⟨_,_,_,⟨x43,t43,oJ,nU,OC,iF,Xv,rfl,rfl,rfl⟩,h⟩;exact h.me [3] [1,2]) (GX.ret ?_) Aq
   rintro _ _ _ ⟨x43,t43,oJ,nU,OC,iF,Xv,rfl,rfl,rfl⟩
   obtain⟨ht43,hx43⟩:=Rq OC
   refine Bq 14 rfl [3] [1,2] (EK (ED Je Vw rfl rfl)) ?_
   refine BH [15] ?_
   refine IZ.cons (i:=15) rfl rfl (EC rfl Tryz.underlying58 Gs Je rfl rfl rfl rfl rfl rfl) (by rintro a w ⟨_,h⟩;exact h.me [4] [1,2]) (Bj λng=>?_) Aq
   refine BH [16] ?_
   refine IZ.cons (i:=16) rfl rfl (Eh (i:=3) (k:=0) rfl X5 rfl rfl rfl rfl rfl (EX rfl) (by first|(have:=hk.1.1;omega)|(have:=hj.1.1;omega)) (λ_=>rfl)) (by rintro a w ⟨_,h⟩;exact h.me [4] [1,2]) (Bj λv46=>?_) Aq
   refine GX.shape (i:=3) rfl (λoI nT SL mP mV=>?_)
   subst SL
   refine BK 17 [4] [1,2] ?_
   refine GX.snoc (j:=1) (js:=[0]) (⟨v35,v39,x43⟩:F5) ((),((),(oJ,nU))) rfl rfl ⟨trivial,trivial,iF,Xv⟩ ?_
   refine BH [18] ?_
   refine IZ.cons (i:=18) rfl rfl (Et (i:=2) rfl rfl rfl rfl ZX rfl rfl rfl) (by rintro a w h;exact h.me [4] [2,3]) ?_ Aq
   refine B_ (by kernel_rfl) (?_:GC _ _ _ _)
   refine GC.region ?_;refine AO rfl (EU rfl rfl (Fh (by omega) (by omega))) ?_;refine AA 1 ?_;refine Ac ?_
   exact ZH
  refine BD (i:=13) rfl rfl Tryz.call207 rfl (is:=[0]) (js:=[1]) rfl rfl (by exact(QY _ _ _ b _ t39 (by omega) (by omega) (by omega) (by omega)).mono (λ_ _ _ h=>h) (λ_ h=>⟨h.1,by simp only[Ih,Ji,Ir,Gx,IE,Option.bind_some];rw[FV hk.2.2.1 (show KE b t=none from by simp only[KE,Jt,Qz,Option.bind_some,h.2,Option.map_none]) (by omega)];rfl⟩)) (by rintro a w ⟨_,_,_,⟨x43,t43,oJ,nU,OC,iF,Xv,rfl,rfl,rfl⟩,h⟩;exact h.me [3] [1,2]) (GX.ret ?_) Aq
  rintro _ _ _ ⟨x43,t43,oJ,nU,OC,iF,Xv,rfl,rfl,rfl⟩
  obtain⟨ht43,hx43⟩:=Rq OC
  refine Bq 14 rfl [3] [1,2] (EK (ED Je Vw rfl rfl)) ?_
  refine BH [1,15] ?_
  refine IZ.cons (i:=1) rfl rfl (Ed rfl (EF (i:=1) rfl rfl Qq rfl)) (by rintro a w h;exact h.me [3] [1,2]) ?_ ?_
  ·refine BH [15] ?_
   refine IZ.cons (i:=15) rfl rfl (EC rfl Tryz.underlying58 Gs Je rfl rfl rfl rfl rfl rfl) (by rintro a w ⟨_,h⟩;exact h.me [4] [1,2]) (Bj λng=>?_) Aq
   refine BH [16] ?_
   refine IZ.cons (i:=16) rfl rfl (Eh (i:=3) (k:=0) rfl X5 rfl rfl rfl rfl rfl (EX rfl) (by first|(have:=hk.1.1;omega)|(have:=hj.1.1;omega)) (λ_=>rfl)) (by rintro a w ⟨_,h⟩;exact h.me [4] [1,2]) (Bj λv46=>?_) Aq
   refine GX.shape (i:=3) rfl (λoI nT SL mP mV=>?_)
   subst SL
   refine BK 17 [4] [1,2] ?_
   refine GX.snoc (j:=1) (js:=[0]) (⟨v35,v39,x43⟩:F5) ((),((),(oJ,nU))) rfl rfl ⟨trivial,trivial,iF,Xv⟩ ?_
   refine BH [18] ?_
   refine IZ.cons (i:=18) rfl rfl (Et (i:=2) rfl rfl rfl rfl ZX rfl rfl rfl) (by rintro a w h;exact h.me [4] [2,3]) ?_ Aq
   refine B_ (by kernel_rfl) (?_:GC _ _ _ _)
   refine GC.region ?_;refine AO rfl (EU rfl rfl (Fh (by omega) (by omega))) ?_;refine AA 1 ?_;refine Ac ?_
   exact ZH
  refine IZ.cons (i:=15) rfl rfl (EC rfl Tryz.underlying58 Gs Je rfl rfl rfl rfl rfl rfl) (by rintro a w ⟨_,h⟩;exact h.me [4] [1,2]) (Bj λng=>?_) Aq
  refine BH [1] ?_
  refine IZ.cons (i:=1) rfl rfl (Ed rfl (EF (i:=2) rfl rfl Qq rfl)) (by rintro a w h;exact h.me [4] [1,2]) ?_ Aq
  refine BH [16] ?_
  refine IZ.cons (i:=16) rfl rfl (Eh (i:=3) (k:=0) rfl X5 rfl rfl rfl rfl rfl (EX rfl) (by first|(have:=hk.1.1;omega)|(have:=hj.1.1;omega)) (λ_=>rfl)) (by rintro a w ⟨_,h⟩;exact h.me [4] [1,2]) (Bj λv46=>?_) Aq
  refine GX.shape (i:=3) rfl (λoI nT SL mP mV=>?_)
  subst SL
  refine BK 17 [4] [1,2] ?_
  refine GX.snoc (j:=1) (js:=[0]) (⟨v35,v39,x43⟩:F5) ((),((),(oJ,nU))) rfl rfl ⟨trivial,trivial,iF,Xv⟩ ?_
  refine BH [18] ?_
  refine IZ.cons (i:=18) rfl rfl (Et (i:=2) rfl rfl rfl rfl ZX rfl rfl rfl) (by rintro a w h;exact h.me [4] [2,3]) ?_ Aq
  refine B_ (by kernel_rfl) (?_:GC _ _ _ _)
  refine GC.region ?_;refine AO rfl (EU rfl rfl (Fh (by omega) (by omega))) ?_;refine AA 1 ?_;refine Ac ?_
  exact ZH
 intro h1;try simp only[D6] at h1
 refine GC.exit (?_:GC _ _ _ _)
 refine AB ?_;refine AX ?_
 obtain⟨tP,htP⟩:∃tP,tP=t:=⟨t,rfl⟩
 have hkP:Fq (KE b) t27 v27.toNat=some (ps,tP):=by rw[show v27.toNat=k by omega,htP];exact hk.2.2.1
 have htP':tP<=b.length:=by omega
 subst htP
 refine GL.shape (i:=2) rfl (λdN sK e_PG l_PG k_PG=>?_)
 subst e_PG
 refine GL.IQ (i:=2) (j:=0) rfl rfl (by decide) ?_;refine AA 3 ?_;refine Bc rfl Tryz.call169 rfl (is:=[0]) (js:=[2]) rfl rfl (by exact(Em _ _ _ b _ tP 1 (by omega) (by omega) (by omega) (by omega) (by omega)).mono (λ_ _ _ h=>h) (λ_ h=>⟨h.1,by simp only[Ih,Ji,Ir,Gx,IE,hkP,Option.bind_some,h.2,Option.bind_none]⟩)) (λv a w he h=>Iu.panic he h) (GL.ret ?_)
 rintro _ _ _ ⟨v52,t52,XR,rfl,rfl,rfl⟩
 obtain⟨ht52,hu52,hv52,hw52,hx52⟩:=ER XR
 have hpos2:=Jm XR (by omega)
 refine GL.Hu 166 4 ?_;refine GL.know (q:=A_ Jz [] []) (λ_ _ _=>rfl) ?_;refine AL 1 ?_;refine GC.block ?_;refine DT (ks:=[0,2,3,52]) (is:=[3]) (js:=[1,3]) (fun(k:Nat) (rs:List Row) (V:Value) (cs:List Value) (t:Nat)=>(rs.length=k/\t<=b.length)/\(k:Int)<=v52/\Fq (JW b) t52 k=some (rs,t)/\∀r∈rs,r.result.data.length<=262144) (fun(k:Nat) (rs:List Row) (V:Value) (cs:List Value) (t:Nat)=>[(53,.int .i64 (k:Int))]) (fun(k:Nat) (rs:List Row) (V:Value) (cs:List Value) (t:Nat)=>[.cells p [.slice A b.length cp,.int .i64 (t:Int)] e_,.cells FQ [.int .i64 v13,.int .i64 v17,.int .i64 v21,.slice dN ps.length sK,V,.int .i64 0,.slice none 0 0] 61,.row V 166 4 rs.length cs]) (fun(k:Nat) (rs:List Row) (V:Value) (cs:List Value) (t:Nat)=>[A_ Jz rs cs]) (fun(k:Nat) (rs:List Row) (V:Value) (cs:List Value) (t:Nat)=>v52.toNat - k) (0) ([]) (_) ([]) (t52) rfl rfl rfl (λa w h=>⟨⟨⟨rfl,by omega⟩,by omega,rfl,by simp⟩,h.Hf (is:=[1,1,0,0]) (js:=[0,1,3]) (ks:=[0,2,3,52]) ⟨rfl,trivial⟩ rfl rfl rfl⟩) ?_
 intro k rs V cs t hj
 try dsimp only[List.cons_append,List.nil_append] at hj ⊢
 refine AP 1 ?_;refine AB ?_;refine Af ?_ ?_
 ·intro h2;try simp only[D6] at h2
  refine GC.skip (?_:GC _ _ _ _)
  refine AB ?_;refine GC.block ?_;refine AB ?_;refine Cc (m:=11) (M:=λa w=>∃v58:Int,∃t58:Nat,∃v62:Int,∃t62:Nat,∃KZ:Nat,(FU b t 8=some (v58,t58)/\FU b t58 8=some (v62,t62))/\St c 122 [(0,.pointer (some ⟨p,0,none⟩)),(2,.pointer (some ⟨Gm,0,none⟩)),(3,.pointer (some ⟨FQ,0,none⟩)),(4,.pointer (some ⟨KZ,0,none⟩)),(52,.int .i64 v52),(53,.int .i64 (k:Int))] [.cells p [.slice A b.length cp,.int .i64 (t62:Int)] e_,.cells FQ [.int .i64 v13,.int .i64 v17,.int .i64 v21,.slice dN ps.length sK,V,.int .i64 0,.slice none 0 0] 61,.cells Gm [.int .i64 0,.int .i64 0,.int .i64 0,.slice none 0 0,.slice none 0 0,.int .i64 0,.slice none 0 0] 61,.row V 166 4 rs.length cs,.cells KZ [.int .i64 v58,.int .i64 v62,.int .u8 0,.slice none 0 0] 166] [A_ Jz rs cs,D7.row GR dN ps,D7.row Kd.u8 A b] a w) (is:=[1,1,1]) (js:=[0,1,2]) Ef rfl rfl rfl (λ_ _ _ hd hp hD=>⟨hd.trans hD,.inr hp⟩) ?_ ?_
  ·refine BK 0 [1,1,1] [0,1,2] ?_
   refine BK 1 [1,1,1] [0,1,2] ?_
   refine BK 2 [1,1,1] [0,1,2] ?_
   refine BK 4 [1,1,1] [0,1,2] ?_
   refine BK 5 [1,1,1] [0,1,2] ?_
   refine BK 6 [1,1,1] [0,1,2] ?_
   refine BH [3,9] ?_
   refine BD (i:=3) rfl rfl Tryz.call169 rfl (is:=[0]) (js:=[2]) rfl rfl (by exact(Em _ _ _ b _ t 8 (by omega) (by omega) (by omega) (by omega) (by omega)).mono (λ_ _ _ h=>h) (λ_ h=>⟨h.1,by simp only[Ih,Ji,Ir,Gx,IE,hkP,XR,Option.bind_some];rw[FV hj.2.2.1 (show JW b t=none from by simp only[JW,h.2,Option.bind_none]) (by omega)];rfl⟩)) (by rintro a w ⟨_,_,_,⟨v58,t58,R_,rfl,rfl,rfl⟩,h⟩;exact h.me [1,1,1] [0,1,2]) (GX.ret ?_) ?_
   ·rintro _ _ _ ⟨v58,t58,R_,rfl,rfl,rfl⟩
    obtain⟨ht58,hu58,hv58,hw58,hx58⟩:=ER R_
    refine BH [7,9] ?_
    refine BD (i:=7) rfl rfl Tryz.call169 rfl (is:=[0]) (js:=[2]) rfl rfl (by exact(Em _ _ _ b _ t58 8 (by omega) (by omega) (by omega) (by omega) (by omega)).mono (λ_ _ _ h=>h) (λ_ h=>⟨h.1,by simp only[Ih,Ji,Ir,Gx,IE,hkP,XR,Option.bind_some];rw[FV hj.2.2.1 (show JW b t=none from by simp only[JW,R_,Option.bind_some,h.2,Option.bind_none]) (by omega)];rfl⟩)) (by rintro a w ⟨_,_,_,⟨v62,t62,hs62,rfl,rfl,rfl⟩,h⟩;exact h.me [1,1,1] [0,1,2]) (GX.ret ?_) ?_
    ·rintro _ _ _ ⟨v62,t62,hs62,rfl,rfl,rfl⟩
     obtain⟨ht62,hu62,hv62,hw62,hx62⟩:=ER hs62
     refine Bq 8 rfl [1,1,1] [0,1,2] (EK (ED Jq Yh rfl rfl)) ?_
     refine BH [9] ?_
     refine IZ.cons (i:=9) rfl rfl (EH rfl Jq) (by rintro a w ⟨_,h⟩;exact h.me [2,2,2] [0,1,2]) (Bj λKZ=>?_) Aq
     refine BH [10] ?_
     refine IZ.cons (i:=10) rfl rfl (EZ (i:=0) rfl rfl rfl GY rfl rfl rfl) (by rintro a w h;exact h.me [2,2,2] [0,1,2]) ?_ Aq
     exact B_ (by kernel_rfl) (λa w h=>⟨_,_,_,_,_,⟨R_,hs62⟩,h.cut (is:=[1,1,2,1,0]) (js:=[0,1,2]) ⟨rfl,rfl,rfl,rfl,rfl,rfl,trivial⟩ rfl rfl⟩)
    refine IZ.cons (i:=9) rfl rfl (EH rfl Jq) (by rintro a w ⟨_,h⟩;exact h.me [2,2,2] [0,1,2]) (Bj λKZ=>?_) Aq
    refine BH [7] ?_
    refine BD (i:=7) rfl rfl Tryz.call169 rfl (is:=[1]) (js:=[2]) rfl rfl (by exact(Em _ _ _ b _ t58 8 (by omega) (by omega) (by omega) (by omega) (by omega)).mono (λ_ _ _ h=>h) (λ_ h=>⟨h.1,by simp only[Ih,Ji,Ir,Gx,IE,hkP,XR,Option.bind_some];rw[FV hj.2.2.1 (show JW b t=none from by simp only[JW,R_,Option.bind_some,h.2,Option.bind_none]) (by omega)];rfl⟩)) (by rintro a w ⟨_,_,_,⟨v62,t62,hs62,rfl,rfl,rfl⟩,h⟩;exact h.me [2,2,2] [0,1,2]) (GX.ret ?_) Aq
    rintro _ _ _ ⟨v62,t62,hs62,rfl,rfl,rfl⟩
    obtain⟨ht62,hu62,hv62,hw62,hx62⟩:=ER hs62
    refine Bq 8 rfl [2,2,2] [0,1,2] (EK (ED Jq Yh rfl rfl)) ?_
    refine BH [10] ?_
    refine IZ.cons (i:=10) rfl rfl (EZ (i:=1) rfl rfl rfl GY rfl rfl rfl) (by rintro a w h;exact h.me [2,2,2] [0,1,2]) ?_ Aq
    exact zq78_
   refine IZ.cons (i:=9) rfl rfl (EH rfl Jq) (by rintro a w ⟨_,h⟩;exact h.me [2,2,2] [0,1,2]) (Bj λKZ=>?_) Aq
   refine BH [3] ?_
   refine BD (i:=3) rfl rfl Tryz.call169 rfl (is:=[1]) (js:=[2]) rfl rfl (by exact(Em _ _ _ b _ t 8 (by omega) (by omega) (by omega) (by omega) (by omega)).mono (λ_ _ _ h=>h) (λ_ h=>⟨h.1,by simp only[Ih,Ji,Ir,Gx,IE,hkP,XR,Option.bind_some];rw[FV hj.2.2.1 (show JW b t=none from by simp only[JW,h.2,Option.bind_none]) (by omega)];rfl⟩)) (by rintro a w ⟨_,_,_,⟨v58,t58,R_,rfl,rfl,rfl⟩,h⟩;exact h.me [2,2,2] [0,1,2]) (GX.ret ?_) Aq
   rintro _ _ _ ⟨v58,t58,R_,rfl,rfl,rfl⟩
   obtain⟨ht58,hu58,hv58,hw58,hx58⟩:=ER R_
   refine BH [7] ?_
   refine BD (i:=7) rfl rfl Tryz.call169 rfl (is:=[0]) (js:=[2]) rfl rfl (by exact(Em _ _ _ b _ t58 8 (by omega) (by omega) (by omega) (by omega) (by omega)).mono (λ_ _ _ h=>h) (λ_ h=>⟨h.1,by simp only[Ih,Ji,Ir,Gx,IE,hkP,XR,Option.bind_some];rw[FV hj.2.2.1 (show JW b t=none from by simp only[JW,R_,Option.bind_some,h.2,Option.bind_none]) (by omega)];rfl⟩)) (by rintro a w ⟨_,_,_,⟨v62,t62,hs62,rfl,rfl,rfl⟩,h⟩;exact h.me [2,2,2] [0,1,2]) (GX.ret ?_) Aq
   rintro _ _ _ ⟨v62,t62,hs62,rfl,rfl,rfl⟩
   obtain⟨ht62,hu62,hv62,hw62,hx62⟩:=ER hs62
   refine Bq 8 rfl [2,2,2] [0,1,2] (EK (ED Jq Yh rfl rfl)) ?_
   refine BH [10] ?_
   refine IZ.cons (i:=10) rfl rfl (EZ (i:=1) rfl rfl rfl GY rfl rfl rfl) (by rintro a w h;exact h.me [2,2,2] [0,1,2]) ?_ Aq
   exact zq78_
  refine(?_:GC _ _ _ _)
  refine BQ λv58=>BQ λt58=>BQ λv62=>BQ λt62=>BQ λKZ=>GC.and fun⟨R_,hs62⟩=>?_;refine AB ?_
  obtain⟨ht58,hu58,hv58,hw58,hx58⟩:=ER R_
  obtain⟨ht62,hu62,hv62,hw62,hx62⟩:=ER hs62
  refine CS (m:=20) (M:=λa w=>∃Vx:J4,∃n76:Nat,∃e76:Int,∃sQ:Option Addr,∃c76:Nat,∃RD:Nat,((e76=0->Hw (seg b t62 b.length)=some (Vx,n76))/\(n76<=(seg b t62 b.length).length/\(e76≠0->Hw (seg b t62 b.length)=none))/\Vx.data.length<=c76/\c76<=9223372036854775807)/\St c 122 [(0,.pointer (some ⟨p,0,none⟩)),(2,.pointer (some ⟨Gm,0,none⟩)),(3,.pointer (some ⟨FQ,0,none⟩)),(4,.pointer (some ⟨KZ,0,none⟩)),(5,.pointer (some ⟨RD,0,none⟩)),(6,.int .i64 (n76:Int)),(7,.int .i64 e76),(52,.int .i64 v52),(53,.int .i64 (k:Int))] [.cells p [.slice A b.length cp,.int .i64 (t62:Int)] e_,.cells FQ [.int .i64 v13,.int .i64 v17,.int .i64 v21,.slice dN ps.length sK,V,.int .i64 0,.slice none 0 0] 61,.cells Gm [.int .i64 0,.int .i64 0,.int .i64 0,.slice none 0 0,.slice none 0 0,.int .i64 0,.slice none 0 0] 61,.row V 166 4 rs.length cs,.cells KZ [.int .i64 v58,.int .i64 v62,.int .u8 0,.slice none 0 0] 166,.cells RD [.int .u8 Vx.code,.slice sQ Vx.data.length c76] 52] [D7.row Kd.u8 sQ Vx.data,A_ Jz rs cs,D7.row GR dN ps,D7.row Kd.u8 A b] a w) (is:=(zs 5)) (js:=[0,1,2]) Ef rfl rfl rfl ?_ ?_
  ·refine AZ 0 (zs 5) [0,1,2] ?_;refine AZ 1 (zs 5) [0,1,2] ?_;refine AZ 2 (zs 5) [0,1,2] ?_;refine AZ 3 (zs 5) [0,1,2] ?_;refine BA 4 rfl (zs 5) [0,1,2] (i_mem (EF (i:=0) rfl rfl G_ rfl)) ?_
   refine AZ 5 (zs 5) [0,1,2] ?_;refine AZ 6 (zs 5) [0,1,2] ?_;refine AZ 7 (zs 5) [0,1,2] ?_;refine AZ 8 (zs 5) [0,1,2] ?_;refine BA 9 rfl (zs 5) [0,1,2] (i_mem (EF (i:=0) rfl rfl Ei rfl)) ?_
   refine Aw [10,16] ?_
   refine E8.cons (i:=10) rfl rfl (Jk (j:=2) rfl rfl rfl rfl Tryz.underlying47 Fa (by omega) (by omega) (by omega)) (by rintro a w h;exact h.me (zs 5) [1,2,3]) ?_ ?_
   ·refine Aw [11,16] ?_
    refine E8.cons (i:=11) rfl rfl (EI rfl Tryz.call110 rfl (is:=[]) (js:=[0]) rfl rfl (by exact Qc _ (seg b t62 b.length) _ (by rw[Gt (by omega)];omega) (by omega) (by rw[Gt (by omega)];omega))) (by rintro a w ⟨_,_,_,⟨Vx,n76,e76,sQ,c76,Uh,Yv,l76,k76,rfl,rfl,rfl⟩,h⟩;exact h.me (zs 5) [2,3,4]) (GA.ret ?_) ?_
    ·rintro _ _ _ ⟨Vx,n76,e76,sQ,c76,Uh,Yv,l76,k76,rfl,rfl,rfl⟩
     refine AZ 12 (zs 5) [2,3,4] ?_;refine AZ 13 (zs 5) [2,3,4] ?_;refine AZ 14 (zs 5) [2,3,4] ?_;refine AZ 15 (zs 5) [2,3,4] ?_;refine Aw [16] ?_
     refine E8.cons (i:=16) rfl rfl (EH rfl Ig) (by rintro a w ⟨_,h⟩;exact h.me [1,1,1,1,1] [2,3,4]) (BZ λRD=>?_) Ag
     refine Aw [17] ?_
     refine E8.cons (i:=17) rfl rfl (EZ (i:=0) rfl rfl rfl KI rfl rfl rfl) (by rintro a w h;exact h.me [1,1,1,1,1] [2,3,4]) ?_ Ag
     refine AZ 18 [1,1,1,1,1] [2,3,4] ?_;refine AZ 19 [1,1,1,1,1] [2,3,4] ?_
     exact zq79_
    refine E8.cons (i:=16) rfl rfl (EH rfl Ig) (by rintro a w ⟨_,h⟩;exact h.me [1,1,1,1,1] [1,2,3]) (BZ λRD=>?_) Ag
    refine Aw [11] ?_
    refine E8.cons (i:=11) rfl rfl (EI rfl Tryz.call110 rfl (is:=[]) (js:=[0]) rfl rfl (by exact Qc _ (seg b t62 b.length) _ (by rw[Gt (by omega)];omega) (by omega) (by rw[Gt (by omega)];omega))) (by rintro a w ⟨_,_,_,⟨Vx,n76,e76,sQ,c76,Uh,Yv,l76,k76,rfl,rfl,rfl⟩,h⟩;exact h.me [1,1,1,1,1] [2,3,4]) (GA.ret ?_) Ag
    rintro _ _ _ ⟨Vx,n76,e76,sQ,c76,Uh,Yv,l76,k76,rfl,rfl,rfl⟩
    refine AZ 12 [1,1,1,1,1] [2,3,4] ?_;refine AZ 13 [1,1,1,1,1] [2,3,4] ?_;refine AZ 14 [1,1,1,1,1] [2,3,4] ?_;refine AZ 15 [1,1,1,1,1] [2,3,4] ?_;refine Aw [17] ?_
    refine E8.cons (i:=17) rfl rfl (EZ (i:=0) rfl rfl rfl KI rfl rfl rfl) (by rintro a w h;exact h.me [1,1,1,1,1] [2,3,4]) ?_ Ag
    refine AZ 18 [1,1,1,1,1] [2,3,4] ?_;refine AZ 19 [1,1,1,1,1] [2,3,4] ?_
    exact zq79_
   refine E8.cons (i:=16) rfl rfl (EH rfl Ig) (by rintro a w ⟨_,h⟩;exact h.me [1,1,1,1,1] [0,1,2]) (BZ λRD=>?_) Ag
   refine Aw [10] ?_
   refine E8.cons (i:=10) rfl rfl (Jk (j:=2) rfl rfl rfl rfl Tryz.underlying47 Fa (by omega) (by omega) (by omega)) (by rintro a w h;exact h.me [1,1,1,1,1] [1,2,3]) ?_ Ag
   refine Aw [11] ?_
   refine E8.cons (i:=11) rfl rfl (EI rfl Tryz.call110 rfl (is:=[]) (js:=[0]) rfl rfl (by exact Qc _ (seg b t62 b.length) _ (by rw[Gt (by omega)];omega) (by omega) (by rw[Gt (by omega)];omega))) (by rintro a w ⟨_,_,_,⟨Vx,n76,e76,sQ,c76,Uh,Yv,l76,k76,rfl,rfl,rfl⟩,h⟩;exact h.me [1,1,1,1,1] [2,3,4]) (GA.ret ?_) Ag
   rintro _ _ _ ⟨Vx,n76,e76,sQ,c76,Uh,Yv,l76,k76,rfl,rfl,rfl⟩
   refine AZ 12 [1,1,1,1,1] [2,3,4] ?_;refine AZ 13 [1,1,1,1,1] [2,3,4] ?_;refine AZ 14 [1,1,1,1,1] [2,3,4] ?_;refine AZ 15 [1,1,1,1,1] [2,3,4] ?_;refine Aw [17] ?_
   refine E8.cons (i:=17) rfl rfl (EZ (i:=0) rfl rfl rfl KI rfl rfl rfl) (by rintro a w h;exact h.me [1,1,1,1,1] [2,3,4]) ?_ Ag
   refine AZ 18 [1,1,1,1,1] [2,3,4] ?_;refine AZ 19 [1,1,1,1,1] [2,3,4] ?_
   exact zq79_
  refine(?_:GC _ _ _ _)
  refine BQ λVx=>BQ λn76=>BQ λe76=>BQ λsQ=>BQ λc76=>BQ λRD=>GC.and fun⟨Uh,Yv,l76,k76⟩=>?_;refine AX ?_
  have hq76:=Yv.1
  rw[Gt (by omega)] at hq76
  refine AA 1 ?_;refine Bc rfl Tryz.call170 rfl (is:=[]) (js:=[]) rfl rfl (by exact(QW _).mono (λ_ _ _ h=>h) (λ_ h=>⟨⟨_,h⟩,by simp only[Ih,Ji,Ir,Gx,IE,hkP,XR,Option.bind_some];rw[FV hj.2.2.1 (show JW b t=none from by simp only[JW,R_,hs62,Option.bind_some,Yv.2 h.1,Option.map_none]) (by omega)];rfl⟩)) (λv a w he h=>Iu.panic he h) (GL.ret ?_)
  rintro _ _ _ ⟨he81,rfl,rfl,rfl⟩
  have hd76:=Uh he81
  refine Ap ?_;refine AX ?_;refine Az 5 2 ?_;refine AA 1 ?_;refine Ar 4 ?_;refine BL 4 ?_;refine Ad 0 ?_;refine AA 1 ?_;refine AO rfl (EU rfl rfl (Fh (by omega) (by omega))) ?_
  refine AA 3 ?_;refine BI 0 ?_;refine Ap ?_;refine GC.region ?_;refine AA 1 ?_;refine Ad 1 ?_;refine Az 4 4 ?_;refine GL.step rfl (EC rfl Tryz.underlying59 GY Jq rfl rfl rfl rfl rfl rfl) (Aa λb_t97=>?_)
  refine GL.step rfl (Eh (i:=4) (k:=0) rfl el_59 rfl rfl rfl rfl rfl (EX rfl) (by first|(have:=hk.1.1;omega)|(have:=hj.1.1;omega)) (λ_=>rfl)) (Aa λv98=>?_);refine GL.shape (i:=4) rfl (λA_v98 c_v98 e_v98 l_v98 k_v98=>?_)
  subst e_v98
  refine GL.snoc (j:=1) (js:=[0]) (⟨v58,v62,Vx⟩:Row) ((),((),((),(sQ,c76)))) rfl rfl ⟨trivial,trivial,trivial,l76,k76⟩ ?_;refine AA 1 ?_;refine BI 2 ?_
  refine Ac (?_:GC _ _ _ _)
  refine GC.region ?_;refine AO rfl (EU rfl rfl (Fh (by omega) (by omega))) ?_;refine AA 1 ?_;refine Ac ?_
  exact λa w h=>⟨(k+1),(rs++[(⟨v58,v62,Vx⟩:Row)]),(_),(_),(t62+n76),(by omega),⟨⟨by simp;omega,by omega⟩,by omega,J6 hj.2.2.1 (show JW b t=some _ from by simp only[JW,R_,hs62,Option.bind_some,hd76,Option.map_some]),λr hr=>by rcases List.mem_append.1 hr with hr|hr;exact hj.2.2.2 r hr;rw[List.mem_singleton.1 hr];exact Wy hd76⟩,by rw[List.length_append];exact h.cut (is:=[1,1,2,1]) (js:=[0,3,4]) ⟨rfl,rfl,rfl,rfl,rfl,trivial⟩ rfl rfl⟩
 intro h2;try simp only[D6] at h2
 refine GC.exit (?_:GC _ _ _ _)
 refine AX ?_
 obtain⟨tR,htR⟩:∃tR,tR=t:=⟨t,rfl⟩
 have hkR:Fq (JW b) t52 v52.toNat=some (rs,tR):=by rw[show v52.toNat=k by omega,htR];exact hj.2.2.1
 have htR':tR<=b.length:=by omega
 subst htR
 refine GL.shape (i:=2) rfl (λA_RW c_RW e_RW l_RW k_RW=>?_)
 subst e_RW
 refine GL.IQ (i:=2) (j:=0) rfl rfl (by decide) ?_;refine AA 1 ?_;refine Bc rfl Tryz.call171 rfl (is:=[0]) (js:=[3]) rfl rfl (by exact(mG _ _ _ b _ tR (by omega) (by omega) (by omega)).mono (λ_ _ _ h=>h) (λ_ h=>⟨h.1,by simp only[Ih,Ji,Ir,Gx,IE,hkP,XR,hkR,Option.bind_some,h.2,Option.bind_none]⟩)) (λv a w he h=>Iu.panic he h) (GL.ret ?_)
 rintro _ _ _ ⟨g102,t102,A102,c102,hs102,ht102,l102,m102,rfl,rfl,rfl⟩
 refine AA 1 ?_;refine Ar 1 ?_;refine Ap ?_;refine AB ?_;refine AX ?_
 have hM:Ih b at_=iC (⟨v13,⟨v17,v21⟩,ps,rs,g102⟩,t102):=by simp only[Ih,Ji,Ir,Gx,IE,hkP,XR,hkR,hs102,Option.bind_some]
 have hSL:IU (⟨v13,⟨v17,v21⟩,ps,rs,g102⟩:I4):=⟨by have:=hk.1.1;show ps.length<=_;omega,by have:=hj.1.1;show rs.length<=_;omega,by show g102.members.length<=_;omega,λp hp=>by have:=hk.2.2.2 p hp;show p.data.length<=_;omega,λr hr=>by have:=hj.2.2.2 r hr;show r.result.data.length<=_;omega⟩
 refine Az 1 7 ?_;refine Ah Tryz.call98 [] [3,1,0] rfl rfl rfl (by exact Yx (⟨v13,⟨v17,v21⟩,ps,rs,g102⟩:I4) _ _ _ _ _ _ hSL) ?_
 rintro _ _ _ ⟨x106,rfl,rfl,rfl⟩
 refine AL 5 ?_;refine AP 2 ?_;refine Af ?_ ?_
 ·intro h3;try simp only[D6] at h3
  refine GC.region ?_;refine AO rfl (ED PN TP rfl rfl) ?_;refine AO rfl (J_ Tryz.underlying247 (λm h=>by cases h) rfl) ?_;refine Cb rfl (λa w h=>?_)
  exact zq80_
 intro h3;try simp only[D6] at h3
 refine GC.skip (?_:GC _ _ _ _)
 refine AB ?_;refine AV 4 ?_;refine Ad 0 ?_;refine AL 1 ?_;refine Af ?_ ?_
 ·intro h4;try simp only[D6] at h4
  refine GC.region ?_;refine AO rfl (ED PN TP rfl rfl) ?_;refine AO rfl (J_ Tryz.underlying247 (λm h=>by cases h) rfl) ?_;refine Cb rfl (λa w h=>?_)
  exact zq80_
 intro h4;try simp only[D6] at h4
 refine GC.skip (?_:GC _ _ _ _)
 refine AX ?_;refine Az 1 7 ?_;refine Ar 2 ?_;refine Ap ?_;refine GC.ret (DJ 2 61 2 7 [0] [3,1,0] ?_)
 exact⟨_,_,by rw[hM,iC];exact if_pos ⟨by assumption,by omega⟩,by omega,hSL,⟨_,_,_,_,_,_,l_PG,k_PG,l_RW,k_RW,l102,m102,rfl,rfl⟩,rfl⟩
end Go.Proofs.YtliacpkblicnhaaGreat
namespace Go.Sx
open Go
section
variable {P:Program}{c:Cx}{n:Nat}{env:List (Nat×Value)}{G G' Gr:List Own}{Q Q':List D7}{d:Nat}{ty:TypeId}{pos:String}{Ew:Array Edge}{g:Option (Nat×Bool)}{x y:Operand}{t u:TypeId}{a a':Act}{w w':World}
theorem Dz{ops:Array Oper}{X:Exit->Gz}{rest:List Oper}{f:FuncId}{xs:List Operand}{vs us:List Value}{ts:Array TypeId}{is js:List Nat}{G1:List Own}{Q1:List D7}{R:Value->List Own->List D7->Prop}{E:Value->Prop}(hd:Nat.blt d n=true)(hf:oG P f)(hv:ev env x=some (.func (.func f) #[] us.toArray))(hx:evs env xs=some vs)
  (hsel:sel G is=some (G1,Gr)) (hq:Eu Q js=some Q1) (h:PK P f (vs++us) G1 Q1 R E) (hp:∀v a w,E v->St c n env Gr Q a w->X (.panic [{ v:=v,recovered:=false }]) a w)
  (k:GL P ops X rest (λa w=>∃v G2 Q2,R v G2 Q2/\St c n ((d,v)::env) (G2++Gr) (Q2++Q) a w)) :
  GL P ops X (⟨some d,.call { callee:=.value x,args:=xs.toArray,argTypes:=ts },ty,pos,Ew,none⟩::rest) (St c n env G Q):=by
 rintro a w ⟨S,he,hh,hrel⟩
 refine wpList_plain rfl λK hK=>?_
 have hp':=Ho hsel
 have hh1:=hh.perm hp'
 have Ik:=hrel.perm hp'
 have hin:Heap S G1 Q1 w:=hh1.sub (List.sublist_append_left _ _) (Gv hq)
 unfold Oper.wp
 rw[Xn hf hv hx a w he.toEnv]
 rw[Oper.upon_enter]
 refine(h w S hin).mono ?_
 rintro e w' (⟨v,G2,Q2,S',rfl,hR,h',hfr,hS,hkk⟩|⟨v,rfl,hE,hfr⟩)
 ·exact hK _ _ (k _ _ ⟨v,G2,Q2,hR,CU hh1 Ik h' hfr hS hkk (he.put hd v)⟩)
 ·exact hp v a w' hE (St.lost he hh1 Ik hfr)
theorem Vs{v:Value}{ut:TypeDesc}{xt:TypeId}(hx:ev env x=some (.iface t v))(hu:P.underlying t=some ut)(hn:∀m,ut≠.interface m):Pv P n env ⟨some d,.typeAssert x xt t true,ty,pos,Ew,g⟩ (.tuple #[v,.bool true]):=λa w he=>by
 simp only[execOp,he.eval hx,Instr.typeAssert,Sem.run_bind,run_underlying hu,Result.andThen_ok]
 cases ut<;>first|simp|exact absurd rfl (hn _)
theorem YZ{v:Value}{k:TypeId}(hx:ev env x=some (.iface k v)){ms}(ht:P.underlying t=some (.interface ms)):Pv P n env ⟨some d,.binOp .eql t x (.const .nilIface) u,ty,pos,Ew,g⟩ (.bool false):=λa w he=>by
 simp only[execOp,he.eval hx]
 have h1:(eqGuard .eql t x (.const .nilIface) (.iface k v) .nilIface).run P w=.ok () w:=by
  unfold eqGuard
  rfl
 have h2:(Op.equal t (.iface k v) .nilIface).run P w=.ok false w:=by
  show(Op.equalIn (9999+1) t (.iface k v) .nilIface).run P w=_
  rw[Op.equalIn]
  simp only[Sem.run_bind,run_underlying ht,Result.andThen_ok]
  rfl
 simp[binOp,Act.eval,h1,h2]
end
end Go.Sx
namespace Go.Proofs.YtliacpkblicnhaaGreat
open Go Go.Sx Go.Proofs
abbrev zE:List Value:=[.int .u8 0,.int .i64 0,.int .i64 0,.int .i64 0,.int .i64 0,.int .u8 0,.int .i64 0,.int .i64 0,.slice none 0 0,.slice none 0 0,.int .i64 0,.slice none 0 0]
abbrev zS:List Value:=[.int .i64 0,.int .i64 0,.int .i64 0,.slice none 0 0,.slice none 0 0,.int .i64 0,.slice none 0 0]
def ZF:Entry:=⟨0,0,0,0,0,Iw,Le⟩
theorem recE_ct(e:Int)(p4 p5 p6:Nat):CtR Tryz.prog 168 [.pointer (some ⟨p4,0,none⟩),.pointer (some ⟨p5,0,none⟩),.pointer (some ⟨p6,0,none⟩)] [.cells p4 zE 97,.cells p5 [.int .i64 0] 3,.cells p6 [.int .i64 0] 68] [] (mF e)
  (λu G Q=>u=.tuple #[]/\G=[.cells p4 zE 97,.cells p5 [.int .i64 0] 3,.cells p6 [.int .i64 e] 68]/\Q=[]):=by
 refine CtR.intro Tryz.func168 rfl rfl rfl rfl rfl (λc hc=>?_)
 refine AB ?_
 refine AB ?_
 refine GC.region ?_
 refine AO rfl (Fe rfl) ?_
 refine AO rfl (YZ rfl Tryz.underlying20) ?_
 refine Ac (?_:GC _ _ _ _)
 refine AY rfl ?_
 refine GC.skip (?_:GC _ _ _ _)
 refine AB ?_
 refine GC.region ?_
 refine AO rfl (Fe rfl) ?_
 refine AO rfl (Vs rfl Tryz.underlying247 (λm h=>by cases h)) ?_
 refine AO rfl (Fe rfl) ?_
 refine AO rfl (LC rfl rfl) ?_
 refine AO rfl (LC rfl rfl) ?_
 refine GL.step rfl (EH rfl PN) (Aa λKZ=>?_)
 refine GL.step rfl (EZ (i:=0) rfl rfl rfl sz_247 rfl rfl rfl) ?_
 refine AO rfl (Po rfl) ?_
 refine Ac (?_:GC _ _ _ _)
 refine AB ?_
 refine AB ?_
 refine GC.region ?_
 refine AO rfl (Fe rfl) ?_
 refine AO rfl (ku rfl) ?_
 refine Ac (?_:GC _ _ _ _)
 refine AY rfl ?_
 refine GC.skip (?_:GC _ _ _ _)
 refine AB ?_
 refine GC.region ?_
 refine GL.step rfl (EH rfl Ia) (Aa λKr=>?_)
 refine Ac (?_:GC _ _ _ _)
 refine BF (m:=6) (is:=[0,0]) (js:=[]) Ef rfl rfl rfl ?_
 refine GA.take 0 rfl (by kernel_rfl) (by kernel_rfl) (by kernel_rfl) rfl (λa w h=>h.mem (is:=[0,0]) (js:=[]) rfl rfl) (i_mem (G7 (i:=0) rfl rfl Ku (vs:=[_,_,_,_,_,_,_,_,_,_,_,_]) F9 ⟨rfl,rfl,rfl,rfl,rfl,rfl,rfl,rfl,rfl,rfl,rfl,rfl,trivial⟩)) ?_
 refine GA.take 1 rfl (by kernel_rfl) (by kernel_rfl) (by kernel_rfl) rfl (λa w h=>h.mem (is:=[0,0]) (js:=[]) rfl rfl) (EK (En bF rfl)) ?_
 refine GA.take 2 rfl (by kernel_rfl) (by kernel_rfl) (by kernel_rfl) rfl (λa w h=>h.mem (is:=[0,0]) (js:=[]) rfl rfl) (i_mem (EF (i:=1) rfl rfl JC rfl)) ?_
 refine GA.all (rs:=[3]) (by kernel_rfl) (by simp) ?_
 refine E8.cons (i:=3) rfl rfl (EZ (i:=2) rfl rfl rfl F9 rfl rfl rfl) (by rintro a w h;exact h.mem (is:=[0,0]) (js:=[]) rfl rfl) ?_ ?_
 ·refine GA.all (rs:=[4]) (by kernel_rfl) (by simp) ?_
  refine E8.cons (i:=4) rfl rfl (Et (i:=3) rfl rfl rfl rfl GV rfl rfl rfl) (by rintro a w h;exact h.mem (is:=[0,0]) (js:=[]) rfl rfl) ?_ ?_
  ·refine GA.all (rs:=[5]) (by kernel_rfl) (by simp) ?_
   refine E8.cons (i:=5) rfl rfl (Et (i:=4) rfl rfl rfl rfl ZW rfl rfl rfl) (by rintro a w h;exact h.mem (is:=[0,0]) (js:=[]) rfl rfl) ?_ ?_
   ·refine BG (by kernel_rfl) ?_
    refine λa w h=>Bz rfl (is:=[2,2,2]) (js:=[]) rfl rfl ?_ h
    clear h
    exact⟨rfl,rfl,rfl⟩
   exact Ag
  exact Ag
 exact Ag
theorem idleE(p q r:Value)(w:World):CallsD Tryz.prog 168 #[p,q,r] .returning w λe u' w'=>e=.returned (.tuple #[])/\u'=.returning/\w'=w:=by
 have hn:∀w:World,(binOp BinOp.eql 20 .nilIface .nilIface).run Tryz.prog w=.ok (.bool true) w:=λ_=>by kernel_rfl
 refine callsD_of_wpS Tryz.func168 rfl λc₀ cs hu=>?_
 apply wpS_seq
 apply wpS_region
 simp[wpOpsS,go_sem,recoverD,hu,Tryz.ntmps168,Exit.thenS]
 apply wpS_seq
 apply wpS_seq
 apply wpS_region
 simp[wpOpsS,go_sem,Exit.thenS,hn]
 refine wpS_cond (t:=true) (by simp[Act.eval,Array.replicate]) ?_
 simp only[if_true]
 refine wpS_of_wp (wp_ret ?_)
 cases c₀
 simp_all [bodyPostS,results,Exit.thenS]
theorem dec1_ct(p e_:Nat)(A:Option Addr)(b:List UInt8)(cp:Nat)(hb:b.length<=cp)(Gl:cp<=9223372036854775807)(hb':b.length<=10000000000000):PK Tryz.prog 114 [.pointer (some ⟨p,0,none⟩)] (KP p e_ A b cp 0) [D7.row Kd.u8 A b]
    (λu G Q=>∃(e:Entry) (t:Nat),Gf b 0=some (e,t)/\t<=b.length/\EntR e u Q/\G=KP p e_ A b cp t) (λv=>Qy v/\Gf b 0=none):=by
 refine PK.intro Tryz.func114 rfl rfl rfl (λc hc=>?_)
 refine AX ?_;refine GL.step rfl (EH rfl Ia) (Aa λGm=>?_);refine BL 1 ?_;refine Bc rfl Tryz.call115 rfl (is:=[1]) (js:=[0]) rfl rfl (by exact mentr_ct _ _ _ b _ 0 hb Gl hb' (by omega)) (λv a w he h=>Iu.panic he h) (GL.ret ?_)
 rintro _ _ _ ⟨g4,t4,hs4,ht4,⟨A4,cp4,B4,cq4,C4,cr4,j4,k4,l4,m4,n4,o4,rfl,rfl⟩,rfl⟩
 refine Ar 1 ?_;refine Ap ?_;refine GC.ret (DJ 2 97 1 12 [0] [0,1,2] ?_)
 exact⟨_,_,hs4,ht4,⟨_,_,_,_,_,_,j4,k4,l4,m4,n4,o4,rfl,rfl⟩,rfl⟩
abbrev DecR(b:List UInt8)(u:Value)(G:List Own)(Q:List D7):Prop:=∃(e:Entry) (n:Nat) (k:Int) (A:Option Addr) (cp:Nat) (B:Option Addr) (cq:Nat) (C:Option Addr) (cr:Nat),((k=0->Gf b 0=some (e,n))/\(k≠0->Gf b 0=none))/\n<=b.length/\e.op.data.length<=cp/\cp<=9223372036854775807/\e.op.old.length<=cq/\cq<=9223372036854775807/\e.grp.members.length<=cr/\cr<=9223372036854775807/\u=.tuple #[Wj e A cp B cq C cr,.int .i64 (n:Int),.int .i64 k]/\G=[]/\Q=Wn e A B C
theorem readE_ct(A:Option Addr)(b:List UInt8)(cp:Nat)(hb:b.length<=cp)(Gl:cp<=9223372036854775807)(hb':b.length<=10000000000000):Ct Tryz.prog 113 [.slice A b.length cp,.func (.func 114) #[] #[]] [] [D7.row Kd.u8 A b] (DecR b):=by
 refine Ct.WA Tryz.func113 rfl rfl rfl (λc hc tK=>?_)
 refine AX ?_;refine GL.step rfl (EH rfl Ia) (Aa λKZ=>?_);refine GL.step rfl (EH rfl Ja) (Aa λRD=>?_);refine GL.step rfl (EH rfl ji) (Aa λKr=>?_);refine Ap ?_
 refine AX ?_;refine AO rfl (J5 rfl rfl) ?_;refine GL.defer (f:=168) (us:=[_,_,_]) tK rfl ?_;refine BL 1 ?_;refine AO rfl (ED ze_250 of_250 rfl rfl) ?_;refine AO rfl (ED ze_252 of_252 rfl rfl) ?_
 refine GL.step rfl (Ee rfl rfl rfl) (Aa λXE=>?_);refine AL 1 ?_;refine AV 2 ?_;refine Dz rfl Tryz.call114 rfl rfl (is:=[0]) (js:=[0]) rfl rfl (by exact dec1_ct _ _ _ _ _ (by omega) (by omega) (by omega)) (λv a w he h=>by obtain⟨⟨ex,hex,rfl⟩,hno⟩:=he;exact Dj Tryz.call168 (recE_ct ex _ _ _) (isC:=[2,1,0]) (jsC:=[]) rfl rfl (λu G2 Q2 a w hR h=>by obtain⟨rfl,rfl,rfl⟩:=hR;exact Bf (rs:=[.cell 4 97,.cell 5 3,.cell 6 68]) (vs:=[_,_,_]) (is:=[]) (js:=[1,1,0]) rfl ⟨⟨0,_,_,_,_,rfl,rfl,.inr ⟨[_,_,_,_,_,_,_,_,_,_,_,_],rfl,Ku,F9,⟨rfl,rfl,rfl,rfl,rfl,rfl,rfl,rfl,rfl,rfl,rfl,rfl,trivial⟩⟩⟩,⟨1,_,_,_,_,rfl,rfl,.inl ⟨Ei,rfl⟩⟩,⟨2,_,_,_,_,rfl,rfl,.inl ⟨JC,rfl⟩⟩,trivial⟩ rfl rfl (by exact⟨ZF,0,ex,none,0,none,0,none,0,⟨λh=>absurd h hex,λ_=>hno⟩,by omega,by simp[ZF,Iw],by omega,by simp[ZF,Iw],by omega,by simp[ZF,Le],by omega,rfl,rfl,rfl⟩) ((h.know (q:=D7.row Kd.u8 none []) (λ_ _ _=>.inl rfl)).know (q:=D7.row kI none []) (λ_ _ _=>.inl rfl))) h) (GL.ret ?_)
 rintro _ _ _ ⟨g15,t15,Fj,au,⟨jT,cp15,B15,cq15,C15,cr15,j15,k15,l15,m15,n15,o15,rfl,rfl⟩,rfl⟩
 refine Ar 3 ?_;refine Ap ?_;refine AB ?_;refine BF (m:=9) (is:=[0]) (js:=[0,1,2,3]) Ef rfl rfl rfl ?_;refine AZ 1 [0] [0,1,2,3] ?_;refine AZ 2 [0] [0,1,2,3] ?_;refine AZ 3 [0] [0,1,2,3] ?_
 refine AZ 4 [0] [0,1,2,3] ?_;refine BA 5 rfl [0] [0,1,2,3] (i_mem (EF (i:=0) rfl rfl Ei rfl)) ?_;refine Aw [0] ?_
 refine E8.cons (i:=0) rfl rfl (Ed rfl (G7 (i:=3) rfl rfl Ku (vs:=[_,_,_,_,_,_,_,_,_,_,_,_]) F9 ⟨rfl,rfl,rfl,rfl,rfl,rfl,rfl,rfl,rfl,rfl,rfl,rfl,trivial⟩)) (by rintro a w h;exact h.me [0] [0,1,2,3]) ?_ Ag
 refine Aw [6] ?_
 refine E8.cons (i:=6) rfl rfl (EZ (i:=3) rfl rfl rfl F9 rfl rfl rfl) (by rintro a w h;exact h.me [0] [0,1,2,3]) ?_ Ag
 refine Aw [7] ?_
 refine E8.cons (i:=7) rfl rfl (Et (i:=2) rfl rfl rfl rfl GV rfl rfl rfl) (by rintro a w h;exact h.me [0] [0,1,2,3]) ?_ Ag
 refine Aw [8] ?_
 refine E8.cons (i:=8) rfl rfl (Et (i:=1) rfl rfl rfl rfl ZW rfl rfl rfl) (by rintro a w h;exact h.me [0] [0,1,2,3]) ?_ Ag
 refine BG (by kernel_rfl) (?_:GC _ _ _ _)
 refine GC.ret ?_
 refine λa w h=>CZ Tryz.call168 (idleE _ _ _) (rs:=[.cell 4 97,.cell 5 3,.cell 6 68]) (vs:=[_,_,_]) (is:=[]) (js:=[0,1,2]) rfl ⟨⟨3,_,_,_,_,rfl,rfl,.inr ⟨[_,_,_,_,_,_,_,_,_,_,_,_],rfl,Ku,F9,⟨rfl,rfl,rfl,rfl,rfl,rfl,rfl,rfl,rfl,rfl,rfl,rfl,trivial⟩⟩⟩,⟨2,_,_,_,_,rfl,rfl,.inl ⟨Ei,rfl⟩⟩,⟨1,_,_,_,_,rfl,rfl,.inl ⟨JC,rfl⟩⟩,trivial⟩ rfl rfl ?_ h
 clear h
 exact⟨_,_,0,_,_,_,_,_,_,⟨λ_=>Fj,λh=>absurd rfl h⟩,au,j15,k15,l15,m15,n15,o15,rfl,rfl,rfl⟩
theorem rP(A:Option Addr)(b:List UInt8)(cp:Nat)(hb:b.length<=cp)(Gl:cp<=9223372036854775807)(hb':b.length<=10000000000000):Ct Tryz.prog 77 [.slice A b.length cp] [] [D7.row Kd.u8 A b] (DecR b):=by
 refine Ct.intro Tryz.func77 rfl rfl rfl (λc hc=>?_)
 refine AX ?_;refine GL.step rfl (EH rfl Ia) (Aa λGm=>?_);refine AL 2 ?_;refine AV 1 ?_;refine Ah Tryz.call113 [] [0] rfl rfl rfl (by exact readE_ct _ b _ hb Gl hb') ?_
 rintro _ _ _ ⟨g6,t6,f6,A6,cp6,B6,cq6,C6,cr6,hs6,ht6,j6,k6,l6,m6,n6,o6,rfl,rfl,rfl⟩
 refine AA 3 ?_;refine Ar 0 ?_;refine AL 2 ?_;refine GC.ret (Fin.c2 2 97 3 4 0 12 [] [0,1,2] ?_)
 exact⟨_,_,_,_,_,_,_,_,_,hs6,ht6,j6,k6,l6,m6,n6,o6,rfl,rfl,rfl⟩
theorem U8:IU PI:=⟨by simp[PI],by simp[PI],by simp[PI,Le],λp hp=>by simp[PI] at hp,λr hr=>by simp[PI] at hr⟩
theorem recS_ct(e:Int)(p4 p5 p6:Nat):CtR Tryz.prog 206 [.pointer (some ⟨p4,0,none⟩),.pointer (some ⟨p5,0,none⟩),.pointer (some ⟨p6,0,none⟩)] [.cells p4 zS 61,.cells p5 [.int .i64 0] 3,.cells p6 [.int .i64 0] 68] [] (mF e)
  (λu G Q=>u=.tuple #[]/\G=[.cells p4 zS 61,.cells p5 [.int .i64 0] 3,.cells p6 [.int .i64 e] 68]/\Q=[]):=by
 refine CtR.intro Tryz.func206 rfl rfl rfl rfl rfl (λc hc=>?_)
 refine AB ?_
 refine AB ?_
 refine GC.region ?_
 refine AO rfl (Fe rfl) ?_
 refine AO rfl (YZ rfl Tryz.underlying20) ?_
 refine Ac (?_:GC _ _ _ _)
 refine AY rfl ?_
 refine GC.skip (?_:GC _ _ _ _)
 refine AB ?_
 refine GC.region ?_
 refine AO rfl (Fe rfl) ?_
 refine AO rfl (Vs rfl Tryz.underlying247 (λm h=>by cases h)) ?_
 refine AO rfl (Fe rfl) ?_
 refine AO rfl (LC rfl rfl) ?_
 refine AO rfl (LC rfl rfl) ?_
 refine GL.step rfl (EH rfl PN) (Aa λKZ=>?_)
 refine GL.step rfl (EZ (i:=0) rfl rfl rfl sz_247 rfl rfl rfl) ?_
 refine AO rfl (Po rfl) ?_
 refine Ac (?_:GC _ _ _ _)
 refine AB ?_
 refine AB ?_
 refine GC.region ?_
 refine AO rfl (Fe rfl) ?_
 refine AO rfl (ku rfl) ?_
 refine Ac (?_:GC _ _ _ _)
 refine AY rfl ?_
 refine GC.skip (?_:GC _ _ _ _)
 refine AB ?_
 refine GC.region ?_
 refine GL.step rfl (EH rfl I5) (Aa λKr=>?_)
 refine Ac (?_:GC _ _ _ _)
 refine BF (m:=6) (is:=[0,0]) (js:=[]) Ef rfl rfl rfl ?_
 refine GA.take 0 rfl (by kernel_rfl) (by kernel_rfl) (by kernel_rfl) rfl (λa w h=>h.mem (is:=[0,0]) (js:=[]) rfl rfl) (i_mem (G7 (i:=0) rfl rfl UR (vs:=[_,_,_,_,_,_,_]) JH ⟨rfl,rfl,rfl,rfl,rfl,rfl,rfl,trivial⟩)) ?_
 refine GA.take 1 rfl (by kernel_rfl) (by kernel_rfl) (by kernel_rfl) rfl (λa w h=>h.mem (is:=[0,0]) (js:=[]) rfl rfl) (EK (En bF rfl)) ?_
 refine GA.take 2 rfl (by kernel_rfl) (by kernel_rfl) (by kernel_rfl) rfl (λa w h=>h.mem (is:=[0,0]) (js:=[]) rfl rfl) (i_mem (EF (i:=1) rfl rfl JC rfl)) ?_
 refine GA.all (rs:=[3]) (by kernel_rfl) (by simp) ?_
 refine E8.cons (i:=3) rfl rfl (EZ (i:=2) rfl rfl rfl JH rfl rfl rfl) (by rintro a w h;exact h.mem (is:=[0,0]) (js:=[]) rfl rfl) ?_ ?_
 ·refine GA.all (rs:=[4]) (by kernel_rfl) (by simp) ?_
  refine E8.cons (i:=4) rfl rfl (Et (i:=3) rfl rfl rfl rfl GV rfl rfl rfl) (by rintro a w h;exact h.mem (is:=[0,0]) (js:=[]) rfl rfl) ?_ ?_
  ·refine GA.all (rs:=[5]) (by kernel_rfl) (by simp) ?_
   refine E8.cons (i:=5) rfl rfl (Et (i:=4) rfl rfl rfl rfl ZW rfl rfl rfl) (by rintro a w h;exact h.mem (is:=[0,0]) (js:=[]) rfl rfl) ?_ ?_
   ·refine BG (by kernel_rfl) ?_
    refine λa w h=>Bz rfl (is:=[2,2,2]) (js:=[]) rfl rfl ?_ h
    clear h
    exact⟨rfl,rfl,rfl⟩
   exact Ag
  exact Ag
 exact Ag
theorem idleS(p q r:Value)(w:World):CallsD Tryz.prog 206 #[p,q,r] .returning w λe u' w'=>e=.returned (.tuple #[])/\u'=.returning/\w'=w:=by
 have hn:∀w:World,(binOp BinOp.eql 20 .nilIface .nilIface).run Tryz.prog w=.ok (.bool true) w:=λ_=>by kernel_rfl
 refine callsD_of_wpS Tryz.func206 rfl λc₀ cs hu=>?_
 apply wpS_seq
 apply wpS_region
 simp[wpOpsS,go_sem,recoverD,hu,Tryz.ntmps206,Exit.thenS]
 apply wpS_seq
 apply wpS_seq
 apply wpS_region
 simp[wpOpsS,go_sem,Exit.thenS,hn]
 refine wpS_cond (t:=true) (by simp[Act.eval,Array.replicate]) ?_
 simp only[if_true]
 refine wpS_of_wp (wp_ret ?_)
 cases c₀
 simp_all [bodyPostS,results,Exit.thenS]
theorem dec2_ct(p e_:Nat)(A:Option Addr)(b:List UInt8)(cp:Nat)(hb:b.length<=cp)(Gl:cp<=9223372036854775807)(hb':b.length<=10000000000000):PK Tryz.prog 166 [.pointer (some ⟨p,0,none⟩)] (KP p e_ A b cp 0) [D7.row Kd.u8 A b]
    (λu G Q=>∃(e:I4) (t:Nat),Ih b 0=some (e,t)/\t<=b.length/\IU e/\SttR e u Q/\G=KP p e_ A b cp t) (λv=>Qy v/\Ih b 0=none):=by
 refine PK.intro Tryz.func166 rfl rfl rfl (λc hc=>?_)
 refine AX ?_;refine GL.step rfl (EH rfl I5) (Aa λGm=>?_);refine BL 1 ?_;refine Bc rfl Tryz.call167 rfl (is:=[1]) (js:=[0]) rfl rfl (by exact mstr_ct _ _ _ b _ 0 hb Gl hb' (by omega)) (λv a w he h=>Iu.panic he h) (GL.ret ?_)
 rintro _ _ _ ⟨g4,t4,hs4,ht4,hl4,⟨A4,cp4,B4,cq4,C4,cr4,j4,k4,l4,m4,n4,o4,rfl,rfl⟩,rfl⟩
 refine Ar 1 ?_;refine Ap ?_;refine GC.ret (DJ 2 61 1 7 [0] [0,1,2] ?_)
 exact⟨_,_,hs4,ht4,hl4,⟨_,_,_,_,_,_,j4,k4,l4,m4,n4,o4,rfl,rfl⟩,rfl⟩
abbrev DecT(b:List UInt8)(u:Value)(G:List Own)(Q:List D7):Prop:=∃(e:I4) (n:Nat) (k:Int) (A:Option Addr) (cp:Nat) (B:Option Addr) (cq:Nat) (C:Option Addr) (cr:Nat),((k=0->Ih b 0=some (e,n))/\(k≠0->Ih b 0=none))/\n<=b.length/\IU e/\e.pages.length<=cp/\cp<=9223372036854775807/\e.rows.length<=cq/\cq<=9223372036854775807/\e.grp.members.length<=cr/\cr<=9223372036854775807/\u=.tuple #[Nw e A cp B cq C cr,.int .i64 (n:Int),.int .i64 k]/\G=[]/\Q=NW e A B C
theorem readS_ct(A:Option Addr)(b:List UInt8)(cp:Nat)(hb:b.length<=cp)(Gl:cp<=9223372036854775807)(hb':b.length<=10000000000000):Ct Tryz.prog 165 [.slice A b.length cp,.func (.func 166) #[] #[]] [] [D7.row Kd.u8 A b] (DecT b):=by
 refine Ct.WA Tryz.func165 rfl rfl rfl (λc hc tK=>?_)
 refine AX ?_;refine GL.step rfl (EH rfl I5) (Aa λKZ=>?_);refine GL.step rfl (EH rfl Ja) (Aa λRD=>?_);refine GL.step rfl (EH rfl ji) (Aa λKr=>?_);refine Ap ?_
 refine AX ?_;refine AO rfl (J5 rfl rfl) ?_;refine GL.defer (f:=206) (us:=[_,_,_]) tK rfl ?_;refine BL 1 ?_;refine AO rfl (ED ze_250 of_250 rfl rfl) ?_;refine AO rfl (ED ze_252 of_252 rfl rfl) ?_
 refine GL.step rfl (Ee rfl rfl rfl) (Aa λXE=>?_);refine AL 1 ?_;refine AV 2 ?_;refine Dz rfl Tryz.call166 rfl rfl (is:=[0]) (js:=[0]) rfl rfl (by exact dec2_ct _ _ _ _ _ (by omega) (by omega) (by omega)) (λv a w he h=>by obtain⟨⟨ex,hex,rfl⟩,hno⟩:=he;exact Dj Tryz.call206 (recS_ct ex _ _ _) (isC:=[2,1,0]) (jsC:=[]) rfl rfl (λu G2 Q2 a w hR h=>by obtain⟨rfl,rfl,rfl⟩:=hR;exact Bf (rs:=[.cell 4 61,.cell 5 3,.cell 6 68]) (vs:=[_,_,_]) (is:=[]) (js:=[2,1,0]) rfl ⟨⟨0,_,_,_,_,rfl,rfl,.inr ⟨[_,_,_,_,_,_,_],rfl,UR,JH,⟨rfl,rfl,rfl,rfl,rfl,rfl,rfl,trivial⟩⟩⟩,⟨1,_,_,_,_,rfl,rfl,.inl ⟨Ei,rfl⟩⟩,⟨2,_,_,_,_,rfl,rfl,.inl ⟨JC,rfl⟩⟩,trivial⟩ rfl rfl (by exact⟨PI,0,ex,none,0,none,0,none,0,⟨λh=>absurd h hex,λ_=>hno⟩,by omega,U8,by simp[PI],by omega,by simp[PI],by omega,by simp[PI,Le],by omega,rfl,rfl,rfl⟩) (((h.know (q:=D7.row GR none []) (λ_ _ _=>.inl rfl)).know (q:=D7.row Jz none []) (λ_ _ _=>.inl rfl)).know (q:=D7.row kI none []) (λ_ _ _=>.inl rfl))) h) (GL.ret ?_)
 rintro _ _ _ ⟨g15,t15,Fj,au,hl15,⟨jT,cp15,B15,cq15,C15,cr15,j15,k15,l15,m15,n15,o15,rfl,rfl⟩,rfl⟩
 refine Ar 3 ?_;refine Ap ?_;refine AB ?_;refine BF (m:=9) (is:=[0]) (js:=[0,1,2,3]) Ef rfl rfl rfl ?_;refine AZ 1 [0] [0,1,2,3] ?_;refine AZ 2 [0] [0,1,2,3] ?_;refine AZ 3 [0] [0,1,2,3] ?_
 refine AZ 4 [0] [0,1,2,3] ?_;refine BA 5 rfl [0] [0,1,2,3] (i_mem (EF (i:=0) rfl rfl Ei rfl)) ?_;refine Aw [0] ?_
 refine E8.cons (i:=0) rfl rfl (Ed rfl (G7 (i:=3) rfl rfl UR (vs:=[_,_,_,_,_,_,_]) JH ⟨rfl,rfl,rfl,rfl,rfl,rfl,rfl,trivial⟩)) (by rintro a w h;exact h.me [0] [0,1,2,3]) ?_ Ag
 refine Aw [6] ?_
 refine E8.cons (i:=6) rfl rfl (EZ (i:=3) rfl rfl rfl JH rfl rfl rfl) (by rintro a w h;exact h.me [0] [0,1,2,3]) ?_ Ag
 refine Aw [7] ?_
 refine E8.cons (i:=7) rfl rfl (Et (i:=2) rfl rfl rfl rfl GV rfl rfl rfl) (by rintro a w h;exact h.me [0] [0,1,2,3]) ?_ Ag
 refine Aw [8] ?_
 refine E8.cons (i:=8) rfl rfl (Et (i:=1) rfl rfl rfl rfl ZW rfl rfl rfl) (by rintro a w h;exact h.me [0] [0,1,2,3]) ?_ Ag
 refine BG (by kernel_rfl) (?_:GC _ _ _ _)
 refine GC.ret ?_
 refine λa w h=>CZ Tryz.call206 (idleS _ _ _) (rs:=[.cell 4 61,.cell 5 3,.cell 6 68]) (vs:=[_,_,_]) (is:=[]) (js:=[0,1,2]) rfl ⟨⟨3,_,_,_,_,rfl,rfl,.inr ⟨[_,_,_,_,_,_,_],rfl,UR,JH,⟨rfl,rfl,rfl,rfl,rfl,rfl,rfl,trivial⟩⟩⟩,⟨2,_,_,_,_,rfl,rfl,.inl ⟨Ei,rfl⟩⟩,⟨1,_,_,_,_,rfl,rfl,.inl ⟨JC,rfl⟩⟩,trivial⟩ rfl rfl ?_ h
 clear h
 exact⟨_,_,0,_,_,_,_,_,_,⟨λ_=>Fj,λh=>absurd rfl h⟩,au,hl15,j15,k15,l15,m15,n15,o15,rfl,rfl,rfl⟩
theorem rO(A:Option Addr)(b:List UInt8)(cp:Nat)(hb:b.length<=cp)(Gl:cp<=9223372036854775807)(hb':b.length<=10000000000000):Ct Tryz.prog 112 [.slice A b.length cp] [] [D7.row Kd.u8 A b] (DecT b):=by
 refine Ct.intro Tryz.func112 rfl rfl rfl (λc hc=>?_)
 refine AX ?_;refine GL.step rfl (EH rfl I5) (Aa λGm=>?_);refine AL 2 ?_;refine AV 1 ?_;refine Ah Tryz.call165 [] [0] rfl rfl rfl (by exact readS_ct _ b _ hb Gl hb') ?_
 rintro _ _ _ ⟨g6,t6,f6,A6,cp6,B6,cq6,C6,cr6,hs6,ht6,hl6,j6,k6,l6,m6,n6,o6,rfl,rfl,rfl⟩
 refine AA 3 ?_;refine Ar 0 ?_;refine AL 2 ?_;refine GC.ret (Fin.c2 2 61 3 4 0 7 [] [0,1,2] ?_)
 exact⟨_,_,_,_,_,_,_,_,_,hs6,ht6,hl6,j6,k6,l6,m6,n6,o6,rfl,rfl,rfl⟩
abbrev wFt:Value:=.iface 128 (.agg #[])
theorem PO(p e_:Nat)(A:Option Addr)(b:List UInt8)(cp n:Nat)(e:Int)(hn:e=0->n<=b.length)(hcp:b.length<=cp)(Gl:cp<=9223372036854775807):PK Tryz.prog 78 [.pointer (some ⟨p,0,none⟩),.int .i64 (n:Int),.int .i64 e] (leftG p e_ A b cp) [D7.row Kd.u8 A b]
    (λu G Q=>e=0/\∃A' c',(b.drop n).length<=c'/\c'<=9223372036854775807/\u=.tuple #[]/\G=leftG p e_ A' (b.drop n) c'/\Q=[D7.row Kd.u8 A' (b.drop n)]) (λv=>e≠0/\v=wFt):=by
 refine PK.intro Tryz.func78 rfl rfl rfl (λc hc=>?_)
 refine AB ?_;refine AP 2 ?_;refine Af ?_ ?_
 ·intro h1;try simp only[D6] at h1
  refine GC.region ?_;refine AO rfl (ED dS of_128 rfl rfl) ?_;refine AO rfl (J_ Tryz.underlying128 (λm h=>by cases h) rfl) ?_;refine Cb rfl (λa w h=>?_)
  exact Iu.panic ⟨by assumption,rfl⟩ h
 intro h1;try simp only[D6] at h1
 refine GC.skip (?_:GC _ _ _ _)
 refine GC.region ?_
 have hn_:=hn (by omega)
 refine AA 4 ?_;refine Ad 0 ?_;refine AA 1 ?_;refine GL.step rfl (Jk (j:=0) rfl rfl rfl rfl Tryz.underlying47 Fa (by omega) (by omega) (by omega)) ?_
 rw[show((n:Int)).toNat=n from rfl,VP]
 refine AA 2 ?_;refine BI 0 ?_;refine Ac ?_
 refine λa w h=>DV rfl (is:=[0]) (js:=[0]) rfl rfl ?_ h
 clear h
 exact⟨by omega,_,_,by rw[List.length_drop];omega,by omega,rfl,rfl,rfl⟩
def Hl(n:Nat)(L:List UInt8):Option (Int×List UInt8):=if n<=L.length then some (((GH (seg L 0 n):Nat):Int),L.drop n) else none
theorem FY{n:Nat}{L:List UInt8}{v:Int}{M:List UInt8}(h:Hl n L=some (v,M)):0<=v/\v<(256 ^ n:Nat)/\M.length+n=L.length:=by
 unfold Hl at h
 split at h
 ·rename_i hq
  obtain⟨h1,h2⟩:=Prod.mk.inj (Option.some.inj h)
  have hv:GH (seg L 0 n)<256 ^ n:=Jg hq (by omega)
  subst h2
  rw[List.length_drop]
  omega
 ·cases h
theorem Iz(p e_:Nat)(A:Option Addr)(b:List UInt8)(cp n:Nat)(hn:1<=n)(hn':n<=8)(hcp:b.length<=cp)(Gl:cp<=9223372036854775807)(hb:b.length<=10000000000000):PK Tryz.prog 74 [.pointer (some ⟨p,0,none⟩),.int .i64 (n:Int)] (leftG p e_ A b cp) [D7.row Kd.u8 A b]
    (λu G Q=>∃v L' A' c',Hl n b=some (v,L')/\L'.length<=c'/\c'<=9223372036854775807/\u=.int .u64 v/\G=leftG p e_ A' L' c'/\Q=[D7.row Kd.u8 A' L']) (λv=>v=wFt/\Hl n b=none):=by
 refine PK.intro Tryz.func74 rfl rfl rfl (λc hc=>?_)
 refine AP 1 ?_;refine AV 3 ?_;refine Ad 0 ?_;refine AA 1 ?_;refine Ah Tryz.call72 [] [0] rfl rfl rfl (by exact m_ _ b _ 0 n hn hn' hcp (by omega) (by omega)) ?_
 rintro _ _ _ ⟨rfl,rfl,rfl⟩
 refine AL 7 ?_;refine AV 3 ?_;refine Bc rfl Tryz.call78 rfl (is:=[0]) (js:=[0]) rfl rfl (by exact PO _ _ _ b _ n _ (λh=>by have:=LH h;omega) hcp Gl) (λv a w he h=>by exact Iu.panic ⟨he.2,by rw[Hl,if_neg (λhq=>he.1 (if_pos (by omega)))]⟩ h) (GL.ret ?_)
 rintro _ _ _ ⟨he21,A21,c21,iG,k21,rfl,rfl,rfl⟩
 refine BL 2 ?_;refine Ap ?_;refine GC.ret (DW 4 [0] [0] ?_)
 have hq:=LH he21
 exact⟨_,_,_,_,by rw[Hl,if_pos (by omega)],iG,k21,by show Value.int _ ((JL b 0 n:Nat):Int)=_;rw[JL,if_pos hq,Nat.zero_add],rfl,rfl⟩
def Jf(L:List UInt8):Option (Int×List UInt8):=(Hl 8 L).bind λr=>if r.1<=4611686018427387904 then some r else none
theorem F8{L:List UInt8}{v:Int}{M:List UInt8}(h:Jf L=some (v,M)):0<=v/\v<=4611686018427387904/\M.length+8=L.length:=by
 unfold Jf at h
 cases hn:Hl 8 L with
 |none=>rw[hn] at h;cases h
 |some r =>
  rw[hn,Option.bind_some] at h
  split at h
  ·obtain rfl:=Option.some.inj h
   have:=FY hn
   omega
  ·cases h
theorem PS(p e_:Nat)(A:Option Addr)(b:List UInt8)(cp:Nat)(hcp:b.length<=cp)(Gl:cp<=9223372036854775807)(hb:b.length<=10000000000000):PK Tryz.prog 75 [.pointer (some ⟨p,0,none⟩)] (leftG p e_ A b cp) [D7.row Kd.u8 A b]
    (λu G Q=>∃v L' A' c',Jf b=some (v,L')/\L'.length<=c'/\c'<=9223372036854775807/\u=.int .i64 v/\G=leftG p e_ A' L' c'/\Q=[D7.row Kd.u8 A' L']) (λv=>v=wFt/\Jf b=none):=by
 refine PK.intro Tryz.func75 rfl rfl rfl (λc hc=>?_)
 refine AP 1 ?_;refine AV 1 ?_;refine Bc rfl Tryz.call74 rfl (is:=[0]) (js:=[0]) rfl rfl (by exact(Iz _ _ _ b _ 8 (by omega) (by omega) hcp Gl hb).mono (λ_ _ _ h=>h) (λ_ h=>⟨h.1,by rw[Jf,h.2];rfl⟩)) (λv a w he h=>Iu.panic he h) (GL.ret ?_)
 rintro _ _ _ ⟨v5,L5,A5,c5,hs5,l5,k5,rfl,rfl,rfl⟩
 obtain⟨hv5,hw5,hx5⟩:=FY hs5
 refine AL 1 ?_;refine AB ?_;refine AP 2 ?_;refine Af ?_ ?_
 ·intro h1;try simp only[D6] at h1
  refine GC.region ?_;refine AO rfl (ED dS of_128 rfl rfl) ?_;refine AO rfl (J_ Tryz.underlying128 (λm h=>by cases h) rfl) ?_;refine Cb rfl (λa w h=>?_)
  exact Iu.panic ⟨rfl,by rw[Jf,hs5,Option.bind_some];exact if_neg (by omega)⟩ h
 intro h1;try simp only[D6] at h1
 refine GC.skip (?_:GC _ _ _ _)
 refine AV 1 ?_;refine AO rfl (EO (t:=45) (r:=v5) (by rw[Tryz.underlying45];simp) Tryz.underlying3 rfl (W9 (by omega) (by omega))) ?_
 refine AL 1 ?_;refine GC.ret (DW 2 [0] [0] ?_)
 exact⟨_,_,_,_,by rw[Jf,hs5,Option.bind_some];exact if_pos (by omega),l5,k5,rfl,rfl,rfl⟩
def OH(L:List UInt8):Option (Ld×List UInt8) :=
 (Jf L).bind λe=>(Hl 1 e.2).bind λc=>(Fq (Hl 1) c.2 c.1.toNat).map λr=>(⟨e.1,r.1⟩,r.2)
theorem zq81_{X:Prop}(h:X:=by(exact λa w h=>⟨(k+1),(xs++[v21]),(_),(_),(_),(_),(by omega),⟨⟨by simp;omega,by omega,iG,k21⟩,by omega,J6 hk.2.2 Gx⟩,h.cut (is:=[1,1,1,1]) (js:=[0,2,3,4]) ⟨rfl,rfl,rfl,rfl,rfl,trivial⟩ rfl rfl⟩)):X:=h
theorem wgrp_ct(p e_:Nat)(A:Option Addr)(b:List UInt8)(cp:Nat)(hcp:b.length<=cp)(Gl:cp<=9223372036854775807)(hb:b.length<=10000000000000):PK Tryz.prog 111 [.pointer (some ⟨p,0,none⟩)] (leftG p e_ A b cp) [D7.row Kd.u8 A b]
    (λu G Q=>∃(g:Ld) (L':List UInt8) (A':Option Addr) (c':Nat) (B':Option Addr) (d':Nat),OH b=some (g,L')/\(L'.length<=b.length/\g.members.length<=255)/\L'.length<=c'/\c'<=9223372036854775807/\g.members.length<=d'/\d'<=9223372036854775807/\u=.agg #[.int .i64 g.epoch,.slice B' g.members.length d']/\G=leftG p e_ A' L' c'/\Q=[D7.row kI B' g.members,D7.row Kd.u8 A' L']) (λv=>v=wFt/\OH b=none):=by
 have hp1:(256:Nat) ^ 1=256:=Gp
 refine PK.intro Tryz.func111 rfl rfl rfl (λc hc=>?_)
 refine AX ?_;refine GL.step rfl (EH rfl OG) (Aa λGm=>?_);refine BL 3 ?_;refine Bc rfl Tryz.call75 rfl (is:=[1]) (js:=[0]) rfl rfl (by exact(PS _ _ _ b _ hcp Gl hb).mono (λ_ _ _ h=>h) (λ_ h=>⟨h.1,by rw[OH,h.2];rfl⟩)) (λv a w he h=>Iu.panic he h) (GL.ret ?_)
 rintro _ _ _ ⟨v7,L7,A7,c7,hs7,l7,k7,rfl,rfl,rfl⟩
 obtain⟨hv7,hw7,hx7⟩:=F8 hs7
 refine AO rfl (ED OG lN rfl rfl) ?_;refine GL.step rfl (EH rfl OG) (Aa λFQ=>?_);refine Ar 0 ?_;refine Ap ?_;refine AB ?_;refine AV 3 ?_;refine Bc rfl Tryz.call74 rfl (is:=[1]) (js:=[0]) rfl rfl (by exact(Iz _ _ _ L7 _ 1 (by omega) (by omega) l7 k7 (by omega)).mono (λ_ _ _ h=>h) (λ_ h=>⟨h.1,by simp only[OH,hs7,Option.bind_some,h.2,Option.bind_none]⟩)) (λv a w he h=>Iu.panic he h) (GL.ret ?_)
 rintro _ _ _ ⟨v12,L12,A12,c12,XU,l12,k12,rfl,rfl,rfl⟩
 obtain⟨hv12,hw12,hx12⟩:=FY XU
 refine GL.Hu 3 1 ?_;refine AO rfl (EO (t:=45) (r:=v12) (by rw[Tryz.underlying45];simp) Tryz.underlying3 rfl (W9 (by omega) (by omega))) ?_
 refine AL 1 ?_;refine GC.block ?_;refine Dc (ks:=[0,2,3,13]) (is:=[3]) (js:=[0,1,2]) (fun(k:Nat) (xs:List Int) (U:Value) (L:List UInt8) (Al:Option Addr) (cl:Nat)=>(xs.length=k/\L.length<=b.length/\L.length<=cl/\cl<=9223372036854775807)/\(k:Int)<=v12/\Fq (Hl 1) L12 k=some (xs,L)) (fun(k:Nat) (xs:List Int) (U:Value) (L:List UInt8) (Al:Option Addr) (cl:Nat)=>[(14,.int .i64 (k:Int))]) (fun(k:Nat) (xs:List Int) (U:Value) (L:List UInt8) (Al:Option Addr) (cl:Nat)=>[.cells p [.slice Al L.length cl] e_,.cells FQ [.int .i64 v7,U] 55,.row U 3 1 xs.length (xs.map (Value.int .i64))]) (fun(k:Nat) (xs:List Int) (U:Value) (L:List UInt8) (Al:Option Addr) (cl:Nat)=>[D7.row Kd.u8 Al L]) (fun(k:Nat) (xs:List Int) (U:Value) (L:List UInt8) (Al:Option Addr) (cl:Nat)=>v12.toNat - k) (0) ([]) (_) (L12) (_) (_) rfl rfl rfl (λa w h=>⟨⟨⟨rfl,by omega,l12,k12⟩,by omega,rfl⟩,h.Hf (is:=[1,1,0,0]) (js:=[0,0,1,2]) (ks:=[0,2,3,13]) ⟨rfl,trivial⟩ rfl rfl rfl⟩) ?_
 intro k xs U L Al cl hk
 try dsimp only[List.cons_append,List.nil_append] at hk ⊢
 refine AP 1 ?_;refine AB ?_;refine Af ?_ ?_
 ·intro h1;try simp only[D6] at h1
  refine GC.skip (?_:GC _ _ _ _)
  refine AB ?_;refine GC.block ?_;refine Df (m:=11) (is:=[3]) (js:=[0,1,2,3]) Ef rfl rfl rfl (λ_ _ _ hd hp hD=>⟨hd.trans hD,.inr hp⟩) ?_
  refine BK 0 [3] [0,1,2,3] ?_
  refine BK 2 [3] [0,1,2,3] ?_
  refine BK 3 [3] [0,1,2,3] ?_
  refine BK 4 [3] [0,1,2,3] ?_
  refine BH [1,5] ?_
  refine IZ.cons (i:=1) rfl rfl (Ed rfl (EF (i:=1) rfl rfl JZ rfl)) (by rintro a w h;exact h.me [3] [0,1,2,3]) ?_ ?_
  ·refine BH [5] ?_
   refine BD (i:=5) rfl rfl Tryz.call74 rfl (is:=[0]) (js:=[0]) rfl rfl (by exact(Iz _ _ _ L _ 1 (by omega) (by omega) hk.1.2.2.1 hk.1.2.2.2 (by omega)).mono (λ_ _ _ h=>h) (λ_ h=>⟨h.1,by simp only[OH,hs7,XU,Option.bind_some];rw[FV hk.2.2 h.2 (by omega)];rfl⟩)) (by rintro a w ⟨_,_,_,⟨v21,L21,A21,c21,Gx,iG,k21,rfl,rfl,rfl⟩,h⟩;exact h.me [3] [1,2,3,4]) (GX.ret ?_) Aq
   rintro _ _ _ ⟨v21,L21,A21,c21,Gx,iG,k21,rfl,rfl,rfl⟩
   obtain⟨WB,aZ,Yu⟩:=FY Gx
   refine Bq 6 rfl [3] [1,2,3,4] (EK (EO (t:=45) (r:=v21) (by rw[Tryz.underlying45];simp) Tryz.underlying3 rfl (W9 (by omega) (by omega)))) ?_
   refine BH [7] ?_
   refine IZ.cons (i:=7) rfl rfl (EC rfl Tryz.underlying53 GV Ja rfl rfl rfl rfl rfl rfl) (by rintro a w ⟨_,h⟩;exact h.me [4] [1,2,3,4]) (Bj λb_t23=>?_) Aq
   refine BH [8] ?_
   refine IZ.cons (i:=8) rfl rfl (Eh (i:=3) (k:=0) rfl NS rfl rfl rfl rfl rfl (EX rfl) (by have:=hk.1.1;omega) (λ_=>rfl)) (by rintro a w ⟨_,h⟩;exact h.me [4] [1,2,3,4]) (Bj λv24=>?_) Aq
   refine GX.shape (i:=3) rfl (λA_v24 c_v24 Wu l_v24 k_v24=>?_)
   subst Wu
   refine BK 9 [4] [1,2,3,4] ?_
   refine BH [10] ?_
   refine IZ.cons (i:=10) rfl rfl (Et (i:=2) rfl rfl rfl rfl O7 rfl rfl rfl) (by rintro a w h;exact h.me [4] [1,2,3,4]) ?_ Aq
   refine B_ (by kernel_rfl) (?_:GC _ _ _ _)
   refine GC.region ?_;refine GL.rowIs (i:=3) (m':=((xs++[v21])).length) (cs':=((xs++[v21])).map (Value.int .i64)) rfl (by first|rfl|(simp;done)|(simp;omega)) (by first|rfl|(simp;done)) rfl ?_
   refine AO rfl (EU rfl rfl (Fh (by omega) (by omega))) ?_;refine AA 1 ?_;refine Ac ?_
   exact zq81_
  refine BD (i:=5) rfl rfl Tryz.call74 rfl (is:=[0]) (js:=[0]) rfl rfl (by exact(Iz _ _ _ L _ 1 (by omega) (by omega) hk.1.2.2.1 hk.1.2.2.2 (by omega)).mono (λ_ _ _ h=>h) (λ_ h=>⟨h.1,by simp only[OH,hs7,XU,Option.bind_some];rw[FV hk.2.2 h.2 (by omega)];rfl⟩)) (by rintro a w ⟨_,_,_,⟨v21,L21,A21,c21,Gx,iG,k21,rfl,rfl,rfl⟩,h⟩;exact h.me [3] [1,2,3,4]) (GX.ret ?_) Aq
  rintro _ _ _ ⟨v21,L21,A21,c21,Gx,iG,k21,rfl,rfl,rfl⟩
  obtain⟨WB,aZ,Yu⟩:=FY Gx
  refine Bq 6 rfl [3] [1,2,3,4] (EK (EO (t:=45) (r:=v21) (by rw[Tryz.underlying45];simp) Tryz.underlying3 rfl (W9 (by omega) (by omega)))) ?_
  refine BH [1,7] ?_
  refine IZ.cons (i:=1) rfl rfl (Ed rfl (EF (i:=1) rfl rfl JZ rfl)) (by rintro a w h;exact h.me [3] [1,2,3,4]) ?_ ?_
  ·refine BH [7] ?_
   refine IZ.cons (i:=7) rfl rfl (EC rfl Tryz.underlying53 GV Ja rfl rfl rfl rfl rfl rfl) (by rintro a w ⟨_,h⟩;exact h.me [4] [1,2,3,4]) (Bj λb_t23=>?_) Aq
   refine BH [8] ?_
   refine IZ.cons (i:=8) rfl rfl (Eh (i:=3) (k:=0) rfl NS rfl rfl rfl rfl rfl (EX rfl) (by have:=hk.1.1;omega) (λ_=>rfl)) (by rintro a w ⟨_,h⟩;exact h.me [4] [1,2,3,4]) (Bj λv24=>?_) Aq
   refine GX.shape (i:=3) rfl (λA_v24 c_v24 Wu l_v24 k_v24=>?_)
   subst Wu
   refine BK 9 [4] [1,2,3,4] ?_
   refine BH [10] ?_
   refine IZ.cons (i:=10) rfl rfl (Et (i:=2) rfl rfl rfl rfl O7 rfl rfl rfl) (by rintro a w h;exact h.me [4] [1,2,3,4]) ?_ Aq
   refine B_ (by kernel_rfl) (?_:GC _ _ _ _)
   refine GC.region ?_;refine GL.rowIs (i:=3) (m':=((xs++[v21])).length) (cs':=((xs++[v21])).map (Value.int .i64)) rfl (by first|rfl|(simp;done)|(simp;omega)) (by first|rfl|(simp;done)) rfl ?_
   refine AO rfl (EU rfl rfl (Fh (by omega) (by omega))) ?_;refine AA 1 ?_;refine Ac ?_
   exact zq81_
  refine IZ.cons (i:=7) rfl rfl (EC rfl Tryz.underlying53 GV Ja rfl rfl rfl rfl rfl rfl) (by rintro a w ⟨_,h⟩;exact h.me [4] [1,2,3,4]) (Bj λb_t23=>?_) Aq
  refine BH [1] ?_
  refine IZ.cons (i:=1) rfl rfl (Ed rfl (EF (i:=2) rfl rfl JZ rfl)) (by rintro a w h;exact h.me [4] [1,2,3,4]) ?_ Aq
  refine BH [8] ?_
  refine IZ.cons (i:=8) rfl rfl (Eh (i:=3) (k:=0) rfl NS rfl rfl rfl rfl rfl (EX rfl) (by have:=hk.1.1;omega) (λ_=>rfl)) (by rintro a w ⟨_,h⟩;exact h.me [4] [1,2,3,4]) (Bj λv24=>?_) Aq
  refine GX.shape (i:=3) rfl (λA_v24 c_v24 Wu l_v24 k_v24=>?_)
  subst Wu
  refine BK 9 [4] [1,2,3,4] ?_
  refine BH [10] ?_
  refine IZ.cons (i:=10) rfl rfl (Et (i:=2) rfl rfl rfl rfl O7 rfl rfl rfl) (by rintro a w h;exact h.me [4] [1,2,3,4]) ?_ Aq
  refine B_ (by kernel_rfl) (?_:GC _ _ _ _)
  refine GC.region ?_;refine GL.rowIs (i:=3) (m':=((xs++[v21])).length) (cs':=((xs++[v21])).map (Value.int .i64)) rfl (by first|rfl|(simp;done)|(simp;omega)) (by first|rfl|(simp;done)) rfl ?_
  refine AO rfl (EU rfl rfl (Fh (by omega) (by omega))) ?_;refine AA 1 ?_;refine Ac ?_
  exact zq81_
 intro h1;try simp only[D6] at h1
 refine GC.exit (?_:GC _ _ _ _)
 refine AX ?_;refine GL.shape (i:=2) rfl (λA_M c_M e_M l_M k_M=>?_)
 subst e_M
 refine GL.LQ (i:=2) rfl ?_;refine Az 1 2 ?_;refine Ar 2 ?_;refine Ap ?_;refine GC.ret (DJ 2 55 2 2 [0] [0,1] ?_)
 exact⟨⟨v7,xs⟩,_,_,_,_,_,by simp only[OH,hs7,XU,Option.bind_some];rw[show v12.toNat=k by omega,hk.2.2];rfl,⟨hk.1.2.1,by have:=hk.1.1;show xs.length<=255;omega⟩,hk.1.2.2.1,hk.1.2.2.2,l_M,k_M,rfl,rfl,rfl⟩
def MF(n k:Int):Int:=IntKind.u8.wrap ((BitVec.ofInt IntKind.u8.bits n &&& BitVec.ofInt IntKind.u8.bits k).toNat:Int)
def sU(n:Int)(L:List UInt8):Option (LM×List UInt8):=if MF n 1=0 then some (Iw,L) else (JM L).map λo=>(o.1,L.drop o.2)
def sS(n:Int)(L:List UInt8):Option (J4×List UInt8):=if MF n 2=0 then some (rz,L) else (Hw L).map λo=>(o.1,L.drop o.2)
def sV(n:Int)(L:List UInt8):Option (Ld×List UInt8):=if MF n 4=0 then some (Le,L) else OH L
def wpS(n:Int)(L:List UInt8):Option (I4×List UInt8):=if MF n 8=0 then some (PI,L) else (Ih L 0).map λo=>(o.1,L.drop o.2)
def Kt(L:List UInt8):Option ((LM×J4×Ld×I4)×List UInt8) :=
 (Hl 1 L).bind λn=>(sU n.1 n.2).bind λo=>(sS n.1 o.2).bind λr=>(sV n.1 r.2).bind λg=>(wpS n.1 g.2).map λs=>((o.1,r.1,g.1,s.1),s.2)
theorem La{L:List UInt8}{n:Nat}:(L.drop n).length<=L.length:=by rw[List.length_drop];omega
abbrev msgT(o:LM)(r:J4)(g:Ld)(s:I4)(x:Lie):List Value:=[.int .u8 o.kind,.int .i64 o.at_,.int .i64 o.n,.slice x.a1 o.data.length x.c1,.slice x.a2 o.old.length x.c2,.int .u8 r.code,.slice x.a3 r.data.length x.c3,.int .i64 g.epoch,.slice x.a4 g.members.length x.c4,
 .int .i64 s.num,.int .i64 s.Jo.bl,.int .i64 s.Jo.sz,.slice x.a5 s.pages.length x.c5,.slice x.a6 s.rows.length x.c6,.int .i64 s.grp.epoch,.slice x.a7 s.grp.members.length x.c7,.slice none 0 0]
abbrev msgU(o:LM)(r:J4)(g:Ld)(s:I4)(x:Lie):List D7:=[D7.row Kd.u8 x.a1 o.data,D7.row Kd.u8 x.a2 o.old,D7.row Kd.u8 x.a3 r.data,D7.row kI x.a4 g.members,D7.row GR x.a5 s.pages,D7.row Jz x.a6 s.rows,D7.row kI x.a7 s.grp.members]
theorem wprt_ct(p e_ q_ f_:Nat)(y0 y1 y2 y3 y4 y5 y6 y7 y8 y9 oL:Value)(A:Option Addr)(b:List UInt8)(cp:Nat)(hcp:b.length<=cp)(Gl:cp<=9223372036854775807)(hb:b.length<=10000000000000):PK Tryz.prog 76 [.pointer (some ⟨p,0,none⟩),.pointer (some ⟨q_,0,none⟩)] (leftG p e_ A b cp++[.cells q_ [y0,y1,y2,y3,y4,y5,y6,y7,y8,y9,oL,.int .u8 0,.int .i64 0,.int .i64 0,.slice none 0 0,.slice none 0 0,.int .u8 0,.slice none 0 0,.int .i64 0,.slice none 0 0,.int .i64 0,.int .i64 0,.int .i64 0,.slice none 0 0,.slice none 0 0,.int .i64 0,.slice none 0 0,.slice none 0 0] f_]) [D7.row Kd.u8 A b]
    (λu G Q=>∃(o:LM) (r:J4) (g:Ld) (s:I4) (L':List UInt8) (x:Lie),Kt b=some ((o,r,g,s),L')/\L'.length<=b.length/\L'.length<=x.c8/\x.c8<=9223372036854775807/\u=.tuple #[]/\G=leftG p e_ x.a8 L' x.c8++[.cells q_ ([y0,y1,y2,y3,y4,y5,y6,y7,y8,y9,oL]++msgT o r g s x) f_]/\Q=msgU o r g s x++[D7.row Kd.u8 x.a8 L']) (λv=>v=wFt/\Kt b=none):=by
 have hp1:(256:Nat) ^ 1=256:=Gp
 refine PK.intro Tryz.func76 rfl rfl rfl (λc hc=>?_)
 refine AV 3 ?_;refine Bc rfl Tryz.call74 rfl (is:=[0]) (js:=[0]) rfl rfl (by exact(Iz _ _ _ b _ 1 (by omega) (by omega) hcp Gl hb).mono (λ_ _ _ h=>h) (λ_ h=>⟨h.1,by rw[Kt,h.2];rfl⟩)) (λv a w he h=>Iu.panic he h) (GL.ret ?_)
 rintro _ _ _ ⟨v17,L17,A17,c17,Ir,l17,k17,rfl,rfl,rfl⟩
 obtain⟨hv17,hw17,hx17⟩:=FY Ir
 refine AO rfl (EO (t:=45) (r:=v17) (by rw[Tryz.underlying45];simp) Tryz.underlying5 rfl (by simp[IntKind.wrap,IntKind.bits,IntKind.signed];omega)) ?_;refine GL.know (q:=D7.row Kd.u8 none []) (λ_ _ _=>.inl rfl) ?_
 refine GL.know (q:=D7.row kI none []) (λ_ _ _=>.inl rfl) ?_;refine GL.know (q:=D7.row GR none []) (λ_ _ _=>.inl rfl) ?_;refine GL.know (q:=D7.row Jz none []) (λ_ _ _=>.inl rfl) ?_;refine AL 1 ?_
 refine Dq (ks:=[0,1,4]) (is:=[]) (js:=[0,1,2,3,5]) (fun(o:LM) (L1:List UInt8) (x:Lie)=>sU v17 L17=some (o,L1)/\L1.length<=b.length/\L1.length<=x.c8/\x.c8<=9223372036854775807) (fun(o:LM) (L1:List UInt8) (x:Lie)=>[]) (fun(o:LM) (L1:List UInt8) (x:Lie)=>[.cells p [.slice x.a8 L1.length x.c8] e_,.cells q_ [y0,y1,y2,y3,y4,y5,y6,y7,y8,y9,oL,.int .u8 o.kind,.int .i64 o.at_,.int .i64 o.n,.slice x.a1 o.data.length x.c1,.slice x.a2 o.old.length x.c2,.int .u8 0,.slice none 0 0,.int .i64 0,.slice none 0 0,.int .i64 0,.int .i64 0,.int .i64 0,.slice none 0 0,.slice none 0 0,.int .i64 0,.slice none 0 0,.slice none 0 0] f_]) (fun(o:LM) (L1:List UInt8) (x:Lie)=>[D7.row Kd.u8 x.a1 o.data,D7.row Kd.u8 x.a2 o.old,D7.row Kd.u8 x.a8 L1]) rfl rfl rfl ?_ ?_
 ·refine AV 1 ?_;refine AO rfl (Js (r:=MF v17 1) rfl rfl rfl) ?_;refine AL 1 ?_;refine Af ?_ ?_
  ·intro h1;try simp only[D6] at h1
   refine AV 4 ?_;refine Ad 0 ?_;refine Ah Tryz.call109 [] [4] rfl rfl rfl (by exact SN _ L17 _ l17 k17 (by omega)) ?_
   rintro _ _ _ ⟨o28,n28,e28,A28,c28,B28,d28,hs28,iP,l28,k28,m28,p28,rfl,rfl,rfl⟩
   refine AA 4 ?_;refine GL.step rfl (EH rfl Hy) (Aa λRD=>?_);refine Ar 0 ?_;refine AL 2 ?_;refine AV 5 ?_;refine Bc rfl Tryz.call78 rfl (is:=[1]) (js:=[6]) rfl rfl (by exact(PO _ _ _ L17 _ n28 e28 (λ_=>iP.1) l17 k17).mono (λ_ _ _ h=>h) (λ_ h=>⟨h.2,by simp only[Kt,Ir,Option.bind_some];rw[sU,if_neg (by assumption),iP.2 h.1];rfl⟩)) (λv a w he h=>Iu.panic he h) (GL.ret ?_)
   rintro _ _ _ ⟨he37,A37,c37,l37,k37,rfl,rfl,rfl⟩
   refine Ap ?_;refine GC.region ?_;refine AA 1 ?_;refine Az 1 5 ?_;refine AA 2 ?_;refine Ar 2 ?_;refine Ac ?_
   exact λa w h=>⟨(o28),(L17.drop n28),(⟨A28,c28,B28,d28,none,0,none,0,none,0,none,0,none,0,A37,c37⟩),⟨by rw[sU,if_neg (by assumption),hs28 he37];rfl,by have:=@La L17 n28;omega,l37,k37⟩,h.ct [0,1] [1,2,0,3,4,5,6,8]⟩
  intro h1;try simp only[D6] at h1
  refine GC.skip ?_
  exact λa w h=>⟨(Iw),(L17),(⟨none,0,none,0,none,0,none,0,none,0,none,0,none,0,A17,c17⟩),⟨by rw[sU,if_pos (by assumption)],by omega,l17,k17⟩,h.ct [0,0] [3,3,4,0,1,2,3,5]⟩
 intro o L1 x hO
 try dsimp only[List.cons_append,List.nil_append] at hO ⊢
 obtain⟨hO,hO1,hO2,hO3⟩:=hO
 refine Dq (ks:=[0,1,4]) (is:=[]) (js:=[0,1,3,4,5,6,7]) (fun(r:J4) (L2:List UInt8) (y:Lie)=>sS v17 L1=some (r,L2)/\L2.length<=b.length/\L2.length<=y.c8/\y.c8<=9223372036854775807) (fun(r:J4) (L2:List UInt8) (y:Lie)=>[]) (fun(r:J4) (L2:List UInt8) (y:Lie)=>[.cells p [.slice y.a8 L2.length y.c8] e_,.cells q_ [y0,y1,y2,y3,y4,y5,y6,y7,y8,y9,oL,.int .u8 o.kind,.int .i64 o.at_,.int .i64 o.n,.slice x.a1 o.data.length x.c1,.slice x.a2 o.old.length x.c2,.int .u8 r.code,.slice y.a3 r.data.length y.c3,.int .i64 0,.slice none 0 0,.int .i64 0,.int .i64 0,.int .i64 0,.slice none 0 0,.slice none 0 0,.int .i64 0,.slice none 0 0,.slice none 0 0] f_]) (fun(r:J4) (L2:List UInt8) (y:Lie)=>[D7.row Kd.u8 y.a3 r.data,D7.row Kd.u8 y.a8 L2]) rfl rfl rfl ?_ ?_
 ·refine AV 1 ?_;refine AO rfl (Js (r:=MF v17 2) rfl rfl rfl) ?_;refine AL 1 ?_;refine Af ?_ ?_
  ·intro h2;try simp only[D6] at h2
   refine AV 4 ?_;refine Ad 0 ?_;refine Ah Tryz.call110 [] [2] rfl rfl rfl (by exact Qc _ L1 _ hO2 hO3 (by omega)) ?_
   rintro _ _ _ ⟨o51,n51,e51,A51,c51,WH,hn51,l51,k51,rfl,rfl,rfl⟩
   refine AA 4 ?_;refine GL.step rfl (EH rfl Ig) (Aa λZA=>?_);refine Ar 0 ?_;refine AL 2 ?_;refine AV 5 ?_;refine Bc rfl Tryz.call78 rfl (is:=[1]) (js:=[3]) rfl rfl (by exact(PO _ _ _ L1 _ n51 e51 (λ_=>hn51.1) hO2 hO3).mono (λ_ _ _ h=>h) (λ_ h=>⟨h.2,by simp only[Kt,Ir,hO,Option.bind_some];rw[sS,if_neg (by assumption),hn51.2 h.1];rfl⟩)) (λv a w he h=>Iu.panic he h) (GL.ret ?_)
   rintro _ _ _ ⟨he60,A60,c60,l60,k60,rfl,rfl,rfl⟩
   refine Ap ?_;refine GC.region ?_;refine AA 1 ?_;refine Az 1 2 ?_;refine AA 2 ?_;refine Ar 2 ?_;refine Ac ?_
   exact λa w h=>⟨(o51),(L1.drop n51),(⟨none,0,none,0,A51,c51,none,0,none,0,none,0,none,0,A60,c60⟩),⟨by rw[sS,if_neg (by assumption),WH he60];rfl,by have:=@La L1 n51;omega,l60,k60⟩,h.ct [0,1] [1,0,2,3,5,6,7,8,9]⟩
  intro h2;try simp only[D6] at h2
  refine GC.skip ?_
  exact λa w h=>⟨(rz),(L1),(⟨none,0,none,0,none,0,none,0,none,0,none,0,none,0,x.a8,x.c8⟩),⟨by rw[sS,if_pos (by assumption)],by omega,hO2,hO3⟩,h.ct [0,0] [6,2,0,1,3,4,5,6,7]⟩
 intro r L2 y hR
 try dsimp only[List.cons_append,List.nil_append] at hR ⊢
 obtain⟨hR,hR1,hR2,hR3⟩:=hR
 refine Dq (ks:=[0,1,4]) (is:=[]) (js:=[0,2,3,4,5,6,7,8]) (fun(g:Ld) (L3:List UInt8) (z:Lie)=>sV v17 L2=some (g,L3)/\L3.length<=b.length/\L3.length<=z.c8/\z.c8<=9223372036854775807) (fun(g:Ld) (L3:List UInt8) (z:Lie)=>[]) (fun(g:Ld) (L3:List UInt8) (z:Lie)=>[.cells p [.slice z.a8 L3.length z.c8] e_,.cells q_ [y0,y1,y2,y3,y4,y5,y6,y7,y8,y9,oL,.int .u8 o.kind,.int .i64 o.at_,.int .i64 o.n,.slice x.a1 o.data.length x.c1,.slice x.a2 o.old.length x.c2,.int .u8 r.code,.slice y.a3 r.data.length y.c3,.int .i64 g.epoch,.slice z.a4 g.members.length z.c4,.int .i64 0,.int .i64 0,.int .i64 0,.slice none 0 0,.slice none 0 0,.int .i64 0,.slice none 0 0,.slice none 0 0] f_]) (fun(g:Ld) (L3:List UInt8) (z:Lie)=>[D7.row kI z.a4 g.members,D7.row Kd.u8 z.a8 L3]) rfl rfl rfl ?_ ?_
 ·refine AV 1 ?_;refine AO rfl (Js (r:=MF v17 4) rfl rfl rfl) ?_;refine AL 1 ?_;refine Af ?_ ?_
  ·intro h3;try simp only[D6] at h3
   refine GC.region ?_;refine AA 2 ?_;refine Bc rfl Tryz.call111 rfl (is:=[0]) (js:=[1]) rfl rfl (by exact(wgrp_ct _ _ _ L2 _ hR2 hR3 (by omega)).mono (λ_ _ _ h=>h) (λ_ h=>⟨h.1,by simp only[Kt,Ir,hO,hR,Option.bind_some];rw[sV,if_neg (by assumption),h.2];rfl⟩)) (λv a w he h=>Iu.panic he h) (GL.ret ?_)
   rintro _ _ _ ⟨g70,L70,A70,c70,B70,d70,hs70,ht70,l70,k70,m70,n70,rfl,rfl,rfl⟩
   refine AA 2 ?_;refine Ar 1 ?_;refine Ac ?_
   exact λa w h=>⟨(g70),(L70),(⟨none,0,none,0,none,0,B70,d70,none,0,none,0,none,0,A70,c70⟩),⟨by rw[sV,if_neg (by assumption),hs70],by omega,l70,k70⟩,h.ct [0,0] [0,1,2,4,5,6,7,8,9,10]⟩
  intro h3;try simp only[D6] at h3
  refine GC.skip ?_
  exact λa w h=>⟨(Le),(L2),(⟨none,0,none,0,none,0,none,0,none,0,none,0,none,0,y.a8,y.c8⟩),⟨by rw[sV,if_pos (by assumption)],by omega,hR2,hR3⟩,h.ct [0,0] [6,1,0,2,3,4,5,6,7,8]⟩
 intro g L3 z hG
 try dsimp only[List.cons_append,List.nil_append] at hG ⊢
 obtain⟨hG,hG1,hG2,hG3⟩:=hG
 refine AV 1 ?_;refine AO rfl (Js (r:=MF v17 8) rfl rfl rfl) ?_;refine AL 1 ?_;refine Af ?_ ?_
 ·intro h4;try simp only[D6] at h4
  refine AV 4 ?_;refine Ad 0 ?_;refine Ah Tryz.call112 [] [1] rfl rfl rfl (by exact rO _ L3 _ hG2 hG3 (by omega)) ?_
  rintro _ _ _ ⟨g82,t82,f82,A82,cp82,B82,cq82,C82,cr82,hs82,ht82,hl82,j82,k82,l82,m82,n82,o82,rfl,rfl,rfl⟩
  refine AA 4 ?_;refine GL.step rfl (EH rfl I5) (Aa λn_=>?_);refine Ar 0 ?_;refine AL 2 ?_;refine AV 5 ?_;refine Bc rfl Tryz.call78 rfl (is:=[1]) (js:=[4]) rfl rfl (by exact(PO _ _ _ L3 _ t82 f82 (λ_=>ht82) hG2 hG3).mono (λ_ _ _ h=>h) (λ_ h=>⟨h.2,by simp only[Kt,Ir,hO,hR,hG,Option.bind_some];rw[wpS,if_neg (by assumption),hs82.2 h.1];rfl⟩)) (λv a w he h=>Iu.panic he h) (GL.ret ?_)
  rintro _ _ _ ⟨he91,A91,c91,l91,k91,rfl,rfl,rfl⟩
  refine Ap ?_;refine GC.region ?_;refine AA 1 ?_;refine Az 1 7 ?_;refine AA 2 ?_;refine Ar 2 ?_;refine Ac ?_
  refine λa w h=>DV rfl (is:=[0,1]) (js:=[7,8,6,4,1,2,3,0]) rfl rfl ?_ h
  clear h
  exact⟨o,r,g,g82,_,⟨x.a1,x.c1,x.a2,x.c2,y.a3,y.c3,z.a4,z.c4,A82,cp82,B82,cq82,C82,cr82,A91,c91⟩,by simp only[Kt,Ir,hO,hR,hG,Option.bind_some];rw[wpS,if_neg (by assumption),hs82.1 he91];rfl,by have:=@La L3 t82;omega,l91,k91,rfl,rfl,rfl⟩
 intro h4;try simp only[D6] at h4
 refine GC.skip ?_
 refine λa w h=>DV rfl (is:=[0,0]) (js:=[3,4,2,0,6,5,7,1]) rfl rfl ?_ h
 clear h
 exact⟨o,r,g,PI,L3,⟨x.a1,x.c1,x.a2,x.c2,y.a3,y.c3,z.a4,z.c4,none,0,none,0,none,0,z.a8,z.c8⟩,by simp only[Kt,Ir,hO,hR,hG,Option.bind_some];rw[wpS,if_pos (by assumption)];rfl,by omega,hG2,hG3,rfl,rfl,rfl⟩
def went(L:List UInt8):Option (Entry×List UInt8):=(Gf L 0).map λe=>(e.1,L.drop e.2)
def Hz(b:List UInt8):Option (GZ×List UInt8) :=
 (Hl 1 b).bind λk=>(Hl 8 k.2).bind λs=>(Hl 8 s.2).bind λd=>(Jf d.2).bind λa1=>(Jf a1.2).bind λa2=>(Jf a2.2).bind λa3=>(Jf a3.2).bind λa4=>(Jf a4.2).bind λa5=>(Hl 8 a5.2).bind λnn=>(Jf nn.2).bind λcl=>(Jf cl.2).bind λsr=>(Kt sr.2).bind λx=>(Hl 4 x.2).bind λn=>(Fq went n.2 n.1.toNat).map λr =>
  (⟨k.1,IntKind.i64.wrap s.1,IntKind.i64.wrap d.1,a1.1,a2.1,a3.1,a4.1,a5.1,nn.1,cl.1,sr.1,x.1.1,x.1.2.1,x.1.2.2.1,x.1.2.2.2,r.1⟩,r.2)
theorem zq82_{X:Prop}(h:X:=by(exact B_ (by kernel_rfl) (λa w h=>⟨_,_,_,_,_,_,_,_,_,⟨hs10,Fj,Iq,V9,k20⟩,h.cut (is:=[0,0,0]) (js:=[0]) ⟨rfl,rfl,rfl,trivial⟩ rfl rfl⟩))):X:=h
theorem wmsg_ct(p e_:Nat)(A:Option Addr)(b:List UInt8)(cp:Nat)(hcp:b.length<=cp)(Gl:cp<=9223372036854775807)(hb:b.length<=10000000000000):PK Tryz.prog 49 [.pointer (some ⟨p,0,none⟩)] (leftG p e_ A b cp) [D7.row Kd.u8 A b]
    (λu G Q=>∃(m:GZ) (s:Lie) (L':List UInt8) (A':Option Addr) (c':Nat),Hz b=some (m,L')/\L'.length<=c'/\c'<=9223372036854775807/\u=Ip m s/\G=leftG p e_ A' L' c'/\Q=H9 m s++[D7.row Kd.u8 A' L']) (λv=>v=wFt/\Hz b=none):=by
 have hp1:(256:Nat) ^ 1=256:=Gp
 have hp4:(256:Nat) ^ 4=4294967296:=Gn
 refine PK.intro Tryz.func49 rfl rfl rfl (λc hc=>?_)
 refine AX ?_;refine GL.step rfl (EH rfl F6) (Aa λGm=>?_);refine Ap ?_;refine AB ?_;refine Cc (m:=18) (M:=λa w=>∃v10:Int,∃dO:List UInt8,∃v15:Int,∃sO:List UInt8,∃v20:Int,∃jO:List UInt8,∃YA:Option Addr,∃c20:Nat,∃FQ:Nat,(Hl 1 b=some (v10,dO)/\Hl 8 dO=some (v15,sO)/\Hl 8 sO=some (v20,jO)/\jO.length<=c20/\c20<=9223372036854775807)/\St c 95 [(0,.pointer (some ⟨p,0,none⟩)),(2,.pointer (some ⟨Gm,0,none⟩)),(3,.pointer (some ⟨FQ,0,none⟩))] [.cells p [.slice YA jO.length c20] e_,.cells FQ [.int .u8 v10,.int .i64 (IntKind.i64.wrap v15),.int .i64 (IntKind.i64.wrap v20),.int .i64 0,.int .i64 0,.int .i64 0,.int .i64 0,.int .i64 0,.int .u64 0,.int .i64 0,.int .i64 0,.int .u8 0,.int .i64 0,.int .i64 0,.slice none 0 0,.slice none 0 0,.int .u8 0,.slice none 0 0,.int .i64 0,.slice none 0 0,.int .i64 0,.int .i64 0,.int .i64 0,.slice none 0 0,.slice none 0 0,.int .i64 0,.slice none 0 0,.slice none 0 0] 64,.cells Gm [.int .u8 0,.int .i64 0,.int .i64 0,.int .i64 0,.int .i64 0,.int .i64 0,.int .i64 0,.int .i64 0,.int .u64 0,.int .i64 0,.int .i64 0,.int .u8 0,.int .i64 0,.int .i64 0,.slice none 0 0,.slice none 0 0,.int .u8 0,.slice none 0 0,.int .i64 0,.slice none 0 0,.int .i64 0,.int .i64 0,.int .i64 0,.slice none 0 0,.slice none 0 0,.int .i64 0,.slice none 0 0,.slice none 0 0] 64] [D7.row Kd.u8 YA jO] a w) (is:=[0]) (js:=[0]) Ef rfl rfl rfl (λ_ _ _ hd hp hD=>⟨hd.trans hD,.inr hp⟩) ?_ ?_
 ·refine BK 0 [0] [0] ?_
  refine BK 1 [0] [0] ?_
  refine BK 2 [0] [0] ?_
  refine BK 5 [0] [0] ?_
  refine BK 6 [0] [0] ?_
  refine BK 7 [0] [0] ?_
  refine BK 10 [0] [0] ?_
  refine BK 11 [0] [0] ?_
  refine BK 12 [0] [0] ?_
  refine BH [3,16] ?_
  refine BD (i:=3) rfl rfl Tryz.call74 rfl (is:=[1]) (js:=[0]) rfl rfl (by exact(Iz _ _ _ b _ 1 (by omega) (by omega) hcp Gl (by omega)).mono (λ_ _ _ h=>h) (λ_ h=>⟨h.1,by simp only[Hz,h.2,Option.bind_none]⟩)) (by rintro a w ⟨_,_,_,⟨v10,dO,A10,c10,hs10,l10,k10,rfl,rfl,rfl⟩,h⟩;exact h.me [1] [1]) (GX.ret ?_) ?_
  ·rintro _ _ _ ⟨v10,dO,A10,c10,hs10,l10,k10,rfl,rfl,rfl⟩
   obtain⟨iL,iK,qh⟩:=FY hs10
   refine Bq 4 rfl [1] [1] (EK (EO (t:=45) (r:=v10) (by rw[Tryz.underlying45];simp) Tryz.underlying44 rfl (by simp[IntKind.wrap,IntKind.bits,IntKind.signed];omega))) ?_
   refine BH [8,16] ?_
   refine BD (i:=8) rfl rfl Tryz.call74 rfl (is:=[0]) (js:=[0]) rfl rfl (by exact(Iz _ _ _ dO _ 8 (by omega) (by omega) l10 k10 (by omega)).mono (λ_ _ _ h=>h) (λ_ h=>⟨h.1,by simp only[Hz,hs10,Option.bind_some,h.2,Option.bind_none]⟩)) (by rintro a w ⟨_,_,_,⟨v15,sO,jT,c15,Fj,l15,k15,rfl,rfl,rfl⟩,h⟩;exact h.me [1] [2]) (GX.ret ?_) ?_
   ·rintro _ _ _ ⟨v15,sO,jT,c15,Fj,l15,k15,rfl,rfl,rfl⟩
    obtain⟨aj,ah,iJ⟩:=FY Fj
    refine Bq 9 rfl [1] [2] (EK (NH (t:=45) (by rw[Tryz.underlying45];simp) Tryz.underlying2 rfl)) ?_
    refine BH [13,16] ?_
    refine BD (i:=13) rfl rfl Tryz.call74 rfl (is:=[0]) (js:=[0]) rfl rfl (by exact(Iz _ _ _ sO _ 8 (by omega) (by omega) l15 k15 (by omega)).mono (λ_ _ _ h=>h) (λ_ h=>⟨h.1,by simp only[Hz,hs10,Fj,Option.bind_some,h.2,Option.bind_none]⟩)) (by rintro a w ⟨_,_,_,⟨v20,jO,YA,c20,Iq,V9,k20,rfl,rfl,rfl⟩,h⟩;exact h.me [1] [3]) (GX.ret ?_) ?_
    ·rintro _ _ _ ⟨v20,jO,YA,c20,Iq,V9,k20,rfl,rfl,rfl⟩
     obtain⟨qo,ql,qg⟩:=FY Iq
     refine Bq 14 rfl [1] [3] (EK (NH (t:=45) (by rw[Tryz.underlying45];simp) Tryz.underlying2 rfl)) ?_
     refine Bq 15 rfl [1] [3] (EK (ED F6 JF rfl rfl)) ?_
     refine BH [16] ?_
     refine IZ.cons (i:=16) rfl rfl (EH rfl F6) (by rintro a w ⟨_,h⟩;exact h.me [2] [3]) (Bj λFQ=>?_) Aq
     refine BH [17] ?_
     refine IZ.cons (i:=17) rfl rfl (EZ (i:=0) rfl rfl rfl J7 rfl rfl rfl) (by rintro a w h;exact h.me [2] [3]) ?_ Aq
     exact B_ (by kernel_rfl) (λa w h=>⟨_,_,_,_,_,_,_,_,_,⟨hs10,Fj,Iq,V9,k20⟩,h.cut (is:=[1,0,0]) (js:=[0]) ⟨rfl,rfl,rfl,trivial⟩ rfl rfl⟩)
    refine IZ.cons (i:=16) rfl rfl (EH rfl F6) (by rintro a w ⟨_,h⟩;exact h.me [2] [2]) (Bj λFQ=>?_) Aq
    refine BH [13] ?_
    refine BD (i:=13) rfl rfl Tryz.call74 rfl (is:=[1]) (js:=[0]) rfl rfl (by exact(Iz _ _ _ sO _ 8 (by omega) (by omega) l15 k15 (by omega)).mono (λ_ _ _ h=>h) (λ_ h=>⟨h.1,by simp only[Hz,hs10,Fj,Option.bind_some,h.2,Option.bind_none]⟩)) (by rintro a w ⟨_,_,_,⟨v20,jO,YA,c20,Iq,V9,k20,rfl,rfl,rfl⟩,h⟩;exact h.me [2] [3]) (GX.ret ?_) Aq
    rintro _ _ _ ⟨v20,jO,YA,c20,Iq,V9,k20,rfl,rfl,rfl⟩
    obtain⟨qo,ql,qg⟩:=FY Iq
    refine Bq 14 rfl [2] [3] (EK (NH (t:=45) (by rw[Tryz.underlying45];simp) Tryz.underlying2 rfl)) ?_
    refine Bq 15 rfl [2] [3] (EK (ED F6 JF rfl rfl)) ?_
    refine BH [17] ?_
    refine IZ.cons (i:=17) rfl rfl (EZ (i:=1) rfl rfl rfl J7 rfl rfl rfl) (by rintro a w h;exact h.me [2] [3]) ?_ Aq
    exact zq82_
   refine IZ.cons (i:=16) rfl rfl (EH rfl F6) (by rintro a w ⟨_,h⟩;exact h.me [2] [1]) (Bj λFQ=>?_) Aq
   refine BH [8] ?_
   refine BD (i:=8) rfl rfl Tryz.call74 rfl (is:=[1]) (js:=[0]) rfl rfl (by exact(Iz _ _ _ dO _ 8 (by omega) (by omega) l10 k10 (by omega)).mono (λ_ _ _ h=>h) (λ_ h=>⟨h.1,by simp only[Hz,hs10,Option.bind_some,h.2,Option.bind_none]⟩)) (by rintro a w ⟨_,_,_,⟨v15,sO,jT,c15,Fj,l15,k15,rfl,rfl,rfl⟩,h⟩;exact h.me [2] [2]) (GX.ret ?_) Aq
   rintro _ _ _ ⟨v15,sO,jT,c15,Fj,l15,k15,rfl,rfl,rfl⟩
   obtain⟨aj,ah,iJ⟩:=FY Fj
   refine Bq 9 rfl [2] [2] (EK (NH (t:=45) (by rw[Tryz.underlying45];simp) Tryz.underlying2 rfl)) ?_
   refine BH [13] ?_
   refine BD (i:=13) rfl rfl Tryz.call74 rfl (is:=[0]) (js:=[0]) rfl rfl (by exact(Iz _ _ _ sO _ 8 (by omega) (by omega) l15 k15 (by omega)).mono (λ_ _ _ h=>h) (λ_ h=>⟨h.1,by simp only[Hz,hs10,Fj,Option.bind_some,h.2,Option.bind_none]⟩)) (by rintro a w ⟨_,_,_,⟨v20,jO,YA,c20,Iq,V9,k20,rfl,rfl,rfl⟩,h⟩;exact h.me [2] [3]) (GX.ret ?_) Aq
   rintro _ _ _ ⟨v20,jO,YA,c20,Iq,V9,k20,rfl,rfl,rfl⟩
   obtain⟨qo,ql,qg⟩:=FY Iq
   refine Bq 14 rfl [2] [3] (EK (NH (t:=45) (by rw[Tryz.underlying45];simp) Tryz.underlying2 rfl)) ?_
   refine Bq 15 rfl [2] [3] (EK (ED F6 JF rfl rfl)) ?_
   refine BH [17] ?_
   refine IZ.cons (i:=17) rfl rfl (EZ (i:=1) rfl rfl rfl J7 rfl rfl rfl) (by rintro a w h;exact h.me [2] [3]) ?_ Aq
   exact zq82_
  refine IZ.cons (i:=16) rfl rfl (EH rfl F6) (by rintro a w ⟨_,h⟩;exact h.me [1] [0]) (Bj λFQ=>?_) Aq
  refine BH [3] ?_
  refine BD (i:=3) rfl rfl Tryz.call74 rfl (is:=[2]) (js:=[0]) rfl rfl (by exact(Iz _ _ _ b _ 1 (by omega) (by omega) hcp Gl (by omega)).mono (λ_ _ _ h=>h) (λ_ h=>⟨h.1,by simp only[Hz,h.2,Option.bind_none]⟩)) (by rintro a w ⟨_,_,_,⟨v10,dO,A10,c10,hs10,l10,k10,rfl,rfl,rfl⟩,h⟩;exact h.me [2] [1]) (GX.ret ?_) Aq
  rintro _ _ _ ⟨v10,dO,A10,c10,hs10,l10,k10,rfl,rfl,rfl⟩
  obtain⟨iL,iK,qh⟩:=FY hs10
  refine Bq 4 rfl [2] [1] (EK (EO (t:=45) (r:=v10) (by rw[Tryz.underlying45];simp) Tryz.underlying44 rfl (by simp[IntKind.wrap,IntKind.bits,IntKind.signed];omega))) ?_
  refine BH [8] ?_
  refine BD (i:=8) rfl rfl Tryz.call74 rfl (is:=[0]) (js:=[0]) rfl rfl (by exact(Iz _ _ _ dO _ 8 (by omega) (by omega) l10 k10 (by omega)).mono (λ_ _ _ h=>h) (λ_ h=>⟨h.1,by simp only[Hz,hs10,Option.bind_some,h.2,Option.bind_none]⟩)) (by rintro a w ⟨_,_,_,⟨v15,sO,jT,c15,Fj,l15,k15,rfl,rfl,rfl⟩,h⟩;exact h.me [2] [2]) (GX.ret ?_) Aq
  rintro _ _ _ ⟨v15,sO,jT,c15,Fj,l15,k15,rfl,rfl,rfl⟩
  obtain⟨aj,ah,iJ⟩:=FY Fj
  refine Bq 9 rfl [2] [2] (EK (NH (t:=45) (by rw[Tryz.underlying45];simp) Tryz.underlying2 rfl)) ?_
  refine BH [13] ?_
  refine BD (i:=13) rfl rfl Tryz.call74 rfl (is:=[0]) (js:=[0]) rfl rfl (by exact(Iz _ _ _ sO _ 8 (by omega) (by omega) l15 k15 (by omega)).mono (λ_ _ _ h=>h) (λ_ h=>⟨h.1,by simp only[Hz,hs10,Fj,Option.bind_some,h.2,Option.bind_none]⟩)) (by rintro a w ⟨_,_,_,⟨v20,jO,YA,c20,Iq,V9,k20,rfl,rfl,rfl⟩,h⟩;exact h.me [2] [3]) (GX.ret ?_) Aq
  rintro _ _ _ ⟨v20,jO,YA,c20,Iq,V9,k20,rfl,rfl,rfl⟩
  obtain⟨qo,ql,qg⟩:=FY Iq
  refine Bq 14 rfl [2] [3] (EK (NH (t:=45) (by rw[Tryz.underlying45];simp) Tryz.underlying2 rfl)) ?_
  refine Bq 15 rfl [2] [3] (EK (ED F6 JF rfl rfl)) ?_
  refine BH [17] ?_
  refine IZ.cons (i:=17) rfl rfl (EZ (i:=1) rfl rfl rfl J7 rfl rfl rfl) (by rintro a w h;exact h.me [2] [3]) ?_ Aq
  exact zq82_
 refine(?_:GC _ _ _ _)
 refine BQ λv10=>BQ λdO=>BQ λv15=>BQ λsO=>BQ λv20=>BQ λjO=>BQ λYA=>BQ λc20=>BQ λFQ=>GC.and fun⟨hs10,Fj,Iq,V9,k20⟩=>?_;refine AB ?_
 obtain⟨iL,iK,qh⟩:=FY hs10
 obtain⟨aj,ah,iJ⟩:=FY Fj
 obtain⟨qo,ql,qg⟩:=FY Iq
 refine Cc (m:=30) (M:=λa w=>∃v26:Int,∃L26:List UInt8,∃v30:Int,∃L30:List UInt8,∃v34:Int,∃L34:List UInt8,∃v38:Int,∃L38:List UInt8,∃v42:Int,∃L42:List UInt8,∃A42:Option Addr,∃c42:Nat,(Jf jO=some (v26,L26)/\Jf L26=some (v30,L30)/\Jf L30=some (v34,L34)/\Jf L34=some (v38,L38)/\Jf L38=some (v42,L42)/\L42.length<=c42/\c42<=9223372036854775807)/\St c 95 [(0,.pointer (some ⟨p,0,none⟩)),(2,.pointer (some ⟨Gm,0,none⟩)),(3,.pointer (some ⟨FQ,0,none⟩))] [.cells p [.slice A42 L42.length c42] e_,.cells FQ [.int .u8 v10,.int .i64 (IntKind.i64.wrap v15),.int .i64 (IntKind.i64.wrap v20),.int .i64 v26,.int .i64 v30,.int .i64 v34,.int .i64 v38,.int .i64 v42,.int .u64 0,.int .i64 0,.int .i64 0,.int .u8 0,.int .i64 0,.int .i64 0,.slice none 0 0,.slice none 0 0,.int .u8 0,.slice none 0 0,.int .i64 0,.slice none 0 0,.int .i64 0,.int .i64 0,.int .i64 0,.slice none 0 0,.slice none 0 0,.int .i64 0,.slice none 0 0,.slice none 0 0] 64,.cells Gm [.int .u8 0,.int .i64 0,.int .i64 0,.int .i64 0,.int .i64 0,.int .i64 0,.int .i64 0,.int .i64 0,.int .u64 0,.int .i64 0,.int .i64 0,.int .u8 0,.int .i64 0,.int .i64 0,.slice none 0 0,.slice none 0 0,.int .u8 0,.slice none 0 0,.int .i64 0,.slice none 0 0,.int .i64 0,.int .i64 0,.int .i64 0,.slice none 0 0,.slice none 0 0,.int .i64 0,.slice none 0 0,.slice none 0 0] 64] [D7.row Kd.u8 A42 L42] a w) (is:=[2]) (js:=[0]) Ef rfl rfl rfl (λ_ _ _ hd hp hD=>⟨hd.trans hD,.inr hp⟩) ?_ ?_
 ·refine BK 0 [2] [0] ?_
  refine BK 1 [2] [0] ?_
  refine BK 2 [2] [0] ?_
  refine BK 4 [2] [0] ?_
  refine BK 5 [2] [0] ?_
  refine BK 6 [2] [0] ?_
  refine BK 8 [2] [0] ?_
  refine BK 9 [2] [0] ?_
  refine BK 10 [2] [0] ?_
  refine BK 12 [2] [0] ?_
  refine BK 13 [2] [0] ?_
  refine BK 14 [2] [0] ?_
  refine BK 16 [2] [0] ?_
  refine BK 17 [2] [0] ?_
  refine BK 18 [2] [0] ?_
  refine BH [3] ?_
  refine BD (i:=3) rfl rfl Tryz.call75 rfl (is:=[0]) (js:=[0]) rfl rfl (by exact(PS _ _ _ jO _ V9 k20 (by omega)).mono (λ_ _ _ h=>h) (λ_ h=>⟨h.1,by simp only[Hz,hs10,Fj,Iq,Option.bind_some,h.2,Option.bind_none]⟩)) (by rintro a w ⟨_,_,_,⟨v26,L26,A26,c26,MB,l26,k26,rfl,rfl,rfl⟩,h⟩;exact h.me [2] [1]) (GX.ret ?_) Aq
  rintro _ _ _ ⟨v26,L26,A26,c26,MB,l26,k26,rfl,rfl,rfl⟩
  obtain⟨hv26,hw26,hx26⟩:=F8 MB
  refine BH [7] ?_
  refine BD (i:=7) rfl rfl Tryz.call75 rfl (is:=[0]) (js:=[0]) rfl rfl (by exact(PS _ _ _ L26 _ l26 k26 (by omega)).mono (λ_ _ _ h=>h) (λ_ h=>⟨h.1,by simp only[Hz,hs10,Fj,Iq,MB,Option.bind_some,h.2,Option.bind_none]⟩)) (by rintro a w ⟨_,_,_,⟨v30,L30,A30,c30,LD,l30,k30,rfl,rfl,rfl⟩,h⟩;exact h.me [2] [2]) (GX.ret ?_) Aq
  rintro _ _ _ ⟨v30,L30,A30,c30,LD,l30,k30,rfl,rfl,rfl⟩
  obtain⟨hv30,hw30,hx30⟩:=F8 LD
  refine BH [11] ?_
  refine BD (i:=11) rfl rfl Tryz.call75 rfl (is:=[0]) (js:=[0]) rfl rfl (by exact(PS _ _ _ L30 _ l30 k30 (by omega)).mono (λ_ _ _ h=>h) (λ_ h=>⟨h.1,by simp only[Hz,hs10,Fj,Iq,MB,LD,Option.bind_some,h.2,Option.bind_none]⟩)) (by rintro a w ⟨_,_,_,⟨v34,L34,A34,c34,SA,l34,k34,rfl,rfl,rfl⟩,h⟩;exact h.me [2] [3]) (GX.ret ?_) Aq
  rintro _ _ _ ⟨v34,L34,A34,c34,SA,l34,k34,rfl,rfl,rfl⟩
  obtain⟨hv34,hw34,hx34⟩:=F8 SA
  refine BH [15] ?_
  refine BD (i:=15) rfl rfl Tryz.call75 rfl (is:=[0]) (js:=[0]) rfl rfl (by exact(PS _ _ _ L34 _ l34 k34 (by omega)).mono (λ_ _ _ h=>h) (λ_ h=>⟨h.1,by simp only[Hz,hs10,Fj,Iq,MB,LD,SA,Option.bind_some,h.2,Option.bind_none]⟩)) (by rintro a w ⟨_,_,_,⟨v38,L38,A38,c38,Tc,l38,k38,rfl,rfl,rfl⟩,h⟩;exact h.me [2] [4]) (GX.ret ?_) Aq
  rintro _ _ _ ⟨v38,L38,A38,c38,Tc,l38,k38,rfl,rfl,rfl⟩
  obtain⟨hv38,hw38,hx38⟩:=F8 Tc
  refine BH [19] ?_
  refine BD (i:=19) rfl rfl Tryz.call75 rfl (is:=[0]) (js:=[0]) rfl rfl (by exact(PS _ _ _ L38 _ l38 k38 (by omega)).mono (λ_ _ _ h=>h) (λ_ h=>⟨h.1,by simp only[Hz,hs10,Fj,Iq,MB,LD,SA,Tc,Option.bind_some,h.2,Option.bind_none]⟩)) (by rintro a w ⟨_,_,_,⟨v42,L42,A42,c42,Ui,l42,k42,rfl,rfl,rfl⟩,h⟩;exact h.me [2] [5]) (GX.ret ?_) Aq
  rintro _ _ _ ⟨v42,L42,A42,c42,Ui,l42,k42,rfl,rfl,rfl⟩
  obtain⟨hv42,hw42,hx42⟩:=F8 Ui
  refine BK 20 [2] [5] ?_
  refine BH [21] ?_
  refine IZ.cons (i:=21) rfl rfl (Et (i:=1) rfl rfl rfl rfl GV rfl rfl rfl) (by rintro a w h;exact h.me [2] [5]) ?_ Aq
  refine BK 22 [2] [5] ?_
  refine BH [23] ?_
  refine IZ.cons (i:=23) rfl rfl (Et (i:=1) rfl rfl rfl rfl GV rfl rfl rfl) (by rintro a w h;exact h.me [2] [5]) ?_ Aq
  refine BK 24 [2] [5] ?_
  refine BH [25] ?_
  refine IZ.cons (i:=25) rfl rfl (Et (i:=1) rfl rfl rfl rfl GV rfl rfl rfl) (by rintro a w h;exact h.me [2] [5]) ?_ Aq
  refine BK 26 [2] [5] ?_
  refine BH [27] ?_
  refine IZ.cons (i:=27) rfl rfl (Et (i:=1) rfl rfl rfl rfl GV rfl rfl rfl) (by rintro a w h;exact h.me [2] [5]) ?_ Aq
  refine BK 28 [2] [5] ?_
  refine BH [29] ?_
  refine IZ.cons (i:=29) rfl rfl (Et (i:=1) rfl rfl rfl rfl GV rfl rfl rfl) (by rintro a w h;exact h.me [2] [5]) ?_ Aq
  exact B_ (by kernel_rfl) (λa w h=>⟨_,_,_,_,_,_,_,_,_,_,_,_,⟨MB,LD,SA,Tc,Ui,l42,k42⟩,h.cut (is:=[0,0,0]) (js:=[0]) ⟨rfl,rfl,rfl,trivial⟩ rfl rfl⟩)
 refine(?_:GC _ _ _ _)
 refine BQ λv26=>BQ λL26=>BQ λv30=>BQ λL30=>BQ λv34=>BQ λL34=>BQ λv38=>BQ λL38=>BQ λv42=>BQ λL42=>BQ λA42=>BQ λc42=>GC.and fun⟨MB,LD,SA,Tc,Ui,l42,k42⟩=>?_
 refine AX ?_
 obtain⟨hv26,hw26,hx26⟩:=F8 MB
 obtain⟨hv30,hw30,hx30⟩:=F8 LD
 obtain⟨hv34,hw34,hx34⟩:=F8 SA
 obtain⟨hv38,hw38,hx38⟩:=F8 Tc
 obtain⟨hv42,hw42,hx42⟩:=F8 Ui
 refine AA 3 ?_;refine Bc rfl Tryz.call74 rfl (is:=[0]) (js:=[0]) rfl rfl (by exact(Iz _ _ _ L42 _ 8 (by omega) (by omega) l42 k42 (by omega)).mono (λ_ _ _ h=>h) (λ_ h=>⟨h.1,by simp only[Hz,hs10,Fj,Iq,MB,LD,SA,Tc,Ui,Option.bind_some,h.2,Option.bind_none]⟩)) (λv a w he h=>Iu.panic he h) (GL.ret ?_)
 rintro _ _ _ ⟨v51,L51,A51,c51,WH,l51,k51,rfl,rfl,rfl⟩
 obtain⟨hv51,hw51,hx51⟩:=FY WH
 refine AA 1 ?_;refine BI 1 ?_;refine Ap ?_;refine AB ?_;refine Cc (m:=12) (M:=λa w=>∃v56:Int,∃L56:List UInt8,∃v60:Int,∃L60:List UInt8,∃A60:Option Addr,∃c60:Nat,(Jf L51=some (v56,L56)/\Jf L56=some (v60,L60)/\L60.length<=c60/\c60<=9223372036854775807)/\St c 95 [(0,.pointer (some ⟨p,0,none⟩)),(2,.pointer (some ⟨Gm,0,none⟩)),(3,.pointer (some ⟨FQ,0,none⟩))] [.cells p [.slice A60 L60.length c60] e_,.cells FQ [.int .u8 v10,.int .i64 (IntKind.i64.wrap v15),.int .i64 (IntKind.i64.wrap v20),.int .i64 v26,.int .i64 v30,.int .i64 v34,.int .i64 v38,.int .i64 v42,.int .u64 v51,.int .i64 v56,.int .i64 v60,.int .u8 0,.int .i64 0,.int .i64 0,.slice none 0 0,.slice none 0 0,.int .u8 0,.slice none 0 0,.int .i64 0,.slice none 0 0,.int .i64 0,.int .i64 0,.int .i64 0,.slice none 0 0,.slice none 0 0,.int .i64 0,.slice none 0 0,.slice none 0 0] 64,.cells Gm [.int .u8 0,.int .i64 0,.int .i64 0,.int .i64 0,.int .i64 0,.int .i64 0,.int .i64 0,.int .i64 0,.int .u64 0,.int .i64 0,.int .i64 0,.int .u8 0,.int .i64 0,.int .i64 0,.slice none 0 0,.slice none 0 0,.int .u8 0,.slice none 0 0,.int .i64 0,.slice none 0 0,.int .i64 0,.int .i64 0,.int .i64 0,.slice none 0 0,.slice none 0 0,.int .i64 0,.slice none 0 0,.slice none 0 0] 64] [D7.row Kd.u8 A60 L60] a w) (is:=[2]) (js:=[0,1]) Ef rfl rfl rfl (λ_ _ _ hd hp hD=>⟨hd.trans hD,.inr hp⟩) ?_ ?_
 ·refine BK 0 [2] [0,1] ?_
  refine BK 1 [2] [0,1] ?_
  refine BK 2 [2] [0,1] ?_
  refine BK 4 [2] [0,1] ?_
  refine BK 5 [2] [0,1] ?_
  refine BK 6 [2] [0,1] ?_
  refine BH [3] ?_
  refine BD (i:=3) rfl rfl Tryz.call75 rfl (is:=[0]) (js:=[0]) rfl rfl (by exact(PS _ _ _ L51 _ l51 k51 (by omega)).mono (λ_ _ _ h=>h) (λ_ h=>⟨h.1,by simp only[Hz,hs10,Fj,Iq,MB,LD,SA,Tc,Ui,WH,Option.bind_some,h.2,Option.bind_none]⟩)) (by rintro a w ⟨_,_,_,⟨v56,L56,A56,c56,TY,l56,k56,rfl,rfl,rfl⟩,h⟩;exact h.me [2] [1,2]) (GX.ret ?_) Aq
  rintro _ _ _ ⟨v56,L56,A56,c56,TY,l56,k56,rfl,rfl,rfl⟩
  obtain⟨hv56,hw56,hx56⟩:=F8 TY
  refine BH [7] ?_
  refine BD (i:=7) rfl rfl Tryz.call75 rfl (is:=[0]) (js:=[0]) rfl rfl (by exact(PS _ _ _ L56 _ l56 k56 (by omega)).mono (λ_ _ _ h=>h) (λ_ h=>⟨h.1,by simp only[Hz,hs10,Fj,Iq,MB,LD,SA,Tc,Ui,WH,TY,Option.bind_some,h.2,Option.bind_none]⟩)) (by rintro a w ⟨_,_,_,⟨v60,L60,A60,c60,WG,l60,k60,rfl,rfl,rfl⟩,h⟩;exact h.me [2] [2,3]) (GX.ret ?_) Aq
  rintro _ _ _ ⟨v60,L60,A60,c60,WG,l60,k60,rfl,rfl,rfl⟩
  obtain⟨hv60,hw60,hx60⟩:=F8 WG
  refine BK 8 [2] [2,3] ?_
  refine BH [9] ?_
  refine IZ.cons (i:=9) rfl rfl (Et (i:=1) rfl rfl rfl rfl GV rfl rfl rfl) (by rintro a w h;exact h.me [2] [2,3]) ?_ Aq
  refine BK 10 [2] [2,3] ?_
  refine BH [11] ?_
  refine IZ.cons (i:=11) rfl rfl (Et (i:=1) rfl rfl rfl rfl GV rfl rfl rfl) (by rintro a w h;exact h.me [2] [2,3]) ?_ Aq
  exact B_ (by kernel_rfl) (λa w h=>⟨_,_,_,_,_,_,⟨TY,WG,l60,k60⟩,h.cut (is:=[0,0,0]) (js:=[0]) ⟨rfl,rfl,rfl,trivial⟩ rfl rfl⟩)
 refine(?_:GC _ _ _ _)
 refine BQ λv56=>BQ λL56=>BQ λv60=>BQ λL60=>BQ λA60=>BQ λc60=>GC.and fun⟨TY,WG,l60,k60⟩=>?_;refine AX ?_
 obtain⟨hv56,hw56,hx56⟩:=F8 TY
 obtain⟨hv60,hw60,hx60⟩:=F8 WG
 refine AA 1 ?_;refine Bc rfl Tryz.call76 rfl (is:=[0,0]) (js:=[0]) rfl rfl (by exact(wprt_ct _ _ _ _ _ _ _ _ _ _ _ _ _ _ _ _ L60 _ l60 k60 (by omega)).mono (λ_ _ _ h=>h) (λ_ h=>⟨h.1,by simp only[Hz,hs10,Fj,Iq,MB,LD,SA,Tc,Ui,WH,TY,WG,Option.bind_some,h.2,Option.bind_none]⟩)) (λv a w he h=>Iu.panic he h) (GL.ret ?_)
 rintro _ _ _ ⟨o64,r64,g64,s64,L64,Sr,hs64,hx64,l64,k64,rfl,rfl,rfl⟩
 refine Ap ?_;refine AB ?_;refine AV 3 ?_;refine Bc rfl Tryz.call74 rfl (is:=[0]) (js:=[7]) rfl rfl (by exact(Iz _ _ _ L64 _ 4 (by omega) (by omega) l64 k64 (by omega)).mono (λ_ _ _ h=>h) (λ_ h=>⟨h.1,by simp only[Hz,hs10,Fj,Iq,MB,LD,SA,Tc,Ui,WH,TY,WG,Option.bind_some,hs64,h.2,Option.bind_none]⟩)) (λv a w he h=>Iu.panic he h) (GL.ret ?_)
 rintro _ _ _ ⟨v68,L68,A68,c68,hs68,l68,k68,rfl,rfl,rfl⟩
 obtain⟨hv68,hw68,hx68⟩:=FY hs68
 refine GL.Hu 97 12 ?_;refine GL.know (q:=A_ JV [] []) (λ_ _ _=>rfl) ?_;refine AL 1 ?_;refine GC.block ?_;refine Dn (ks:=[0,2,3,68]) (is:=[3]) (js:=(up 1 10)) (fun(k:Nat) (es:List Entry) (V:Value) (cs:List Value) (L:List UInt8) (Al:Option Addr) (cl:Nat)=>(es.length=k/\L.length<=b.length/\L.length<=cl/\cl<=9223372036854775807)/\(k:Int)<=v68/\Fq went L68 k=some (es,L)) (fun(k:Nat) (es:List Entry) (V:Value) (cs:List Value) (L:List UInt8) (Al:Option Addr) (cl:Nat)=>[(69,.int .u64 (k:Int))]) (fun(k:Nat) (es:List Entry) (V:Value) (cs:List Value) (L:List UInt8) (Al:Option Addr) (cl:Nat)=>[.cells p [.slice Al L.length cl] e_,.cells FQ [.int .u8 v10,.int .i64 (IntKind.i64.wrap v15),.int .i64 (IntKind.i64.wrap v20),.int .i64 v26,.int .i64 v30,.int .i64 v34,.int .i64 v38,.int .i64 v42,.int .u64 v51,.int .i64 v56,.int .i64 v60,.int .u8 o64.kind,.int .i64 o64.at_,.int .i64 o64.n,.slice Sr.a1 o64.data.length Sr.c1,.slice Sr.a2 o64.old.length Sr.c2,.int .u8 r64.code,.slice Sr.a3 r64.data.length Sr.c3,.int .i64 g64.epoch,.slice Sr.a4 g64.members.length Sr.c4,.int .i64 s64.num,.int .i64 s64.Jo.bl,.int .i64 s64.Jo.sz,.slice Sr.a5 s64.pages.length Sr.c5,.slice Sr.a6 s64.rows.length Sr.c6,.int .i64 s64.grp.epoch,.slice Sr.a7 s64.grp.members.length Sr.c7,V] 64,.row V 97 12 es.length cs]) (fun(k:Nat) (es:List Entry) (V:Value) (cs:List Value) (L:List UInt8) (Al:Option Addr) (cl:Nat)=>[A_ JV es cs,D7.row Kd.u8 Al L]) (fun(k:Nat) (es:List Entry) (V:Value) (cs:List Value) (L:List UInt8) (Al:Option Addr) (cl:Nat)=>v68.toNat - k) (0) ([]) (_) ([]) (L68) (_) (_) rfl rfl rfl (λa w h=>⟨⟨⟨rfl,by omega,l68,k68⟩,by omega,rfl⟩,h.Hf (is:=[1,1,0,0]) (js:=[0,1,1,2,3,4,5,6,7,8,9,10]) (ks:=[0,2,3,68]) ⟨rfl,trivial⟩ rfl rfl rfl⟩) ?_
 intro k es V cs L Al cl hk
 try dsimp only[List.cons_append,List.nil_append] at hk ⊢
 refine AP 1 ?_;refine AB ?_;refine Af ?_ ?_
 ·intro h1;try simp only[D6] at h1
  refine GC.skip (?_:GC _ _ _ _)
  refine AB ?_;refine GC.block ?_;refine AV 4 ?_;refine Ad 0 ?_;refine Ah Tryz.call77 [] [1] rfl rfl rfl (by exact rP _ L _ hk.1.2.2.1 hk.1.2.2.2 (by omega)) ?_
  rintro _ _ _ ⟨g77,t77,f77,A77,cp77,B77,cq77,C77,cr77,hs77,ht77,j77,k77,l77,m77,n77,o77,rfl,rfl,rfl⟩
  refine AA 4 ?_;refine GL.step rfl (EH rfl Ia) (Aa λKZ=>?_);refine Ar 0 ?_;refine AL 2 ?_;refine AV 5 ?_;refine Bc rfl Tryz.call78 rfl (is:=[1]) (js:=[4]) rfl rfl (by exact(PO _ _ _ L _ t77 f77 (λ_=>ht77) hk.1.2.2.1 hk.1.2.2.2).mono (λ_ _ _ h=>h) (λ_ h=>⟨h.2,by simp only[Hz,hs10,Fj,Iq,MB,LD,SA,Tc,Ui,WH,TY,WG,hs64,hs68,Option.bind_some];rw[FV hk.2.2 (show went L=none from by rw[went,hs77.2 h.1];rfl) (by omega)];rfl⟩)) (λv a w he h=>Iu.panic he h) (GL.ret ?_)
  rintro _ _ _ ⟨he86,A86,c86,l86,k86,rfl,rfl,rfl⟩
  refine Ap ?_;refine GC.region ?_;refine AA 1 ?_;refine Ad 2 ?_;refine Az 1 12 ?_;refine GL.snoc (j:=4) (js:=[1,2,3]) g77 ((),((),((),((),((),(((),((),((),((A77,cp77),(B77,cq77))))),((),(C77,cr77)))))))) rfl rfl ⟨trivial,trivial,trivial,trivial,trivial,⟨trivial,trivial,trivial,⟨j77,k77⟩,⟨l77,m77⟩⟩,trivial,n77,o77⟩ ?_
  refine GL.step rfl (EC rfl Tryz.underlying62 F9 Ia rfl rfl rfl rfl rfl rfl) (Aa λb_t90=>?_);refine GL.step rfl (Eh (i:=4) (k:=0) rfl el_62 rfl rfl rfl rfl rfl (EX rfl) (by have:=hk.1.1;omega) (λ_=>rfl)) (Aa λv91=>?_)
  refine GL.shape (i:=4) rfl (λA_v91 c_v91 e_v91 l_v91 k_v91=>?_)
  subst e_v91
  refine AA 1 ?_;refine BI 3 ?_
  refine Ac (?_:GC _ _ _ _)
  refine GC.region ?_;refine AO rfl (EU rfl rfl (bn (by omega) (by omega))) ?_;refine AA 1 ?_;refine Ac ?_
  exact λa w h=>⟨(k+1),(es++[g77]),(_),(_),(L.drop t77),(_),(_),(by omega),⟨⟨by simp;omega,by have:=@La L t77;omega,l86,k86⟩,by omega,J6 hk.2.2 (show went L=some _ from by rw[went,hs77.1 he86];rfl)⟩,by rw[List.length_append];exact h.cut (is:=[1,2,2,2]) (js:=[0,1,7,8,9,10,11,12,13,14,15,16]) ⟨rfl,rfl,rfl,rfl,rfl,trivial⟩ rfl rfl⟩
 intro h1;try simp only[D6] at h1
 refine GC.exit (?_:GC _ _ _ _)
 refine AX ?_;refine GL.shape (i:=2) rfl (λA_EN c_EN e_EN l_EN k_EN=>?_)
 subst e_EN
 refine GL.IQ (i:=2) (j:=0) rfl rfl (by decide) ?_;refine Az 1 28 ?_;refine Ar 2 ?_;refine Ap ?_;refine GC.ret (DJ 2 64 2 28 [0] [4,5,6,7,8,9,10,0,2] ?_)
 exact⟨⟨v10,IntKind.i64.wrap v15,IntKind.i64.wrap v20,v26,v30,v34,v38,v42,v51,v56,v60,o64,r64,g64,s64,es⟩,⟨Sr.a1,Sr.c1,Sr.a2,Sr.c2,Sr.a3,Sr.c3,Sr.a4,Sr.c4,Sr.a5,Sr.c5,Sr.a6,Sr.c6,Sr.a7,Sr.c7,A_EN,c_EN⟩,L,_,_,by simp only[Hz,hs10,Fj,Iq,MB,LD,SA,Tc,Ui,WH,TY,WG,hs64,hs68,Option.bind_some];rw[show v68.toNat=k by omega,hk.2.2];rfl,hk.1.2.2.1,hk.1.2.2.2,rfl,rfl,rfl⟩
theorem TS{α σ:Type}{f:σ->Option (α×σ)}{t:σ}:∀{k:Nat} {xs:List α} {u:σ},Fq f t k=some (xs,u)->xs.length=k
 |0,xs,u,h=>by
  obtain⟨rfl,_⟩:=Prod.mk.inj (Option.some.inj h)
  rfl
 |k+1,xs,u,h=>by
  simp only[Fq,Option.bind_eq_some_iff,Option.map_eq_some_iff] at h
  obtain⟨⟨ys,v⟩,h1,⟨x,w⟩,h2,h3⟩:=h
  obtain⟨rfl,_⟩:=Prod.mk.inj h3
  have:=TS h1
  simp[this]
theorem Xu{α σ:Type}{P:α->Prop}{f:σ->Option (α×σ)}{t:σ}(hf:∀t x v,f t=some (x,v)->P x):∀{k:Nat} {xs:List α} {u:σ},Fq f t k=some (xs,u)->∀x∈xs,P x
 |0,xs,u,h=>by
  obtain⟨rfl,_⟩:=Prod.mk.inj (Option.some.inj h)
  intro x hx;cases hx
 |k+1,xs,u,h=>by
  simp only[Fq,Option.bind_eq_some_iff,Option.map_eq_some_iff] at h
  obtain⟨⟨ys,v⟩,h1,⟨x,w⟩,h2,h3⟩:=h
  obtain⟨rfl,_⟩:=Prod.mk.inj h3
  intro y hy
  rcases List.mem_append.1 hy with hy|hy
  ·exact Xu hf h1 y hy
  ·rw[List.mem_singleton.1 hy];exact hf _ _ _ h2
theorem TT{α:Type}{f:List UInt8->Option (α×List UInt8)}{t:List UInt8}(hf:∀t x v,f t=some (x,v)->v.length+1<=t.length):∀{k:Nat} {xs:List α} {u:List UInt8},Fq f t k=some (xs,u)->u.length+k<=t.length
 |0,xs,u,h=>by
  obtain⟨_,rfl⟩:=Prod.mk.inj (Option.some.inj h)
  exact Nat.le_refl _
 |k+1,xs,u,h=>by
  simp only[Fq,Option.bind_eq_some_iff,Option.map_eq_some_iff] at h
  obtain⟨⟨ys,v⟩,h1,⟨x,w⟩,h2,h3⟩:=h
  obtain⟨_,rfl⟩:=Prod.mk.inj h3
  have:=TT hf h1
  have:=hf _ _ _ h2
  dsimp only at *
  omega
theorem ent_len{e:Entry}(h:Eo e):Lp e:=by
 obtain⟨_,_,_,_,h5⟩:=h
 rcases h5 with⟨_,h,_,h2⟩|⟨_,h,h2,_⟩
 ·have:=NP h
  exact⟨by unfold KQ;omega,by unfold KQ;omega,by omega⟩
 ·have:=Fp h2
  exact⟨by rw[h];simp[Iw],by rw[h];simp[Iw],by omega⟩
theorem held_len{s:I4}(h:Gj s):IU s:=by
 have r:=NM h
 have h1:=r.pl
 have h2:=r.rl
 have h3:=Fp r.gr
 refine⟨by omega,by omega,by omega,λp hp=>?_,λp hp=>?_⟩
 ·have:=(r.pg p hp).2.2.2.2;unfold KQ;omega
 ·have:=(QO (r.Zf p hp).2.2).2.2;unfold KQ;omega
theorem mentF_ok{b:List UInt8}{t:Nat}{e:Entry}{u:Nat}(h:Gf b t=some (e,u)):Eo e:=by
 simp only[Gf,Option.bind_eq_some_iff,Py] at h
 obtain⟨_,_,_,_,_,_,_,_,_,_,_,_,h⟩:=h
 split at h
 ·rename_i h0
  rw[Option.some.inj h] at h0
  rwa [E_] at h0
 ·cases h
theorem mstF_ok{b:List UInt8}{t:Nat}{e:I4}{u:Nat}(h:Ih b t=some (e,u)):Gj e:=by
 simp only[Ih,Option.bind_eq_some_iff,iC] at h
 obtain⟨_,_,_,_,_,_,_,_,_,_,_,_,_,_,_,_,h⟩:=h
 split at h
 ·rename_i h0
  rw[<-(Prod.mk.inj (Option.some.inj h)).1]
  exact h0.1
 ·cases h
theorem decOp_ok{b:List UInt8}{o:LM}{n:Nat}(h:JM b=some (o,n)):Jp o:=by
 unfold JM at h
 split at h
 ·rename_i hh
  rw[<-(Prod.mk.inj (Option.some.inj h)).1]
  exact(D8 ..).1 hh.2
 ·cases h
theorem Ob{n:Nat}{L M:List UInt8}{v:Int}(h:Hl n L=some (v,M)):M.length+n=L.length:=(FY h).2.2
theorem went_ok{L M:List UInt8}{e:Entry}(h:went L=some (e,M)):Eo e:=by
 simp only[went,Option.map_eq_some_iff] at h
 obtain⟨⟨e',u⟩,h1,h2⟩:=h
 obtain⟨rfl,_⟩:=Prod.mk.inj h2
 exact mentF_ok h1
theorem Jh{b:List UInt8}{t n u:Nat}{v:Int}(h:FU b t n=some (v,u)):u=t+n/\u<=b.length:=⟨(ER h).2.1,(ER h).1⟩
theorem iD{b:List UInt8}{e:Entry}{u:Nat}(h:Gf b 0=some (e,u)):1<=u/\1<=b.length:=by
 simp only[Gf,Option.bind_eq_some_iff] at h
 obtain⟨⟨k,t1⟩,h1,⟨n,t2⟩,h2,⟨v,t3⟩,h3,⟨cc,t4⟩,h4,⟨s,t5⟩,h5,⟨x,t6⟩,h6,h7⟩:=h
 have e1:=Jh h1
 have e2:=Jh h2
 have e3:=Jh h3
 have e4:=Jh h4
 have e5:=Jh h5
 dsimp only at *
 simp only[Py] at h7
 split at h7
 ·obtain⟨_,rfl⟩:=Prod.mk.inj (Option.some.inj h7)
  refine⟨?_,by omega⟩
  unfold KA at h6
  split at h6
  ·simp only[Option.map_eq_some_iff] at h6
   obtain⟨⟨o,m⟩,_,h8⟩:=h6
   have:=(Prod.mk.inj h8).2
   dsimp only at this
   omega
  ·split at h6
   ·simp only[Option.map_eq_some_iff,Nr,Option.bind_eq_some_iff] at h6
    obtain⟨⟨o,m⟩,⟨⟨g1,u1⟩,h8,⟨g2,u2⟩,h9,⟨g3,u3⟩,h10,h11⟩,h12⟩:=h6
    have f1:=Jh h8
    have f2:=Jh h9
    have:=(Prod.mk.inj h12).2
    have:=(Prod.mk.inj h11).2
    dsimp only at *
    have hge:∀(k:Nat) (xs:List Int) (u:Nat),Fq (λt=>FU b t 1) u2 k=some (xs,u)->u2<=u:=by
     intro k
     induction k with
     |zero=>intro xs u h;obtain⟨_,rfl⟩:=Prod.mk.inj (Option.some.inj h);exact Nat.le_refl _
     |succ k ih =>
      intro xs u h
      simp only[Fq,Option.bind_eq_some_iff,Option.map_eq_some_iff] at h
      obtain⟨⟨ys,v⟩,j1,⟨x,w⟩,j2,j3⟩:=h
      obtain⟨_,rfl⟩:=Prod.mk.inj j3
      have:=ih _ _ j1
      have:=Jh j2
      dsimp only at *
      omega
    have:=hge _ _ _ h10
    omega
   ·have:=(Prod.mk.inj (Option.some.inj h6)).2
    omega
 ·cases h7
theorem went_dec(t:List UInt8)(x:Entry)(v:List UInt8)(h:went t=some (x,v)):v.length+1<=t.length:=by
 simp only[went,Option.map_eq_some_iff] at h
 obtain⟨⟨e',u⟩,h1,h2⟩:=h
 obtain⟨_,rfl⟩:=Prod.mk.inj h2
 have:=iD h1
 rw[List.length_drop]
 dsimp only
 omega
structure MsgF(b:List UInt8)(m:GZ)(M:List UInt8):Prop where
 len:FT m
 Ez:0<=m.Ez/\m.Ez<18446744073709551616
 log:m.log.length<=b.length
theorem Xc{b:List UInt8}{m:GZ}{M:List UInt8}(h:Hz b=some (m,M)):MsgF b m M:=by
 simp only[Hz,Option.bind_eq_some_iff,Option.map_eq_some_iff] at h
 obtain⟨⟨k,b1⟩,h1,⟨sv,b2⟩,h2,⟨d,b3⟩,h3,⟨a1,b4⟩,h4,⟨a2,b5⟩,h5,⟨a3,b6⟩,h6,⟨a4,b7⟩,h7,⟨a5,b8⟩,h8,⟨nn,b9⟩,h9,⟨cl,b10⟩,h10,⟨sr,b11⟩,h11,⟨⟨o,r,g,s⟩,b12⟩,h12,⟨n,b13⟩,h13,⟨es,b14⟩,Nb,h15⟩:=h
 dsimp only at *
 obtain⟨rfl,rfl⟩:=Prod.mk.inj h15
 have q9:=FY h9
 have e8:(256:Nat) ^ 8=18446744073709551616:=Gi
 simp only[Kt,Option.bind_eq_some_iff,Option.map_eq_some_iff] at h12
 obtain⟨⟨pn,c1⟩,g1,⟨o',c2⟩,g2,⟨r',c3⟩,g3,⟨g',c4⟩,g4,⟨s',c5⟩,g5,g6⟩:=h12
 dsimp only at *
 cases g6
 have lo:KQ o.data.length/\KQ o.old.length/\c2.length<=c1.length:=by
  unfold sU at g2
  split at g2
  ·obtain⟨rfl,rfl⟩:=Prod.mk.inj (Option.some.inj g2);simp[Iw]
  ·simp only[Option.map_eq_some_iff] at g2
   obtain⟨⟨o2,n2⟩,j1,j2⟩:=g2
   obtain⟨rfl,rfl⟩:=Prod.mk.inj j2
   have:=NP (decOp_ok j1)
   exact⟨by unfold KQ;dsimp only;omega,by unfold KQ;dsimp only;omega,La⟩
 have lr:KQ r.data.length/\c3.length<=c2.length:=by
  unfold sS at g3
  split at g3
  ·obtain⟨rfl,rfl⟩:=Prod.mk.inj (Option.some.inj g3);simp[rz]
  ·simp only[Option.map_eq_some_iff] at g3
   obtain⟨⟨o2,n2⟩,j1,j2⟩:=g3
   obtain⟨rfl,rfl⟩:=Prod.mk.inj j2
   have:=Wy j1
   exact⟨by unfold KQ;dsimp only;omega,La⟩
 have lg:g.members.length<=17592186043904/\c4.length<=c3.length:=by
  unfold sV at g4
  split at g4
  ·obtain⟨rfl,rfl⟩:=Prod.mk.inj (Option.some.inj g4);simp[Le]
  ·simp only[OH,Option.bind_eq_some_iff,Option.map_eq_some_iff] at g4
   obtain⟨⟨e1,d1⟩,j1,⟨e2,d2⟩,j2,⟨e3,d3⟩,j3,j4⟩:=g4
   obtain⟨rfl,rfl⟩:=Prod.mk.inj j4
   have f1:=F8 j1
   have f2:=FY j2
   have f3:=TS j3
   have f4:=TT (λt x v h=>by have:=Ob h;omega) j3
   have e1:(256:Nat) ^ 1=256:=Gp
   dsimp only at *
   omega
 have ls:IU s/\b12.length<=c4.length:=by
  unfold wpS at g5
  split at g5
  ·obtain⟨rfl,rfl⟩:=Prod.mk.inj (Option.some.inj g5);exact⟨U8,Nat.le_refl _⟩
  ·simp only[Option.map_eq_some_iff] at g5
   obtain⟨⟨o2,n2⟩,j1,j2⟩:=g5
   obtain⟨rfl,rfl⟩:=Prod.mk.inj j2
   exact⟨held_len (mstF_ok j1),La⟩
 have f1:=Ob h1
 have f2:=Ob h2
 have f3:=Ob h3
 have f4:=(F8 h4).2.2
 have f5:=(F8 h5).2.2
 have f6:=(F8 h6).2.2
 have f7:=(F8 h7).2.2
 have f8:=(F8 h8).2.2
 have f9:=Ob h9
 have f10:=(F8 h10).2.2
 have f11:=(F8 h11).2.2
 have f12:=Ob g1
 have f13:=Ob h13
 have f14:=TS Nb
 have f15:=TT went_dec Nb
 have f16:=FY h13
 have e4:(256:Nat) ^ 4=4294967296:=Gn
 try dsimp only at *
 exact⟨⟨lo.1,lo.2.1,lr.1,lg.1,ls.1,by dsimp only;omega,λe he=>ent_len (Xu (P:=Eo) (λt x v h=>went_ok h) Nb e he)⟩,by dsimp only;omega,by dsimp only;omega⟩
def At(b:List UInt8)(t:Nat)(L:List UInt8):Prop:=t<=b.length/\b.drop t=L
theorem At.zero(b:List UInt8):At b 0 b:=⟨Nat.zero_le _,rfl⟩
theorem At.len{b:List UInt8}{t:Nat}{L:List UInt8}(h:At b t L):t+L.length=b.length:=by
 have:=congrArg List.length h.2
 rw[List.length_drop] at this
 have:=h.1
 omega
end Go.Proofs.YtliacpkblicnhaaGreat
