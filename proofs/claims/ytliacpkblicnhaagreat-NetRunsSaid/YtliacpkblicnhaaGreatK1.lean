/- Texts of this claim, in one: what the law leans on (part 1). -/
import Derived.WalkKit
import Derived.Orders
import Derived.Maps.AppendAt
import Derived.OrdersHeld
import Derived.Deep.Quiet
import Derived.Test.YtliacpkblicnhaaGreatProg
import Derived.Laws.MakeOwn
import Derived.Laws.Slices
import Derived.Laws.CopyRow
import Derived.Maps.RangeRun
import Derived.Defers
import Derived.Recover
import Derived.Laws.LoneSync
import Derived.WideKeyRuns
import Derived.Laws.StructEq
import Derived.SizedLaws
import Derived.ChangeArms
import Derived.ChangeOld
import Derived.Below
import Derived.RowKit
set_option linter.unusedVariables false
set_option linter.unusedSimpArgs false
set_option maxRecDepth 100000
namespace Go.Sx
open Go
def look:List (Nat×Value)->Nat->Option Value
 |[],_=>none
 |(i,v)::r,j=>bif Nat.beq i j then some v else look r j
def ev(env:List (Nat×Value)):Operand->Option Value
 |.tmp t=>look env t
 |.const v=>some v
 |.global g=>some (.pointer (some ⟨g,0,none⟩))
 |.func f=>some (.func (.func f) #[] #[])
def evs(env:List (Nat×Value)):List Operand->Option (List Value)
 |[]=>some []
 |x::r=>match ev env x,evs env r with
  |some v,some vs=>some (v::vs)
  |_,_=>none
structure Env(n:Nat)(env:List (Nat×Value))(a:Act):Prop where
 size:a.tmps.size=n
 has:∀i v,look env i=some v->a.tmps[i]?=some v
theorem Env.eval{n:Nat}{env:List (Nat×Value)}{a:Act}(h:Env n env a){x:Operand}{v:Value}(hx:ev env x=some v):a.eval x=v:=by
 cases x with
 |tmp t=>simp only[ev] at hx;have:=h.has t v hx;simp[Act.eval,this]
 |const u=>simpa[ev,Act.eval] using hx
 |global g=>simpa[ev,Act.eval] using hx
 |func f=>simpa[ev,Act.eval] using hx
theorem Env.Wh{n:Nat}{env:List (Nat×Value)}{a:Act}(h:Env n env a):∀{xs:List Operand} {vs:List Value},evs env xs=some vs->xs.map a.eval=vs
 |[],vs,hx=>by simp only[evs,Option.some.injEq] at hx;subst hx;rfl
 |x::r,vs,hx=>by
  simp only[evs] at hx
  split at hx
  ·rename_i v ws h1 h2
   simp only[Option.some.injEq] at hx
   subst hx
   simp[h.eval h1,Env.Wh h h2]
  ·cases hx
theorem Env.put{n:Nat}{env:List (Nat×Value)}{a:Act}(h:Env n env a){d:Nat}(hd:Nat.blt d n=true)(v:Value):Env n ((d,v)::env) (a.put (some d) v) where
 size:=by simp[Act.put,h.size]
 has:=by
  intro i u hi
  have hdn:d<a.tmps.size:=by rw[h.size];exact Nat.le_of_ble_eq_true hd
  simp only[look] at hi
  by_cases hdi:d=i
  ·subst hdi
   simp only[Nat.beq_refl,cond_true,Option.some.injEq] at hi
   subst hi
   simp[Act.put,hdn]
  ·have:Nat.beq d i=false:=by
    cases hb:Nat.beq d i with
    |false=>rfl
    |true=>exact absurd (Nat.eq_of_beq_eq_true hb) hdi
   rw[this] at hi
   simp only[cond_false] at hi
   simp[Act.put,Array.getElem?_setIfInBounds_ne hdi,h.has i u hi]
theorem Env.over{n:Nat}{env:List (Nat×Value)}{a:Act}(h:Env n env a){d:Nat}{v:Value}(hd:look env d=some v):Env n ((d,v)::env) a where
 size:=h.size
 has:=by
  intro i u hi
  simp only[look] at hi
  cases hb:Nat.beq d i with
  |true =>
   have:=Nat.eq_of_beq_eq_true hb
   subst this
   rw[hb] at hi
   simp only[cond_true,Option.some.injEq] at hi
   subst hi
   exact h.has d v hd
  |false =>
   rw[hb] at hi
   exact h.has i u hi
def sub(env:List (Nat×Value)):List (Nat×Value)->Prop
 |[]=>True
 |(i,v)::r=>look env i=some v/\sub env r
theorem Env.sub{n:Nat}{env env':List (Nat×Value)}{a:Act}(h:Env n env a)(hs:sub env env'):Env n env' a where
 size:=h.size
 has:=by
  induction env' with
  |nil=>intro i v hi;cases hi
  |cons p r ih =>
   obtain⟨j,u⟩:=p
   obtain⟨h1,h2⟩:=hs
   intro i v hi
   simp only[look] at hi
   cases hb:Nat.beq j i with
   |true =>
    have:=Nat.eq_of_beq_eq_true hb
    subst this
    rw[hb] at hi
    simp only[cond_true,Option.some.injEq] at hi
    subst hi
    exact h.has j u h1
   |false =>
    rw[hb] at hi
    exact ih h2 i v hi
structure Nc(D:List Deferred)(n:Nat)(env:List (Nat×Value))(a:Act):Prop extends Env n env a where
 defers:a.defers=D
theorem Nc.put{D:List Deferred}{n:Nat}{env:List (Nat×Value)}{a:Act}(h:Nc D n env a){d:Nat}(hd:Nat.blt d n=true)(v:Value):Nc D n ((d,v)::env) (a.put (some d) v):=⟨h.toEnv.put hd v,h.defers⟩
theorem Nc.over{D:List Deferred}{n:Nat}{env:List (Nat×Value)}{a:Act}(h:Nc D n env a){d:Nat}{v:Value}(hd:look env d=some v):Nc D n ((d,v)::env) a:=⟨h.toEnv.over hd,h.defers⟩
theorem Nc.sub{D:List Deferred}{n:Nat}{env env':List (Nat×Value)}{a:Act}(h:Nc D n env a)(hs:Sx.sub env env'):Nc D n env' a:=⟨h.toEnv.sub hs,h.defers⟩
abbrev Blocks:=Nat->Prop
structure Fr(L:List Nat)(w w':World):Prop where
 os:w'.os=w.os
 tape:w'.tape=w.tape
 output:w'.output=w.output
 size:w.heap.size<=w'.heap.size
 block:∀k,k<w.heap.size->k ∉ L->w'.heap[k]?=w.heap[k]?
theorem Fr.refl(L:List Nat)(w:World):Fr L w w:=⟨rfl,rfl,rfl,Nat.le_refl _,λ_ _ _=>rfl⟩
theorem Fr.trans{L:List Nat}{a b c:World}(h:Fr L a b)(g:Fr L b c):Fr L a c :=
 ⟨g.os.trans h.os,g.tape.trans h.tape,g.output.trans h.output,Nat.le_trans h.size g.size,λk hk hn=>(g.block k (Nat.lt_of_lt_of_le hk h.size) hn).trans (h.block k hk hn)⟩
theorem Fr.below{w w':World}(h:Fr [] w w'):RowKit.Below w.heap.size w w':=⟨h.os,h.tape,h.output,h.size,λk hk=>h.block k hk (by simp)⟩
theorem Fr.mono{L M:List Nat}{w w':World}(h:Fr L w w')(hs:∀k,k∈L->k<w.heap.size->k∈M):Fr M w w' :=
 ⟨h.os,h.tape,h.output,h.size,λk hk hn=>h.block k hk (λhl=>hn (hs k hl hk))⟩
theorem Fr.drew(L:List Nat)(w:World):Fr L w w.drew:=⟨rfl,rfl,rfl,Nat.le_refl _,λ_ _ _=>rfl⟩
theorem Fr.alloc(L:List Nat)(w:World)(o:Obj):Fr L w (w.alloc o):=⟨rfl,rfl,rfl,by simp,λk hk _=>RowKit.Below.heap_alloc w o k hk⟩
structure D7 where
 h:World->Blocks->Prop
 st:∀{w w':World} {S S':Blocks},h w S->(∀k,S k->k<w.heap.size->S' k/\w'.heap[k]?=w.heap[k]?)->h w' S'
inductive Own where
 |blk (b:Nat) (o:Obj)
 |row (v:Value) (e:TypeId) (sz n:Nat) (cs:List Value)
 |gen (ks:List Nat) (h:World->Prop) (lt:∀w,h w->∀k∈ks,k<w.heap.size) (mv:∀w w',h w->(∀k∈ks,w'.heap[k]?=w.heap[k]?)->h w')
def Own.keys:Own->List Nat
 |.blk b _=>[b]
 |.row v _ _ _ _=>v.ownBlock.toList
 |.gen ks _ _ _=>ks
def Own.holds(w:World):Own->Prop
 |.blk b o=>w.heap[b]?=some o
 |.row v e sz n cs=>w.ownsRow 0 e sz v n cs
 |.gen _ h _ _=>h w
theorem Own.move{w w':World}{o:Own}(h:o.holds w)(hm:∀k,k∈o.keys->w'.heap[k]?=w.heap[k]?):o.holds w':=by
 cases o with
 |blk b x=>exact(hm b (by simp[Own.keys])).trans h
 |row v e sz n cs =>
  obtain⟨h1,h2⟩:=h
  refine⟨h1,?_⟩
  rcases h2 with h2|⟨g,cap,cur,rfl,hg,hh,r⟩
  ·exact .inl h2
  ·exact .inr ⟨g,cap,cur,rfl,hg,(hm g (by simp[Own.keys,Value.ownBlock])).trans hh,r⟩
 |gen ks p lt mv=>exact mv w w' h hm
theorem Own.lt{w:World}{o:Own}(h:o.holds w){k:Nat}(hk:k∈o.keys):k<w.heap.size:=by
 cases o with
 |blk b x =>
  simp only[Own.keys,List.mem_singleton] at hk
  subst hk
  exact(Array.getElem?_eq_some_iff.1 h).1
 |row v e sz n cs =>
  rcases h.2 with⟨rfl,_⟩|⟨g,cap,cur,rfl,_,hh,_⟩
  ·simp[Own.keys,Value.ownBlock] at hk
  ·simp only[Own.keys,Value.ownBlock,Option.toList_some,List.mem_singleton] at hk
   subst hk
   exact(Array.getElem?_eq_some_iff.1 hh).1
 |gen ks p lt mv=>exact lt w h k hk
def keysOf(G:List Own):List Nat:=G.flatMap Own.keys
theorem Gu{G:List Own}{k:Nat}:k∈keysOf G↔∃o∈G,k∈o.keys:=by simp[keysOf]
theorem V_{G G':List Own}(h:G'.Sublist G):(keysOf G').Sublist (keysOf G):=by
 induction h with
 |slnil=>exact List.Sublist.refl _
 |cons a _ ih=>exact ih.trans (List.sublist_append_right _ _)
 |cons_cons a _ ih=>exact List.Sublist.append (List.Sublist.refl _) ih
theorem exists_least{p:Nat->Prop}(h:∃n,p n):∃n,p n/\∀m,p m->n<=m:=by
 obtain⟨n,hn⟩:=h
 induction n using Nat.strongRecOn with
 |_ n ih =>
  by_cases hm:∃m,m<n/\p m
  ·obtain⟨m,hlt,hm⟩:=hm
   exact ih m hlt hm
  ·exact⟨n,hn,λm hp=>Nat.le_of_not_lt λhlt=>hm ⟨m,hlt,hp⟩⟩
structure Heap(S:Blocks)(G:List Own)(Q:List D7)(w:World):Prop where
 own:∀o∈G,o.holds w
 Oj:(keysOf G).Nodup
 out:∀k∈keysOf G,¬S k
 per:∀q∈Q,q.h w S
theorem Heap.lt{S:Blocks}{G:List Own}{Q:List D7}{w:World}(h:Heap S G Q w){k:Nat}(hk:k∈keysOf G):k<w.heap.size:=by
 obtain⟨o,ho,hk⟩:=Gu.1 hk
 exact Own.lt (h.own o ho) hk
theorem Heap.move{S:Blocks}{G:List Own}{Q:List D7}{w w':World}(h:Heap S G Q w)(hm:∀k,k<w.heap.size->(S k\/k∈keysOf G)->w'.heap[k]?=w.heap[k]?):Heap S G Q w' where
 own:=λo ho=>Own.move (h.own o ho) λk hk=>hm k (h.lt (Gu.2 ⟨o,ho,hk⟩)) (.inr (Gu.2 ⟨o,ho,hk⟩))
 Oj:=h.Oj
 out:=h.out
 per:=λq hq=>q.st (h.per q hq) λk hs hk=>⟨hs,hm k hk (.inl hs)⟩
theorem Heap.sub{S:Blocks}{G G':List Own}{Q Q':List D7}{w:World}(h:Heap S G Q w)(hG:G'.Sublist G)(hQ:∀q∈Q',q∈Q):Heap S G' Q' w where
 own:=λo ho=>h.own o (hG.subset ho)
 Oj:=(V_ hG).nodup h.Oj
 out:=λk hk=>h.out k (by
  obtain⟨o,ho,hk⟩:=Gu.1 hk
  exact Gu.2 ⟨o,hG.subset ho,hk⟩)
 per:=λq hq=>h.per q (hQ q hq)
theorem Heap.perm{S:Blocks}{G G':List Own}{Q:List D7}{w:World}(h:Heap S G Q w)(hG:G.Perm G'):Heap S G' Q w where
 own:=λo ho=>h.own o (hG.mem_iff.2 ho)
 Oj:=(List.Perm.flatMap_right Own.keys hG).nodup_iff.1 h.Oj
 out:=λk hk=>h.out k (by
  obtain⟨o,ho,hk⟩:=Gu.1 hk
  exact Gu.2 ⟨o,hG.mem_iff.2 ho,hk⟩)
 per:=h.per
theorem Heap.alloc{S:Blocks}{G:List Own}{Q:List D7}{w:World}(h:Heap S G Q w)(o:Obj) :
  Heap (λk=>S k/\k≠w.heap.size) (.blk w.heap.size o::G) Q (w.alloc o) where
 own:=by
  intro x hx
  rcases List.mem_cons.1 hx with rfl|hx
  ·exact heap_alloc_new w o
  ·exact Own.move (h.own x hx) λk hk=>RowKit.Below.heap_alloc w o k (Own.lt (h.own x hx) hk)
 Oj:=by
  show([w.heap.size]++keysOf G).Nodup
  refine List.nodup_cons.2 ⟨λhk=>?_,h.Oj⟩
  exact absurd (h.lt hk) (Nat.lt_irrefl _)
 out:=by
  intro k hk hs
  rcases List.mem_cons.1 (show k∈w.heap.size::keysOf G from hk) with rfl|hk
  ·exact hs.2 rfl
  ·exact h.out k hk hs.1
 per:=λq hq=>q.st (h.per q hq) λk hs hk=>⟨⟨hs,Nat.ne_of_lt hk⟩,RowKit.Below.heap_alloc w o k hk⟩
structure Cx where
 w0:World
 S0:Blocks
 L0:List Nat
 D:List Deferred:=[]
structure Rel(c:Cx)(S:Blocks)(G:List Own)(w:World):Prop where
 fr:Fr c.L0 c.w0 w
 old:∀k,k<c.w0.heap.size->k ∉ c.L0->(S k↔c.S0 k)
 key:∀k,k∈keysOf G->k∈c.L0\/c.w0.heap.size<=k
def St(c:Cx)(n:Nat)(env:List (Nat×Value))(G:List Own)(Q:List D7)(a:Act)(w:World):Prop :=
 ∃S,Nc c.D n env a/\Heap S G Q w/\Rel c S G w
abbrev Gz:=Act->World->Prop
def Tr(P:Program)(o:Oper)(A B:Gz):Prop:=∀a w,A a w->∀(K:Gz) (Q:Exit->Gz),(∀a' w',B a' w'->K a' w')->o.wp P a w K Q
theorem Tr.mono{P:Program}{o:Oper}{A A' B B':Gz}(h:Tr P o A B)(hA:∀a w,A' a w->A a w)(hB:∀a w,B a w->B' a w):Tr P o A' B' :=
 λa w ha K Q hk=>h a w (hA a w ha) K Q λa' w' hb=>hk a' w' (hB a' w' hb)
def GL(P:Program)(ops:Array Oper)(Q:Exit->Gz)(l:List Oper)(A:Gz):Prop:=∀a w,A a w->wpList P ops Q l a w
def GC(P:Program)(Q:Exit->Gz)(x:Code)(A:Gz):Prop:=∀a w,A a w->x.wp P Q a w
end Go.Sx
namespace Go.Sx
open Go
section
variable {P:Program}{ops:Array Oper}{Q:Exit->Gz}{A B:Gz}{o:Oper}{rest:List Oper}
theorem GL.step(hg:o.guard=none)(h:Tr P o A B)(k:GL P ops Q rest B):GL P ops Q (o::rest) A :=
 λa w ha=>wpList_plain hg λK hK=>h a w ha K Q λa' w' hb=>hK a' w' (k a' w' hb)
theorem Ac(h:∀a w,A a w->Q .normal a w):GL P ops Q [] A:=λa w ha=>wpList_nil (h a w ha)
theorem GL.imp(h:∀a w,A a w->B a w)(k:GL P ops Q rest B):GL P ops Q rest A:=λa w ha=>k a w (h a w ha)
theorem Aa{α:Type}{F:α->Gz}(k:∀x,GL P ops Q rest (F x)):GL P ops Q rest (λa w=>∃x,F x a w):=λa w ⟨x,hx⟩=>k x a w hx
theorem GC.imp{x:Code}(h:∀a w,A a w->B a w)(k:GC P Q x B):GC P Q x A:=λa w ha=>k a w (h a w ha)
theorem BQ{α:Type}{F:α->Gz}{x:Code}(k:∀y,GC P Q x (F y)):GC P Q x (λa w=>∃y,F y a w):=λa w ⟨y,hy⟩=>k y a w hy
theorem GC.seq{x y:Code}{M:Gz}(hx:GC P (Exit.then M Q) x A)(hy:GC P Q y M):GC P Q (.seq x y) A:=λa w ha =>
 wp_seq_k λK hK=>Code.wp_mono (λe a w h=>by cases e<;>first|exact hK _ _ (hy _ _ h)|exact h) (hx a w ha)
theorem AB{x y:Code}(h:GC P (Exit.then (λa w=>y.wp P Q a w) Q) x A):GC P Q (.seq x y) A:=λa w ha=>wp_seq (h a w ha)
theorem GC.block{id:Nat}{x:Code}(h:GC P (Exit.inBlock id Q) x A):GC P Q (.block id x) A:=λa w ha=>wp_block (h a w ha)
theorem GC.skip(h:∀a w,A a w->Q .normal a w):GC P Q .skip A:=λa w ha=>wp_skip (h a w ha)
theorem GC.exit{id:Nat}(h:∀a w,A a w->Q (.exit id) a w):GC P Q (.exit id) A:=λa w ha=>wp_exit (h a w ha)
theorem GC.ret(h:∀a w,A a w->Q .ret a w):GC P Q .ret A:=λa w ha=>wp_ret (h a w ha)
theorem GC.region{id:Nat}{l:List Oper}(h:GL P l.toArray Q l A):GC P Q (.region id l.toArray false) A:=λa w ha=>wp_region_lit (h a w ha)
theorem GC.loop{α:Type}{x:Code}(I:α->Gz)(μ:α->Nat)(y:α)
  (h:∀y,GC P (Exit.then (λa w=>∃z,μ z<μ y/\I z a w) Q) x (I y)):GC P Q (.loop x) (I y):=by
 intro a w ha
 let J:Gz:=λa w=>∃y,I y a w
 let p:Act->World->Nat->Prop:=λa w n=>∃y,μ y=n/\I y a w
 have least:∀a w,J a w->∃n,p a w n/\∀m,p a w m->n<=m:=λa w ⟨y,hy⟩=>exists_least ⟨_,y,rfl,hy⟩
 let m:Act->World->Nat:=λa w=>open Classical in if hx:J a w then Classical.choose (least a w hx) else 0
 have mspec:∀a w (hx:J a w),p a w (m a w)/\∀k,p a w k->m a w<=k:=λa w hx=>by
  have:=Classical.choose_spec (least a w hx)
  simp only[m]
  rw[dif_pos hx]
  exact this
 refine wp_loop J m ⟨y,ha⟩ ?_
 intro a w hJ
 obtain⟨⟨y1,hm,hy1⟩,_⟩:=mspec a w hJ
 refine Code.wp_mono (λe a' w' hq=>?_) (h y1 a w hy1)
 cases e with
 |normal =>
  obtain⟨z,hz,hI⟩:=hq
  refine⟨⟨z,hI⟩,?_⟩
  rw[<-hm]
  exact Nat.lt_of_le_of_lt ((mspec a' w' ⟨z,hI⟩).2 _ ⟨z,rfl,hI⟩) hz
 |_=>exact hq
end
end Go.Sx
namespace Go.Sx
open Go
theorem add_zero(a:Addr):a.add 0=a:=by simp[Addr.add]
theorem add_lit(b o j:Nat):(⟨b,o,none⟩:Addr).add j=⟨b,o+j,none⟩:=by unfold Addr.add;split<;>simp_all
theorem add_add(a:Addr)(i j:Nat):(a.add i).add j=a.add (i+j):=by
 unfold Addr.add
 by_cases hi:i=0<;>by_cases hj:j=0<;>simp[hi,hj,Nat.add_assoc]
theorem add_block(a:Addr)(j:Nat):(a.add j).block=a.block:=by unfold Addr.add;split<;>rfl
def Il(w:World)(a:Addr)(cs:List Value):Prop:=∀j u,cs[j]?=some u->w.cell? (a.add j)=some u
theorem DN(w:World)(a:Addr):Il w a []:=λj u h=>by simp at h
theorem Il.move{w w':World}{a:Addr}{cs:List Value}(h:Il w a cs)(hb:w'.heap[a.block]?=w.heap[a.block]?):Il w' a cs:=λj u hj =>
 (World.cell?_of_block (w:=w) (by rw[add_block];exact hb)).trans (h j u hj)
def nth:List Value->Nat->Option Value
 |[],_=>none
 |x::_,0=>some x
 |_::r,n+1=>nth r n
theorem JG:∀(l:List Value) (n:Nat),nth l n=l[n]?
 |[],n=>by simp[nth]
 |x::r,0=>rfl
 |x::r,n+1=>by simp[nth,JG r n]
def at_(l:List Value):Nat->List Value->Prop
 |_,[]=>True
 |o,v::vs=>nth l o=some v/\at_ l (o+1) vs
theorem ZB{l:List Value}:∀{vs:List Value} {o:Nat},at_ l o vs->∀j u,vs[j]?=some u->l[o+j]?=some u
 |[],o,_,j,u,hj=>by simp at hj
 |v::vs,o,h,0,u,hj=>by simp at hj;subst hj;rw[Nat.add_zero,<-JG];exact h.1
 |v::vs,o,h,j+1,u,hj=>by
  have:=ZB h.2 j u (by simpa using hj)
  rwa [show o+1+j=o+(j+1) by omega] at this
def upd:List Value->Nat->List Value->Option (List Value)
 |l,0,[]=>some l
 |[],0,_::_=>none
 |_::r,0,v::vs=>(upd r 0 vs).map (v :: ·)
 |[],_+1,_=>none
 |x::r,o+1,vs=>(upd r o vs).map (x :: ·)
theorem VG:∀{l:List Value} {o:Nat} {vs l':List Value},upd l o vs=some l'->l'=l.take o++vs++l.drop (o+vs.length)/\o+vs.length<=l.length
 |l,0,[],l',h=>by
  have:some l=some l':=by cases l<;>simpa[upd] using h
  simp at this
  subst this
  simp
 |[],0,v::vs,l',h=>by simp[upd] at h
 |x::r,0,v::vs,l',h=>by
  simp only[upd,Option.map_eq_some_iff] at h
  obtain⟨m,hm,rfl⟩:=h
  obtain⟨rfl,hl⟩:=VG hm
  simp at hl ⊢
  omega
 |[],o+1,vs,l',h=>by simp[upd] at h
 |x::r,o+1,vs,l',h=>by
  simp only[upd,Option.map_eq_some_iff] at h
  obtain⟨m,hm,rfl⟩:=h
  obtain⟨rfl,hl⟩:=VG hm
  have e:o+1+vs.length=o+vs.length+1:=by omega
  simp only[e,List.take_succ_cons,List.drop_succ_cons,List.cons_append,List.length_cons]
  exact⟨trivial,by omega⟩
def QC:List Value->Bool
 |[]=>true
 |v::r=>v.oneCell' && QC r
theorem EX{l:List Value}(h:QC l=true):∀u∈l,u.oneCell'=true:=by
 induction l with
 |nil=>simp
 |cons v r ih =>
  simp only[QC,Bool.and_eq_true] at h
  intro u hu
  rcases List.mem_cons.1 hu with rfl|hu
  ·exact h.1
  ·exact ih h.2 u hu
structure Kd(α:Type) where
 Y:Type
 sz:Nat
 cells:α->Y->List Value
 ok:α->Y->Prop
 pers:α->Y->List D7
 len:∀x y,(cells x y).length=sz
 one:∀x y,∀u∈cells x y,u.oneCell'=true
def Kd.K{α:Type}(d:Kd α)(w:World)(S:Blocks)(x:α)(cs:List Value):Prop:=∃y,d.ok x y/\cs=d.cells x y/\∀q∈d.pers x y,q.h w S
theorem DK{α:Type}{d:Kd α}{w:World}{S:Blocks}{x:α}{cs:List Value}(h:d.K w S x cs):cs.length=d.sz:=by
 obtain⟨y,_,rfl,_⟩:=h;exact d.len x y
theorem Kd.K_one{α:Type}{d:Kd α}{w:World}{S:Blocks}{x:α}{cs:List Value}(h:d.K w S x cs):∀u∈cs,u.oneCell'=true:=by
 obtain⟨y,_,rfl,_⟩:=h;exact d.one x y
theorem Dx{α:Type}{d:Kd α}{w w':World}{S S':Blocks}{x:α}{cs:List Value}(h:d.K w S x cs)(hm:∀k,S k->k<w.heap.size->S' k/\w'.heap[k]?=w.heap[k]?):d.K w' S' x cs:=by
 obtain⟨y,h1,h2,h3⟩:=h
 exact⟨y,h1,h2,λq hq=>q.st (h3 q hq) hm⟩
def D7.at(a:Addr)(cs:List Value):D7 where
 h:=λw S=>S a.block/\a.block<w.heap.size/\Il w a cs
 st:=fun⟨h1,h2,h3⟩ hm=>⟨(hm _ h1 h2).1,by
  have:=(hm _ h1 h2).2
  rename_i w w' S S'
  rw[Array.getElem?_eq_getElem h2] at this
  exact(Array.getElem?_eq_some_iff.1 this).1,h3.move (hm _ h1 h2).2⟩
def RowAt{α:Type}(d:Kd α)(w:World)(S:Blocks)(a:Addr)(xs:List α):Prop :=
 S a.block/\a.block<w.heap.size/\∀i x,xs[i]?=some x->∃cs,d.K w S x cs/\Il w (a.add (i * d.sz)) cs
def D7.row{α:Type}(d:Kd α)(A:Option Addr)(xs:List α):D7 where
 h:=λw S=>xs=[]\/∃a,A=some a/\RowAt d w S a xs
 st:=by
  intro w w' S S' h hm
  rcases h with h|⟨a,ha,h1,h2,h3⟩
  ·exact .inl h
  ·have hb:=hm _ h1 h2
   refine .inr ⟨a,ha,hb.1,?_,λi x hx=>?_⟩
   ·have:=hb.2
    rw[Array.getElem?_eq_getElem h2] at this
    exact(Array.getElem?_eq_some_iff.1 this).1
   ·obtain⟨cs,hk,hc⟩:=h3 i x hx
    exact⟨cs,Dx hk hm,hc.move (by rw[add_block];exact hb.2)⟩
def DI{α:Type}(enc:α->Value)(h1:∀x,(enc x).oneCell'=true):Kd α where
 Y:=Unit
 sz:=1
 cells:=λx _=>[enc x]
 ok:=λ_ _=>True
 pers:=λ_ _=>[]
 len:=λ_ _=>rfl
 one:=λx _ u hu=>by rw[List.mem_singleton.1 hu];exact h1 x
def Kd.int(k:IntKind):Kd Int:=DI (Value.int k) (λ_=>rfl)
def Kd.bool:Kd Bool:=DI Value.bool (λ_=>rfl)
def Kd.u8:Kd UInt8:=DI (λb=>Value.int .u8 (b.toNat:Int)) (λ_=>rfl)
def Kd.slice{α:Type}(d:Kd α):Kd (List α) where
 Y:=Option Addr×Nat
 sz:=1
 cells:=λxs y=>[.slice y.1 xs.length y.2]
 ok:=λxs y=>xs.length<=y.2/\y.2<=9223372036854775807
 pers:=λxs y=>[D7.row d y.1 xs]
 len:=λ_ _=>rfl
 one:=λx y u hu=>by rw[List.mem_singleton.1 hu];rfl
def BU{α β:Type}(a:Kd α)(b:Kd β):Kd (α×β) where
 Y:=a.Y×b.Y
 sz:=a.sz+b.sz
 cells:=λx y=>a.cells x.1 y.1++b.cells x.2 y.2
 ok:=λx y=>a.ok x.1 y.1/\b.ok x.2 y.2
 pers:=λx y=>a.pers x.1 y.1++b.pers x.2 y.2
 len:=λx y=>by rw[List.length_append,a.len,b.len]
 one:=λx y u hu=>by
  rcases List.mem_append.1 hu with hu|hu
  ·exact a.one x.1 y.1 u hu
  ·exact b.one x.2 y.2 u hu
def Cj{α β:Type}(d:Kd α)(f:β->α):Kd β where
 Y:=d.Y
 sz:=d.sz
 cells:=λx y=>d.cells (f x) y
 ok:=λx y=>d.ok (f x) y
 pers:=λx y=>d.pers (f x) y
 len:=λx y=>d.len (f x) y
 one:=λx y=>d.one (f x) y
def JO{α:Type}(d:Kd α)(w:World)(S:Blocks):List α->List Value->Prop
 |[],cs=>cs=[]
 |x::r,cs=>∃c t,cs=c++t/\d.K w S x c/\JO d w S r t
theorem JO.st{α:Type}{d:Kd α}{w w':World}{S S':Blocks}(hm:∀k,S k->k<w.heap.size->S' k/\w'.heap[k]?=w.heap[k]?):∀{xs:List α} {cs:List Value},JO d w S xs cs->JO d w' S' xs cs
 |[],_,h=>h
 |_::_,_,⟨c,t,e,hk,h⟩=>⟨c,t,e,Dx hk hm,JO.st hm h⟩
theorem JO.length{α:Type}{d:Kd α}{w:World}{S:Blocks}:∀{xs:List α} {cs:List Value},JO d w S xs cs->cs.length=xs.length * d.sz
 |[],_,h=>by simp only[JO] at h;subst h;simp
 |_::_,_,⟨c,t,e,hk,h⟩=>by subst e;rw[List.length_append,DK hk,h.length,List.length_cons,Nat.add_mul,Nat.one_mul,Nat.add_comm]
theorem JO.one{α:Type}{d:Kd α}{w:World}{S:Blocks}:∀{xs:List α} {cs:List Value},JO d w S xs cs->∀u∈cs,u.oneCell'=true
 |[],_,h=>by simp only[JO] at h;subst h;simp
 |_::_,_,⟨c,t,e,hk,h⟩=>by
  subst e
  intro u hu
  rcases List.mem_append.1 hu with hu|hu
  ·exact Kd.K_one hk u hu
  ·exact h.one u hu
theorem JO.append{α:Type}{d:Kd α}{w:World}{S:Blocks}{ys:List α}{ds:List Value}(h2:JO d w S ys ds):∀{xs:List α} {cs:List Value},JO d w S xs cs->JO d w S (xs++ys) (cs++ds)
 |[],_,h=>by simp only[JO] at h;subst h;simpa using h2
 |_::_,_,⟨c,t,e,hk,h⟩=>⟨c,t++ds,by rw[e,List.append_assoc],hk,JO.append h2 h⟩
theorem JO.single{α:Type}{d:Kd α}{w:World}{S:Blocks}{x:α}{cs:List Value}(h:d.K w S x cs):JO d w S [x] cs:=⟨cs,[],by simp,h,rfl⟩
theorem JO.get{α:Type}{d:Kd α}{w:World}{S:Blocks}:∀{xs:List α} {cs:List Value},JO d w S xs cs->∀{i:Nat} {x:α},xs[i]?=some x->∃c,d.K w S x c/\∀j u,c[j]?=some u->cs[i * d.sz+j]?=some u
 |[],_,_,i,x,hx=>by simp at hx
 |y::r,_,⟨c,t,e,hk,h⟩,0,x,hx=>by
  simp at hx;subst hx;subst e
  refine⟨c,hk,λj u hj=>?_⟩
  rw[Nat.zero_mul,Nat.zero_add,List.getElem?_append_left (by rw[List.getElem?_eq_some_iff] at hj;exact hj.1)]
  exact hj
 |y::r,_,⟨c,t,e,hk,h⟩,i+1,x,hx=>by
  obtain⟨c',hk',h'⟩:=JO.get h (i:=i) (x:=x) (by simpa using hx)
  subst e
  refine⟨c',hk',λj u hj=>?_⟩
  rw[List.getElem?_append_right (by rw[DK hk];rw[Nat.add_mul];omega),DK hk,show(i+1) * d.sz+j - d.sz=i * d.sz+j by rw[Nat.add_mul];omega]
  exact h' j u hj
def A_{α:Type}(d:Kd α)(xs:List α)(cs:List Value):D7 where
 h:=λw S=>JO d w S xs cs
 st:=λh hm=>JO.st hm h
def D7.k{α:Type}(d:Kd α)(x:α)(cs:List Value):D7 where
 h:=λw S=>d.K w S x cs
 st:=λh hm=>Dx h hm
abbrev Own.cells(b:Nat)(l:List Value)(e:TypeId):Own:=.blk b (.cells l.toArray e (0,0))
theorem Jj{w:World}{b:Nat}{l:List Value}{e:TypeId}{f:Nat×Nat}(h:w.heap[b]?=some (.cells l.toArray e f)){o:Nat}{vs:List Value}(hv:∀j u,vs[j]?=some u->l[o+j]?=some u):Il w ⟨b,o,none⟩ vs:=by
 intro j u hj
 rw[add_lit]
 simp[World.cell?,h,hv j u hj]
theorem LV{α:Type}{enc:α->Value}{h1:∀x,(enc x).oneCell'=true}{w:World}{S:Blocks}:∀(xs:List α),JO (DI enc h1) w S xs (xs.map enc)
 |[]=>rfl
 |x::r=>⟨[enc x],r.map enc,rfl,⟨(),trivial,rfl,λq hq=>by cases hq⟩,LV r⟩
theorem Qv{α:Type}{enc:α->Value}{h1:∀x,(enc x).oneCell'=true}{w:World}{S:Blocks}{A:Option Addr}{xs:List α}(h:(D7.row (DI enc h1) A xs).h w S) :
  xs=[]\/∃a,A=some a/\S a.block/\a.block<w.heap.size/\Il w a (xs.map enc):=by
 rcases h with h|⟨a,ha,h1,h2,h3⟩
 ·exact .inl h
 ·refine .inr ⟨a,ha,h1,h2,λj u hj=>?_⟩
  simp only[List.getElem?_map,Option.map_eq_some_iff] at hj
  obtain⟨x,hx,rfl⟩:=hj
  obtain⟨cs,⟨_,_,rfl,_⟩,hc⟩:=h3 j x hx
  have:=hc 0 (enc x) rfl
  rw[add_add] at this
  simpa[DI] using this
theorem rowAt_of{α:Type}{d:Kd α}{w:World}{S:Blocks}{xs:List α}{cs:List Value}{a:Addr}(hr:JO d w S xs cs)(hS:S a.block)(hb:a.block<w.heap.size)(hc:Il w a cs):RowAt d w S a xs :=
 ⟨hS,hb,λi x hx=>by
  obtain⟨c,hk,h⟩:=hr.get hx
  exact⟨c,hk,λj u hj=>by rw[add_add];exact hc _ _ (h j u hj)⟩⟩
end Go.Sx
namespace Go.Sx
open Go
section
variable {P:Program}{c:Cx}{n:Nat}{env:List (Nat×Value)}{G:List Own}{Q:List D7}{d:Nat}{ty:TypeId}{pos:String}{Ew:Array Edge}{g:Option (Nat×Bool)}
def Pv(P:Program)(n:Nat)(env:List (Nat×Value))(o:Oper)(v:Value):Prop:=∀a w,Env n env a->(execOp a.eval o).run P w=.ok (.value v) w
theorem Tr.val{op:Op}{v:Value}(hd:Nat.blt d n=true)(h:Pv P n env ⟨some d,op,ty,pos,Ew,g⟩ v) :
  Tr P ⟨some d,op,ty,pos,Ew,g⟩ (St c n env G Q) (St c n ((d,v)::env) G Q):=by
 rintro a w ⟨S,he,hh,hr⟩ K Q' hk
 unfold Oper.wp
 rw[h a w he.toEnv]
 exact hk _ _ ⟨S,he.put hd v,hh,hr⟩
theorem AO{ops rest:_}{R:Exit->Gz}{op:Op}{v:Value}(hd:Nat.blt d n=true)(h:Pv P n env ⟨some d,op,ty,pos,Ew,none⟩ v)(k:GL P ops R rest (St c n ((d,v)::env) G Q)):GL P ops R (⟨some d,op,ty,pos,Ew,none⟩::rest) (St c n env G Q):=GL.step rfl (Tr.val hd h) k
theorem Fe{x:Operand}{v:Value}(hx:ev env x=some v):Pv P n env ⟨some d,.move x,ty,pos,Ew,g⟩ (v) :=
 λa w he=>by simp[execOp,he.eval hx]
theorem Po{x:Operand}{v:Value}(hx:ev env x=some v):Pv P n env ⟨some d,.assign x,ty,pos,Ew,g⟩ (v) :=
 λa w he=>by simp[execOp,he.eval hx]
end
end Go.Sx
namespace Go.Sx
open Go
theorem GL.mv_{P:Program}{c:Cx}{n:Nat}{env:List (Nat×Value)}{G:List Own}{Q:List D7}{d:Nat}{ty:TypeId}{pos:String}{Ew:Array Edge}{x:Operand}{ops:Array Oper}{R:Exit->Gz}{rest:List Oper}{v:Value}(hd:Nat.blt d n=true)(hx:ev env x=some v)(k:GL P ops R rest (St c n ((d,v)::env) G Q)):GL P ops R (⟨some d,.move x,ty,pos,Ew,none⟩::rest) (St c n env G Q):=AO hd (Fe hx) k
theorem GL.as_{P:Program}{c:Cx}{n:Nat}{env:List (Nat×Value)}{G:List Own}{Q:List D7}{d:Nat}{ty:TypeId}{pos:String}{Ew:Array Edge}{x:Operand}{ops:Array Oper}{R:Exit->Gz}{rest:List Oper}{v:Value}(hd:Nat.blt d n=true)(hx:ev env x=some v)(k:GL P ops R rest (St c n ((d,v)::env) G Q)):GL P ops R (⟨some d,.assign x,ty,pos,Ew,none⟩::rest) (St c n env G Q):=AO hd (Po hx) k
theorem AX{P:Program}{Q:Exit->Gz}{A:Gz}{id:Nat}{l:List Oper}{y:Code}(h:GL P l.toArray (Exit.then (λa w=>y.wp P Q a w) Q) l A):GC P Q (.seq (.region id l.toArray false) y) A:=AB (GC.region h)
theorem Ap{P:Program}{Q:Exit->Gz}{A:Gz}{ops:Array Oper}{y:Code}(h:GC P Q y A):GL P ops (Exit.then (λa w=>y.wp P Q a w) Q) [] A:=Ac h
end Go.Sx
namespace Go.Sx
open Go
section
variable {P:Program}{c:Cx}{n:Nat}{env:List (Nat×Value)}{G:List Own}{Q:List D7}{d:Nat}{ty:TypeId}{pos:String}{Ew:Array Edge}{g:Option (Nat×Bool)}
theorem Z7{x y z:Operand}{v:Value}(hx:ev env x=some (.bool true))(hy:ev env y=some v):Pv P n env ⟨some d,.pick x y z,ty,pos,Ew,g⟩ (v) :=
 λa w he=>by simp[execOp,he.eval hx,he.eval hy,asBool]
theorem YW{x y z:Operand}{v:Value}(hx:ev env x=some (.bool false))(hz:ev env z=some v):Pv P n env ⟨some d,.pick x y z,ty,pos,Ew,g⟩ (v) :=
 λa w he=>by simp[execOp,he.eval hx,he.eval hz,asBool]
theorem ku{x:Operand}{b:Bool}{t:TypeId}(hx:ev env x=some (.bool b)):Pv P n env ⟨some d,.unOp .not t x,ty,pos,Ew,g⟩ (.bool (!b)) :=
 λa w he=>by simp[execOp,he.eval hx,Op.unary]
theorem LC{x:Operand}{vs:List Value}{i:Nat}{v:Value}(hx:ev env x=some (.tuple vs.toArray))(hi:nth vs i=some v):Pv P n env ⟨some d,.extract x i,ty,pos,Ew,g⟩ (v) :=
 λa w he=>by rw[JG] at hi;simp[execOp,he.eval hx,Instr.extract,hi]
theorem Fb{x:Operand}{p:Addr}(hx:ev env x=some (.pointer (some p))):Pv P n env ⟨some d,.nilCheck x,ty,pos,Ew,g⟩ (.pointer (some p)) :=
 λa w he=>by simp[execOp,he.eval hx]
theorem J5{fn:Fn}{first captured:List Operand}{vs us:List Value}(h1:evs env first=some vs)(h2:evs env captured=some us):Pv P n env ⟨some d,.makeFunc fn first.toArray captured.toArray,ty,pos,Ew,g⟩ (.func fn vs.toArray us.toArray) :=
 λa w he=>by simp[execOp,Instr.makeFunc,he.Wh h1,he.Wh h2]
theorem ibeq(m l:Int):(m == l)=decide (m=l):=by rw[Bool.eq_iff_iff];simp
theorem ibne(m l:Int):(m != l)=decide (m≠l):=by rw[Bool.eq_iff_iff];simp
theorem QB{op:BinOp}{t:TypeId}{x y:Operand}{k:IntKind}{m:Int}{v:Value}(w:World):(eqGuard op t x y (.int k m) v).run P w=.ok () w:=by
 unfold eqGuard
 cases op<;>simp
theorem SK{op:BinOp}{t:TypeId}{x y:Operand}{b:Bool}{v:Value}(w:World):(eqGuard op t x y (.bool b) v).run P w=.ok () w:=by
 unfold eqGuard
 cases op<;>simp
theorem QA{op:BinOp}{t:TypeId}{x y:Operand}{b:ByteArray}{v:Value}(w:World):(eqGuard op t x y (.string b) v).run P w=.ok () w:=by
 unfold eqGuard
 cases op<;>simp
theorem O_{op:BinOp}{t:TypeId}{x y:Operand}{b:Option Addr}{v:Value}(w:World):(eqGuard op t x y (.pointer b) v).run P w=.ok () w:=by
 unfold eqGuard
 cases op<;>simp
theorem Qp{op:BinOp}{t:TypeId}{x y:Operand}{b:Option Addr}{l m:Nat}{v:Value}(w:World):(eqGuard op t x y (.slice b l m) v).run P w=.ok () w:=by
 unfold eqGuard
 cases op<;>simp
end
end Go.Sx
namespace Go.Sx
open Go
section
variable {P:Program}{c:Cx}{n:Nat}{env:List (Nat×Value)}{G:List Own}{Q:List D7}{d:Nat}{ty:TypeId}{pos:String}{Ew:Array Edge}{g:Option (Nat×Bool)}
section
variable {x y:Operand}{k:IntKind}{m l:Int}{t u:TypeId}
theorem CX{op:BinOp}{v:Value}(hx:ev env x=some (.int k m))(hy:ev env y=some (.int k l))(h:∀w,(binOp op t (.int k m) (.int k l)).run P w=.ok v w) :
  Pv P n env ⟨some d,.binOp op t x y u,ty,pos,Ew,g⟩ v :=
 λa w he=>by simp only[execOp,he.eval hx,he.eval hy,Sem.run_bind,QB,Result.andThen_ok,h,Sem.run_pure]
theorem EU(hx:ev env x=some (.int k m))(hy:ev env y=some (.int k l))(hr:k.wrap (m+l)=m+l):Pv P n env ⟨some d,.binOp .add t x y u,ty,pos,Ew,g⟩ (.int k (m+l)) :=
 CX hx hy λw=>by simp[binOp,Op.intArith,hr]
theorem Jv(hx:ev env x=some (.int k m))(hy:ev env y=some (.int k l))(hr:k.wrap (m - l)=m - l):Pv P n env ⟨some d,.binOp .sub t x y u,ty,pos,Ew,g⟩ (.int k (m - l)) :=
 CX hx hy λw=>by simp[binOp,Op.intArith,hr]
theorem Vr(hx:ev env x=some (.int k m))(hy:ev env y=some (.int k l))(hr:k.wrap (m * l)=m * l):Pv P n env ⟨some d,.binOp .mul t x y u,ty,pos,Ew,g⟩ (.int k (m * l)) :=
 CX hx hy λw=>by simp[binOp,Op.intArith,hr]
theorem p_addw(hx:ev env x=some (.int k m))(hy:ev env y=some (.int k l)):Pv P n env ⟨some d,.binOp .add t x y u,ty,pos,Ew,g⟩ (.int k (k.wrap (m+l))) :=
 CX hx hy λw=>by simp[binOp,Op.intArith]
theorem O8{r:Int}(hx:ev env x=some (.int k m))(hy:ev env y=some (.int k l))(h0:l≠0)(hr:k.wrap (m.tdiv l)=r):Pv P n env ⟨some d,.binOp .quo t x y u,ty,pos,Ew,g⟩ (.int k r) :=
 CX hx hy λw=>by simp[binOp,Op.intDiv,h0,hr]
theorem Pn{r:Int}(hx:ev env x=some (.int k m))(hy:ev env y=some (.int k l))(h0:l≠0)(hr:m.tmod l=r):Pv P n env ⟨some d,.binOp .rem t x y u,ty,pos,Ew,g⟩ (.int k r) :=
 CX hx hy λw=>by simp[binOp,Op.intDiv,h0,hr]
theorem p_and(hx:ev env x=some (.int k m))(hy:ev env y=some (.int k l)):Pv P n env ⟨some d,.binOp .and t x y u,ty,pos,Ew,g⟩ (.int k (k.wrap ((BitVec.ofInt k.bits m &&& BitVec.ofInt k.bits l).toNat:Int))) :=
 CX hx hy λw=>by simp[binOp,Op.intBits]
theorem p_or(hx:ev env x=some (.int k m))(hy:ev env y=some (.int k l)):Pv P n env ⟨some d,.binOp .or t x y u,ty,pos,Ew,g⟩ (.int k (k.wrap ((BitVec.ofInt k.bits m ||| BitVec.ofInt k.bits l).toNat:Int))) :=
 CX hx hy λw=>by simp[binOp,Op.intBits]
theorem p_xor(hx:ev env x=some (.int k m))(hy:ev env y=some (.int k l)):Pv P n env ⟨some d,.binOp .xor t x y u,ty,pos,Ew,g⟩ (.int k (k.wrap ((BitVec.ofInt k.bits m ^^^ BitVec.ofInt k.bits l).toNat:Int))) :=
 CX hx hy λw=>by simp[binOp,Op.intBits]
theorem p_eql(hx:ev env x=some (.int k m))(hy:ev env y=some (.int k l)):Pv P n env ⟨some d,.binOp .eql t x y u,ty,pos,Ew,g⟩ (.bool (decide (m=l))) :=
 CX hx hy λw=>by simp only[binOp,Op.intCmp,ne_eq,not_true_eq_false,if_false,ibeq,Sem.run_pure]
theorem lC(hx:ev env x=some (.int k m))(hy:ev env y=some (.int k l)):Pv P n env ⟨some d,.binOp .neq t x y u,ty,pos,Ew,g⟩ (.bool (decide (m≠l))) :=
 CX hx hy λw=>by simp only[binOp,Op.intCmp,ne_eq,not_true_eq_false,if_false,ibne,Sem.run_pure]
theorem p_lss(hx:ev env x=some (.int k m))(hy:ev env y=some (.int k l)):Pv P n env ⟨some d,.binOp .lss t x y u,ty,pos,Ew,g⟩ (.bool (decide (m<l))) :=
 CX hx hy λw=>by simp[binOp,Op.intCmp]
theorem p_leq(hx:ev env x=some (.int k m))(hy:ev env y=some (.int k l)):Pv P n env ⟨some d,.binOp .leq t x y u,ty,pos,Ew,g⟩ (.bool (decide (m<=l))) :=
 CX hx hy λw=>by simp[binOp,Op.intCmp]
theorem p_gtr(hx:ev env x=some (.int k m))(hy:ev env y=some (.int k l)):Pv P n env ⟨some d,.binOp .gtr t x y u,ty,pos,Ew,g⟩ (.bool (decide (m > l))) :=
 CX hx hy λw=>by simp[binOp,Op.intCmp]
theorem p_geq(hx:ev env x=some (.int k m))(hy:ev env y=some (.int k l)):Pv P n env ⟨some d,.binOp .geq t x y u,ty,pos,Ew,g⟩ (.bool (decide (m>=l))) :=
 CX hx hy λw=>by simp[binOp,Op.intCmp]
theorem p_shl{yk:IntKind}(hx:ev env x=some (.int k m))(hy:ev env y=some (.int yk l))(h0:0<=l):Pv P n env ⟨some d,.binOp .shl t x y u,ty,pos,Ew,g⟩ (.int k (k.wrap (m * 2 ^ (min l.toNat k.bits)))) :=
 λa w he=>by simp only[execOp,he.eval hx,he.eval hy,Sem.run_bind,QB,Result.andThen_ok,binOp,Op.shift,if_neg (by omega:¬l<0),Sem.run_pure]
theorem p_shr{yk:IntKind}(hx:ev env x=some (.int k m))(hy:ev env y=some (.int yk l))(h0:0<=l):Pv P n env ⟨some d,.binOp .shr t x y u,ty,pos,Ew,g⟩ (.int k (m.fdiv (2 ^ (min l.toNat k.bits)))) :=
 λa w he=>by simp only[execOp,he.eval hx,he.eval hy,Sem.run_bind,QB,Result.andThen_ok,binOp,Op.shift,if_neg (by omega:¬l<0),Sem.run_pure]
theorem p_min2{ts:Array TypeId}(hx:ev env x=some (.int k m))(hy:ev env y=some (.int k l)):Pv P n env ⟨some d,.call { callee:=.builtin .min,args:=#[x,y],argTypes:=ts },ty,pos,Ew,g⟩ (.int k (min m l)) :=
 λa w he=>by
  have e:(if l<m then l else m)=min m l:=by split<;>omega
  simp[execOp,resolve,invoke,builtin,Builtin.min_,Builtin.min2,he.eval hx,he.eval hy,e]
theorem p_max2{ts:Array TypeId}(hx:ev env x=some (.int k m))(hy:ev env y=some (.int k l)):Pv P n env ⟨some d,.call { callee:=.builtin .max,args:=#[x,y],argTypes:=ts },ty,pos,Ew,g⟩ (.int k (max m l)) :=
 λa w he=>by
  have e:(if l > m then l else m)=max m l:=by split<;>omega
  simp[execOp,resolve,invoke,builtin,Builtin.max_,Builtin.max2,he.eval hx,he.eval hy,e]
theorem NH{k':IntKind}(ht:P.underlying t≠none)(hu:P.underlying u=some (.int k'))(hx:ev env x=some (.int k m)):Pv P n env ⟨some d,.convert t u x,ty,pos,Ew,g⟩ (.int k' (k'.wrap m)) :=
 λa w he=>by
  cases htt:P.underlying t with
  |none=>exact absurd htt ht
  |some td=>simp[execOp,he.eval hx,convert,run_underlying htt,run_underlying hu,Conv.intToInt]
end
end
end Go.Sx
namespace Go.Sx
open Go
section
variable {P:Program}{c:Cx}{n:Nat}{env:List (Nat×Value)}{G:List Own}{Q:List D7}{d:Nat}{ty:TypeId}{pos:String}{Ew:Array Edge}{g:Option (Nat×Bool)}
section
variable {x y:Operand}{t u:TypeId}
theorem toList_inj(s r:ByteArray):(s.toList == r.toList)=decide (s=r):=by
 rw[Bool.eq_iff_iff]
 simp only[beq_iff_eq,decide_eq_true_eq]
 constructor
 ·intro h
  rw[ByteArray.toList_eq,ByteArray.toList_eq] at h
  cases s;cases r
  exact congrArg ByteArray.mk (Array.toList_inj.1 h)
 ·rintro rfl;rfl
theorem YV{s r:ByteArray}(hx:ev env x=some (.string s))(hy:ev env y=some (.string r)):Pv P n env ⟨some d,.binOp .eql t x y u,ty,pos,Ew,g⟩ (.bool (decide (s=r))) :=
 λa w he=>by simp only[execOp,he.eval hx,he.eval hy,QA,binOp,Op.stringOp,toList_inj,Sem.run_bind,Result.andThen_ok,Sem.run_pure]
theorem YU{s r:ByteArray}(hx:ev env x=some (.string s))(hy:ev env y=some (.string r)):Pv P n env ⟨some d,.binOp .neq t x y u,ty,pos,Ew,g⟩ (.bool (!decide (s=r))) :=
 λa w he=>by simp only[execOp,he.eval hx,he.eval hy,QA,binOp,Op.stringOp,toList_inj,Sem.run_bind,Result.andThen_ok,Sem.run_pure]
theorem X3{t:TypeId}(ht:P.underlying t=some .bool)(e:Nat)(s r:Bool)(w:World):(Op.equalIn (e+1) t (.bool s) (.bool r)).run P w=.ok (s == r) w:=by
 simp only[Op.equalIn,Sem.run_bind,run_underlying ht,Result.andThen_ok,Sem.run_pure]
theorem X0{t el:TypeId}(ht:P.underlying t=some (.pointer el))(e:Nat)(p:Option Addr)(w:World):(Op.equalIn (e+1) t (.pointer p) (.pointer none)).run P w=.ok p.isNone w:=by
 cases p<;>simp only[Op.equalIn,Sem.run_bind,run_underlying ht,Result.andThen_ok,Sem.run_pure,Option.isNone]
theorem Wi{t el:TypeId}(ht:P.underlying t=some (.slice el))(e:Nat)(p:Option Addr)(l cp l' cp':Nat)(w:World):(Op.equalIn (e+1) t (.slice p l cp) (.slice none l' cp')).run P w=.ok p.isNone w:=by
 cases p<;>simp only[Op.equalIn,Sem.run_bind,run_underlying ht,Result.andThen_ok,Sem.run_pure,Option.isNone]
theorem bK{t ke el:TypeId}(ht:P.underlying t=some (.map ke el))(e:Nat)(p:Option Nat)(w:World):(Op.equalIn (e+1) t (.map p) (.map none)).run P w=.ok p.isNone w:=by
 cases p<;>simp only[Op.equalIn,Sem.run_bind,run_underlying ht,Result.andThen_ok,Sem.run_pure,Option.isNone]
theorem bM{op:BinOp}{t:TypeId}{x y:Operand}{b:Option Nat}{v:Value}(w:World):(eqGuard op t x y (.map b) v).run P w=.ok () w:=by
 unfold eqGuard
 cases op<;>simp
theorem Kz{t:TypeId}{x y:Value}{b:Bool}{w:World}(h:∀e,(Op.equalIn (e+1) t x y).run P w=.ok b w):(Op.equal t x y).run P w=.ok b w:=h 9999
theorem p_beql{s r:Bool}(ht:P.underlying t=some .bool)(hx:ev env x=some (.bool s))(hy:ev env y=some (.bool r)):Pv P n env ⟨some d,.binOp .eql t x y u,ty,pos,Ew,g⟩ (.bool (s == r)) :=
 λa w he=>by simp only[execOp,he.eval hx,he.eval hy,SK,binOp,Sem.run_bind,Result.andThen_ok,Kz (λe=>X3 ht e s r w),Sem.run_pure]
theorem fU{s r:Bool}(ht:P.underlying t=some .bool)(hx:ev env x=some (.bool s))(hy:ev env y=some (.bool r)):Pv P n env ⟨some d,.binOp .neq t x y u,ty,pos,Ew,g⟩ (.bool (!(s == r))) :=
 λa w he=>by simp only[execOp,he.eval hx,he.eval hy,SK,binOp,Sem.run_bind,Result.andThen_ok,Kz (λe=>X3 ht e s r w),Sem.run_pure]
theorem Gh{p:Option Addr}{el:TypeId}(ht:P.underlying t=some (.pointer el))(hx:ev env x=some (.pointer p))(hy:ev env y=some (.pointer none)):Pv P n env ⟨some d,.binOp .eql t x y u,ty,pos,Ew,g⟩ (.bool p.isNone) :=
 λa w he=>by simp only[execOp,he.eval hx,he.eval hy,O_,binOp,Sem.run_bind,Result.andThen_ok,Kz (λe=>X0 ht e p w),Sem.run_pure]
theorem Vp{p:Option Addr}{el:TypeId}(ht:P.underlying t=some (.pointer el))(hx:ev env x=some (.pointer p))(hy:ev env y=some (.pointer none)):Pv P n env ⟨some d,.binOp .neq t x y u,ty,pos,Ew,g⟩ (.bool (!p.isNone)) :=
 λa w he=>by simp only[execOp,he.eval hx,he.eval hy,O_,binOp,Sem.run_bind,Result.andThen_ok,Kz (λe=>X0 ht e p w),Sem.run_pure]
theorem J9{p:Option Addr}{l cp l' cp':Nat}{el:TypeId}(ht:P.underlying t=some (.slice el))(hx:ev env x=some (.slice p l cp))(hy:ev env y=some (.slice none l' cp')):Pv P n env ⟨some d,.binOp .eql t x y u,ty,pos,Ew,g⟩ (.bool p.isNone) :=
 λa w he=>by simp only[execOp,he.eval hx,he.eval hy,Qp,binOp,Sem.run_bind,Result.andThen_ok,Kz (λe=>Wi ht e p l cp l' cp' w),Sem.run_pure]
theorem Z5{p:Option Addr}{l cp l' cp':Nat}{el:TypeId}(ht:P.underlying t=some (.slice el))(hx:ev env x=some (.slice p l cp))(hy:ev env y=some (.slice none l' cp')):Pv P n env ⟨some d,.binOp .neq t x y u,ty,pos,Ew,g⟩ (.bool (!p.isNone)) :=
 λa w he=>by simp only[execOp,he.eval hx,he.eval hy,Qp,binOp,Sem.run_bind,Result.andThen_ok,Kz (λe=>Wi ht e p l cp l' cp' w),Sem.run_pure]
theorem YX{p:Option Nat}{ke el:TypeId}(ht:P.underlying t=some (.map ke el))(hx:ev env x=some (.map p))(hy:ev env y=some (.map none)):Pv P n env ⟨some d,.binOp .neq t x y u,ty,pos,Ew,g⟩ (.bool (!p.isNone)) :=
 λa w he=>by simp only[execOp,he.eval hx,he.eval hy,bM,binOp,Sem.run_bind,Result.andThen_ok,Kz (λe=>bK ht e p w),Sem.run_pure]
end
end
end Go.Sx
namespace Go.Sx
open Go
section
variable {P:Program}{c:Cx}{n:Nat}{env:List (Nat×Value)}{G:List Own}{Q:List D7}{d:Nat}{ty:TypeId}{pos:String}{Ew:Array Edge}{g:Option (Nat×Bool)}
def FH(P:Program)(t:TypeId)(i:Nat):Option Nat :=
 match P.underlying t with
 |some (.struct fs)=>match fs[i]? with
  |some f=>match P.info? f.type with
   |some ti=>if ti.size=0 then none else some f.offset
   |none=>none
  |none=>none
 |_=>none
def IY(P:Program)(t:TypeId):Option Bool :=
 match P.underlying t with
 |some (.struct _)|some (.array _ _)=>some true
 |some _=>some false
 |none=>none
def FN(P:Program)(t:TypeId):Option Nat:=(P.info? t).map (·.size)
def UF(P:Program)(t:TypeId):Option Value:=(P.info? t).bind (·.zero)
theorem VT{t:TypeId}{b:Bool}(h:IY P t=some b)(w:World):(isAgg t).run P w=.ok b w:=by
 unfold IY at h
 unfold isAgg
 cases hu:P.underlying t with
 |none=>simp[hu] at h
 |some u=>cases u<;>simp[hu] at h<;>subst h<;>simp[run_underlying hu]
theorem H_{t:TypeId}{m:Nat}(h:FN P t=some m)(w:World):(sizeOf t).run P w=.ok m w:=by
 unfold FN at h
 obtain⟨i,hi,rfl⟩:=Option.map_eq_some_iff.1 h
 simp[sizeOf,typeInfo,hi]
theorem Kw{t:TypeId}{z:Value}(h:UF P t=some z)(w:World):(zeroValue t).run P w=.ok z w:=by
 unfold UF at h
 obtain⟨i,hi,hz⟩:=Option.bind_eq_some_iff.1 h
 simp[zeroValue,typeInfo,hi,hz]
end
end Go.Sx
namespace Go.Sx
open Go
section
variable {P:Program}{c:Cx}{n:Nat}{env:List (Nat×Value)}{G:List Own}{Q:List D7}{d:Nat}{ty:TypeId}{pos:String}{Ew:Array Edge}{g:Option (Nat×Bool)}
section
variable {x y:Operand}{t u:TypeId}
theorem UK{a:Addr}{i off:Nat}(h:FH P t i=some off)(w:World):(Instr.fieldAt t (.pointer (some a)) i).run P w=.ok (.pointer (some (a.add off))) w:=by
 unfold FH at h
 cases hu:P.underlying t with
 |none=>simp[hu] at h
 |some td =>
  cases td<;>simp[hu] at h
  rename_i fs
  cases hf:fs[i]? with
  |none=>simp[hf] at h
  |some f =>
   cases hi:P.info? f.type with
   |none=>simp[hf,hi] at h
   |some ti =>
    simp[hf,hi] at h
    obtain⟨h0,rfl⟩:=h
    simp[Instr.fieldAt,run_underlying hu,hf,Instr.sureAddr,fieldPlace,sizeOf,typeInfo,hi,h0]
theorem En{b o off:Nat}{i:Nat}(hf:FH P t i=some off)(hx:ev env x=some (.pointer (some ⟨b,o,none⟩))):Pv P n env ⟨some d,.fieldAddr t x i,ty,pos,Ew,g⟩ (.pointer (some ⟨b,o+off,none⟩)) :=
 λa w he=>by simp[execOp,he.eval hx,UK hf,add_lit]
theorem EM{p:Addr}{j off:Nat}{i:Nat}(hf:FH P t i=some off)(hx:ev env x=some (.pointer (some (p.add j)))):Pv P n env ⟨some d,.fieldAddr t x i,ty,pos,Ew,g⟩ (.pointer (some (p.add (j+off)))) :=
 λa w he=>by simp[execOp,he.eval hx,UK hf,add_add]
theorem p_len{A:Option Addr}{l cp:Nat}{e:TypeId}(ht:P.underlying t=some (.slice e))(hx:ev env x=some (.slice A l cp)):Pv P n env ⟨some d,.call { callee:=.builtin .len,args:=#[x],argTypes:=#[t] },ty,pos,Ew,g⟩ (.int .i64 (l:Int)) :=
 λa w he=>by simp[execOp,resolve,invoke,builtin,Builtin.len_,he.eval hx,run_underlying ht,goInt]
end
end
end Go.Sx
namespace Go.Sx
open Go
section
variable {P:Program}{c:Cx}{n:Nat}{env:List (Nat×Value)}{G:List Own}{Q:List D7}{d:Nat}{ty:TypeId}{pos:String}{Ew:Array Edge}{g:Option (Nat×Bool)}
section
variable {x y:Operand}{t u:TypeId}
theorem Rf{t:TypeId}{l:List Value}{o:Nat}{v:Value}(hg:IY P t=some false)(h:nth l o=some v)(w:World):(part t l.toArray o).run P w=.ok v w:=by
 rw[JG] at h
 simp[part,VT hg,h]
end
end
end Go.Sx
namespace Go.Sx
open Go
section
variable {P:Program}{c:Cx}{n:Nat}{env:List (Nat×Value)}{G:List Own}{Q:List D7}{d:Nat}{ty:TypeId}{pos:String}{Ew:Array Edge}{g:Option (Nat×Bool)}
def MW:Value->List Value
 |.agg cs=>cs.toList
 |v=>[v]
theorem JQ(v:Value):v.cells.toList=MW v:=by cases v<;>rfl
def qK:List (Nat×Nat)->Nat->Option (Nat×Nat)
 |[],_=>none
 |x::_,0=>some x
 |_::r,n+1=>qK r n
theorem lV:∀(l:List (Nat×Nat)) (n:Nat),qK l n=l[n]?
 |[],n=>by simp[qK]
 |x::r,0=>rfl
 |x::r,n+1=>by simp[qK,lV r n]
def WZ(place:Nat->Option (Nat×Nat)):List Value->List (Nat×Value)->Option (List Value)
 |z,[]=>some z
 |z,(i,v)::r=>match place i with
  |none=>none
  |some (o,s)=>bif Nat.beq (MW v).length s then (match upd z o (MW v) with
   |none=>none
   |some z'=>WZ place z' r) else none
def fillL(z:List Value)(OA:List (Nat×Nat))(parts:List (Nat×Value)):Option (List Value):=WZ (qK OA) z parts
theorem foldl_set(off:Nat):∀(vs:List Value) (j:Nat) (cs:List Value),off+j+vs.length<=cs.length ->
  ((vs.zipIdx j).foldl (fun(cs:Array Value) (p:Value×Nat)=>cs.setIfInBounds (off+p.2) p.1) cs.toArray)=(cs.take (off+j)++vs++cs.drop (off+j+vs.length)).toArray
 |[],j,cs,h=>by simp
 |v::vs,j,cs,h=>by
  simp only[List.zipIdx_cons,List.foldl_cons]
  rw[show cs.toArray.setIfInBounds (off+j) v=(cs.set (off+j) v).toArray by simp]
  rw[foldl_set off vs (j+1) _ (by simp at h ⊢;omega)]
  congr 1
  apply List.ext_getElem?
  intro i
  simp only[List.length_cons] at h
  have h1:(cs.set (off+j) v).take (off+(j+1))=cs.take (off+j)++[v]:=by
   rw[show off+(j+1)=off+j+1 by omega,List.take_succ_eq_append_getElem (by simp;omega)]
   simp[List.take_set_of_le]
  have h2:(cs.set (off+j) v).drop (off+(j+1)+vs.length)=cs.drop (off+j+(v::vs).length):=by
   rw[List.drop_set_of_lt (by omega)]
   congr 1
   simp
   omega
  rw[h1,h2]
  simp
theorem Ox(place:Nat->Option (Nat×Nat)):∀(parts:List (Nat×Value)) (z l:List Value),WZ place z parts=some l->Instr.fill place z.toArray parts=some l.toArray
 |[],z,l,h=>by simp only[WZ,Option.some.injEq] at h;subst h;rfl
 |(i,v)::r,z,l,h=>by
  simp only[WZ] at h
  simp only[Instr.fill]
  cases ho:place i with
  |none=>simp[ho] at h
  |some os =>
   obtain⟨o,s⟩:=os
   simp only[ho] at h ⊢
   cases hb:Nat.beq (MW v).length s with
   |false=>simp[hb] at h
   |true =>
    rw[hb] at h
    simp only[cond_true] at h
    have hlen:v.cells.size=s:=by rw[<-Array.length_toList,JQ];exact Nat.eq_of_beq_eq_true hb
    cases hu:upd z o (MW v) with
    |none=>simp[hu] at h
    |some z' =>
     simp only[hu] at h
     obtain⟨hz',hfit⟩:=VG hu
     have hsz:v.cells.size=(MW v).length:=by rw[<-Array.length_toList,JQ]
     rw[if_neg (by simp[hlen];omega)]
     have hf:=foldl_set o (MW v) 0 z (by omega)
     have:v.cells.zipIdx.foldl (λcs (c,j)=>cs.setIfInBounds (o+j) c) z.toArray=z'.toArray:=by
      rw[<-Array.foldl_toList,Array.toList_zipIdx,JQ,hz']
      simpa using hf
     rw[this]
     exact Ox place r z' l h
theorem jB(OA:List (Nat×Nat))(place:Nat->Option (Nat×Nat))(hp:∀i,place i=OA[i]?)(parts:List (Nat×Value))(z l:List Value)(h:fillL z OA parts=some l):Instr.fill place z.toArray parts=some l.toArray:=by
 have:place=qK OA:=funext λi=>by rw[hp,lV]
 rw[this]
 exact Ox _ _ _ _ h
def norm:List Value->Option (List Value)
 |[]=>some []
 |x::r=>(norm r).map (x :: ·)
theorem norm_eq:∀{l l':List Value},norm l=some l'->l'=l
 |[],l',h=>by simp only[norm,Option.some.injEq] at h;exact h.symm
 |x::r,l',h=>by
  simp only[norm,Option.map_eq_some_iff] at h
  obtain⟨m,hm,rfl⟩:=h
  rw[norm_eq hm]
def Na(z:List Value):Nat->List Value
 |0=>[]
 |n+1=>z++Na z n
theorem LX(z:List Value):∀n,(Na z n).length=n * z.length
 |0=>by simp[Na]
 |n+1=>by rw[Na,List.length_append,LX z n,Nat.add_mul];omega
theorem VZ(z:List Value)(hz:0<z.length):∀n i,i<n * z.length->(Na z n)[i]?=z[i % z.length]?
 |0,i,h=>by simp at h
 |n+1,i,h=>by
  rw[Na]
  by_cases hi:i<z.length
  ·rw[List.getElem?_append_left hi,Nat.mod_eq_of_lt hi]
  ·rw[List.getElem?_append_right (by omega),VZ z hz n _ (by rw[Nat.add_mul] at h;omega)]
   congr 1
   rw[<-Nat.mod_eq_sub_mod (by omega)]
def II(P:Program)(t:TypeId):Option (List (Nat×Nat)) :=
 match P.underlying t with
 |some (.struct fs)=>fs.toList.mapM λf=>(P.info? f.type).map λi=>(f.offset,i.size)
 |_=>none
def F7(P:Program)(t:TypeId):Option (List Value):=(UF P t).map MW
theorem eU{t:TypeId}{z l:List Value}{OA:List (Nat×Nat)}{parts:List (Nat×Value)}(hz:F7 P t=some z)(ho:II P t=some OA)(hf:fillL z OA parts=some l)(w:World) :
  (Instr.build t parts.toArray).run P w=.ok (.agg l.toArray) w:=by
 unfold F7 at hz
 obtain⟨zv,hzv,rfl⟩:=Option.map_eq_some_iff.1 hz
 unfold II at ho
 cases hu:P.underlying t with
 |none=>simp[hu] at ho
 |some td =>
  cases td<;>simp[hu] at ho
  rename_i fs
  have hpl:(fs.mapM λf=>do pure (f.offset,<-sizeOf f.type):Sem (Array (Nat×Nat))).run P w=.ok OA.toArray w:=by
   rw[<-Array.toArray_toList (xs:=fs)] 
   simp only[List.mapM_toArray,Sem.run_map]
   have key:∀(l:List Field) (OA:List (Nat×Nat)),l.mapM (λf=>(P.info? f.type).map λi=>(f.offset,i.size))=some OA->(l.mapM λf=>do pure (f.offset,<-sizeOf f.type):Sem (List (Nat×Nat))).run P w=.ok OA w:=λl OA h=>run_places w l OA h
   rw[key fs.toList OA (by simpa using ho)]
   rfl
  have WI:Instr.fill (λi=>OA.toArray[i]?) zv.cells parts=some l.toArray:=by
   have:=jB OA (λi=>OA.toArray[i]?) (λi=>by simp) parts (MW zv) l hf
   rwa [<-JQ,Array.toArray_toList] at this
  simp only[Instr.build,Sem.run_bind,Kw hzv,Result.andThen_ok,run_underlying hu,hpl,WI,Sem.run_pure]
def evP(env:List (Nat×Value)):List (Nat×Operand)->Option (List (Nat×Value))
 |[]=>some []
 |(i,x)::r=>match ev env x,evP env r with
  |some v,some vs=>some ((i,v)::vs)
  |_,_=>none
theorem Env.evPs{a:Act}(h:Env n env a):∀{xs:List (Nat×Operand)} {vs:List (Nat×Value)},evP env xs=some vs->xs.map (λp=>(p.1,a.eval p.2))=vs
 |[],vs,hx=>by simp only[evP,Option.some.injEq] at hx;subst hx;rfl
 |(i,x)::r,vs,hx=>by
  simp only[evP] at hx
  split at hx
  ·rename_i v ws h1 h2
   simp only[Option.some.injEq] at hx
   subst hx
   simp[h.eval h1,Env.evPs h h2]
  ·cases hx
theorem ED{t:TypeId}{ps:List (Nat×Operand)}{z l:List Value}{OA:List (Nat×Nat)}{parts:List (Nat×Value)}(hz:F7 P t=some z)(ho:II P t=some OA)(hp:evP env ps=some parts)(hf:fillL z OA parts=some l):Pv P n env ⟨some d,.build t ps.toArray,ty,pos,Ew,g⟩ (.agg l.toArray) :=
 λa w he=>by
  have:(ps.toArray.map fun(p:Nat×Operand)=>(p.1,a.eval p.2))=parts.toArray:=by rw[List.map_toArray,he.evPs hp]
  simp only[execOp,this,Sem.run_bind,eU hz ho hf,Result.andThen_ok,Sem.run_pure]
end
end Go.Sx
namespace Go.Sx
open Go
def FB{α:Type}:List α->Nat->Option α
 |[],_=>none
 |x::_,0=>some x
 |_::r,n+1=>FB r n
theorem FI{α:Type}:∀{l:List α} {i:Nat} {x:α},FB l i=some x->x∈l
 |[],i,x,h=>by simp[FB] at h
 |y::r,0,x,h=>by simp only[FB,Option.some.injEq] at h;subst h;exact List.mem_cons_self
 |y::r,i+1,x,h=>List.mem_cons_of_mem _ (FI (l:=r) (i:=i) h)
def Io{α:Type}:List α->Nat->α->Option (List α)
 |[],_,_=>none
 |_::r,0,x=>some (x::r)
 |y::r,i+1,x=>(Io r i x).map (y :: ·)
theorem M_{α:Type}:∀{l l':List α} {i:Nat} {x y:α},FB l i=some x->Io l i y=some l'->∃a b,l=a++x::b/\l'=a++y::b
 |[],l',i,x,y,h,_=>by simp[FB] at h
 |z::r,l',0,x,y,h,h'=>by
  simp only[FB,Option.some.injEq] at h
  simp only[Io,Option.some.injEq] at h'
  exact⟨[],r,by simp[h],by simp[<-h']⟩
 |z::r,l',i+1,x,y,h,h'=>by
  simp only[Io,Option.map_eq_some_iff] at h'
  obtain⟨m,hm,rfl⟩:=h'
  obtain⟨a,b,rfl,rfl⟩:=M_ (l:=r) (i:=i) h hm
  exact⟨z::a,b,rfl,rfl⟩
def I7{α:Type}:List α->Nat->Option (α×List α)
 |[],_=>none
 |x::r,0=>some (x,r)
 |y::r,i+1=>(I7 r i).map λp=>(p.1,y::p.2)
theorem Qu{α:Type}:∀{l r:List α} {i:Nat} {x:α},I7 l i=some (x,r)->l.Perm (x::r)
 |[],r,i,x,h=>by simp[I7] at h
 |y::t,r,0,x,h=>by simp only[I7,Option.some.injEq,Prod.mk.injEq] at h;obtain⟨rfl,rfl⟩:=h;exact .refl _
 |y::t,r,i+1,x,h=>by
  simp only[I7,Option.map_eq_some_iff] at h
  obtain⟨⟨z,s⟩,hs,he⟩:=h
  simp only[Prod.mk.injEq] at he
  obtain⟨rfl,rfl⟩:=he
  exact((Qu hs).cons y).trans (.swap _ _ _)
def sel{α:Type}:List α->List Nat->Option (List α×List α)
 |l,[]=>some ([],l)
 |l,i::is=>match I7 l i with
  |none=>none
  |some (x,r)=>(sel r is).map λp=>(x::p.1,p.2)
theorem Ho{α:Type}:∀{is:List Nat} {l a b:List α},sel l is=some (a,b)->l.Perm (a++b)
 |[],l,a,b,h=>by simp only[sel,Option.some.injEq,Prod.mk.injEq] at h;obtain⟨rfl,rfl⟩:=h;exact .refl _
 |i::is,l,a,b,h=>by
  simp only[sel] at h
  cases ht:I7 l i with
  |none=>simp[ht] at h
  |some p =>
   obtain⟨x,r⟩:=p
   simp only[ht,Option.map_eq_some_iff] at h
   obtain⟨⟨a',b'⟩,hs,he⟩:=h
   simp only[Prod.mk.injEq] at he
   obtain⟨rfl,rfl⟩:=he
   exact(Qu ht).trans ((Ho hs).cons x)
def Eu{α:Type}(l:List α):List Nat->Option (List α)
 |[]=>some []
 |i::is=>match FB l i,Eu l is with
  |some x,some r=>some (x::r)
  |_,_=>none
theorem Gv{α:Type}{l:List α}:∀{is:List Nat} {r:List α},Eu l is=some r->∀x∈r,x∈l
 |[],r,h=>by simp only[Eu,Option.some.injEq] at h;subst h;simp
 |i::is,r,h=>by
  simp only[Eu] at h
  split at h
  ·rename_i x s h1 h2
   simp only[Option.some.injEq] at h
   subst h
   intro y hy
   rcases List.mem_cons.1 hy with rfl|hy
   ·exact FI h1
   ·exact Gv h2 y hy
  ·cases h
theorem Gq{a b:List Own}{x:Own}{k:Nat}:k∈keysOf (a++x::b)↔k∈keysOf a\/k∈x.keys\/k∈keysOf b:=by simp[keysOf]
theorem Heap.write{S:Blocks}{G G':List Own}{Q:List D7}{w w':World}{i:Nat}{o o':Own}(h:Heap S G Q w)(hi:FB G i=some o)(hr:Io G i o'=some G')
  (hf:Fr o.keys w w') (ho:o'.holds w') (hfresh:∀k∈o'.keys,k∈o.keys\/w.heap.size<=k) (hn:o'.keys.Nodup):Heap (λk=>S k/\k ∉ o'.keys) G' Q w':=by
 obtain⟨a,b,rfl,rfl⟩:=M_ hi hr
 have hn0:(keysOf a++(o.keys++keysOf b)).Nodup:=by have:=h.Oj;simpa[keysOf] using this
 rw[List.nodup_append] at hn0
 obtain⟨na,nob,dab⟩:=hn0
 rw[List.nodup_append] at nob
 obtain⟨no,nb,dob⟩:=nob
 have lta:∀k∈keysOf a,k<w.heap.size:=λk hk=>h.lt (Gq.2 (.inl hk))
 have ltb:∀k∈keysOf b,k<w.heap.size:=λk hk=>h.lt (Gq.2 (.inr (.inr hk)))
 have naO:∀k∈keysOf a,k ∉ o.keys:=λk hk ho=>dab k hk k (List.mem_append_left _ ho) rfl
 have nbO:∀k∈keysOf b,k ∉ o.keys:=λk hk ho=>dob k ho k hk rfl
 have other:∀k,k∈keysOf a\/k∈keysOf b->k ∉ o'.keys:=by
  intro k hk ho'
  have hlt:k<w.heap.size:=hk.elim (lta k) (ltb k)
  rcases hfresh k ho' with h1|h1
  ·exact hk.elim (λx=>naO k x h1) (λx=>nbO k x h1)
  ·omega
 constructor
 ·intro x hx
  rcases List.mem_append.1 hx with hx|hx
  ·exact Own.move (h.own x (by simp[hx])) λk hkk=>hf.block k (Own.lt (h.own x (by simp[hx])) hkk) (naO k (Gu.2 ⟨x,hx,hkk⟩))
  ·rcases List.mem_cons.1 hx with rfl|hx
   ·exact ho
   ·exact Own.move (h.own x (by simp[hx])) λk hkk=>hf.block k (Own.lt (h.own x (by simp[hx])) hkk) (nbO k (Gu.2 ⟨x,hx,hkk⟩))
 ·have:(keysOf a++(o'.keys++keysOf b)).Nodup:=by
   rw[List.nodup_append]
   refine⟨na,?_,λk hk l hl e=>?_⟩
   ·rw[List.nodup_append]
    exact⟨hn,nb,λk hk l hl e=>other l (.inr hl) (e▸hk)⟩
   ·subst e
    rcases List.mem_append.1 hl with hl|hl
    ·exact other k (.inl hk) hl
    ·exact dab k hk k (List.mem_append_right _ hl) rfl
  simpa[keysOf] using this
 ·intro k hkk hS
  rcases Gq.1 hkk with hkk|hkk|hkk
  ·exact h.out k (Gq.2 (.inl hkk)) hS.1
  ·exact hS.2 hkk
  ·exact h.out k (Gq.2 (.inr (.inr hkk))) hS.1
 ·intro q hq
  refine q.st (h.per q hq) λk hS hlt=>?_
  have hno:k ∉ o.keys:=λhko=>h.out k (Gq.2 (.inr (.inl hko))) hS
  refine⟨⟨hS,λhko'=>?_⟩,hf.block k hlt hno⟩
  rcases hfresh k hko' with h1|h1
  ·exact hno h1
  ·omega
theorem Rel.step{c:Cx}{S S':Blocks}{G G':List Own}{w w':World}{L:List Nat}(h:Rel c S G w)(hf:Fr L w w')(hL:∀k∈L,k∈keysOf G)
  (hS:∀k,k<w.heap.size->k ∉ L->(S' k↔S k)) (hG:∀k∈keysOf G',k∈keysOf G\/w.heap.size<=k):Rel c S' G' w':=by
 have key:∀k,k<c.w0.heap.size->k ∉ c.L0->k ∉ L:=λk hlt hn hl=>by
  rcases h.key k (hL k hl) with h1|h1
  ·exact hn h1
  ·omega
 have le:=h.fr.size
 exact {
  fr:=⟨hf.os.trans h.fr.os,hf.tape.trans h.fr.tape,hf.output.trans h.fr.output,Nat.le_trans le hf.size,λk hlt hn=>(hf.block k (by omega) (key k hlt hn)).trans (h.fr.block k hlt hn)⟩
  old:=λk hlt hn=>(hS k (by omega) (key k hlt hn)).trans (h.old k hlt hn)
  key:=λk hk=>by
   rcases hG k hk with h1|h1
   ·exact h.key k h1
   ·exact .inr (by omega) }
end Go.Sx
namespace Go.Sx
open Go
section
variable {P:Program}{c:Cx}{n:Nat}{env env':List (Nat×Value)}{G G':List Own}{Q:List D7}{a a':Act}{w w':World}
theorem St.write{i:Nat}{o o':Own}(h:St c n env G Q a w)(hi:FB G i=some o)(hr:Io G i o'=some G')
  (hf:Fr o.keys w w') (ho:o'.holds w') (hk:∀k∈o'.keys,k∈o.keys\/w.heap.size<=k) (hn:o'.keys.Nodup) (he:Nc c.D n env' a'):St c n env' G' Q a' w':=by
 obtain⟨S,_,hh,hrel⟩:=h
 refine⟨λk=>S k/\k ∉ o'.keys,he,hh.write hi hr hf ho hk hn,?_⟩
 have hin:∀k∈o.keys,k∈keysOf G:=λk hko=>Gu.2 ⟨o,FI hi,hko⟩
 refine hrel.step hf hin (λk hlt hko=>⟨λhs=>hs.1,λhs=>⟨hs,λhko'=>?_⟩⟩) λk hkk=>?_
 ·rcases hk k hko' with h1|h1
  ·exact hko h1
  ·omega
 ·obtain⟨x,y,rfl,rfl⟩:=M_ hi hr
  rcases Gq.1 hkk with h1|h1|h1
  ·exact .inl (Gq.2 (.inl h1))
  ·exact(hk k h1).imp (λh2=>Gq.2 (.inr (.inl h2))) id
  ·exact .inl (Gq.2 (.inr (.inr h1)))
theorem St.new(h:St c n env G Q a w)(o:Obj)(he:Nc c.D n env' a'):St c n env' (.blk w.heap.size o::G) Q a' (w.alloc o):=by
 obtain⟨S,_,hh,hrel⟩:=h
 refine⟨_,he,hh.alloc o,hrel.step (Fr.alloc [] w o) (by simp) (λk hlt _=>⟨λhs=>hs.1,λhs=>⟨hs,Nat.ne_of_lt hlt⟩⟩) λk hk=>?_⟩
 rcases List.mem_cons.1 (show k∈w.heap.size::keysOf G from hk) with rfl|hk
 ·exact .inr (Nat.le_refl _)
 ·exact .inl hk
theorem St.keep(h:St c n env G Q a w)(hf:Fr [] w w')(he:Nc c.D n env' a'):St c n env' G Q a' w':=by
 obtain⟨S,_,hh,hrel⟩:=h
 exact⟨S,he,hh.move λk hlt _=>hf.block k hlt (by simp),hrel.step hf (by simp) (λ_ _ _=>Iff.rfl) λk hk=>.inl hk⟩
theorem St.en(h:St c n env G Q a w):Nc c.D n env a:=by obtain⟨S,he,_⟩:=h;exact he
theorem St.own{i:Nat}{o:Own}(h:St c n env G Q a w)(hi:FB G i=some o):o.holds w:=by obtain⟨S,he,hh,_⟩:=h;exact hh.own o (FI hi)
theorem St.per{i:Nat}{q:D7}(h:St c n env G Q a w)(hi:FB Q i=some q):∃S,q.h w S:=by obtain⟨S,he,hh,_⟩:=h;exact⟨S,hh.per q (FI hi)⟩
end
end Go.Sx
namespace Go.Sx
open Go
section
variable {P:Program}{c:Cx}{n:Nat}{env:List (Nat×Value)}{G:List Own}{Q:List D7}{d:Nat}{ty:TypeId}{pos:String}{Ew:Array Edge}{g:Option (Nat×Bool)}{x y:Operand}{t:TypeId}
theorem EH{z:List Value}(hd:Nat.blt d n=true)(hz:F7 P t=some z):Tr P ⟨some d,.alloc t,ty,pos,Ew,g⟩ (St c n env G Q)
  (λa w=>∃b,St c n ((d,.pointer (some ⟨b,0,none⟩))::env) (.cells b z t::G) Q a w):=by
 intro a w h K R hk
 obtain⟨zv,hzv,rfl⟩:=Option.map_eq_some_iff.1 hz
 have hrun:(execOp a.eval ⟨some d,.alloc t,ty,pos,Ew,g⟩).run P w=.ok (.value (.pointer (some ⟨w.heap.size,0,none⟩))) (w.alloc (.cells (MW zv).toArray t (0,0))):=by
  have e:(MW zv).toArray=zv.cells:=by rw[<-JQ]
  rw[e]
  simp[execOp,Instr.alloc,Kw hzv,newVar,newRow]
 unfold Oper.wp
 rw[hrun]
 exact hk _ _ ⟨w.heap.size,h.new _ (h.en.put hd _)⟩
theorem Ee{v:Value}{l:List Value}(hd:Nat.blt d n=true)(hx:ev env x=some v)(hv:v.cells.toList=l):Tr P ⟨some d,.box t x,ty,pos,Ew,g⟩ (St c n env G Q)
  (λa w=>∃b,St c n ((d,.pointer (some ⟨b,0,none⟩))::env) (.cells b l t::G) Q a w):=by
 intro a w h K R hk
 have hrun:(execOp a.eval ⟨some d,.box t x,ty,pos,Ew,g⟩).run P w=.ok (.value (.pointer (some ⟨w.heap.size,0,none⟩))) (w.alloc (.cells l.toArray t (0,0))):=by
  have e:l.toArray=v.cells:=by rw[<-hv]
  rw[e]
  simp[execOp,h.en.eval hx,Instr.box,newVar,newRow]
 unfold Oper.wp
 rw[hrun]
 exact hk _ _ ⟨w.heap.size,h.new _ (h.en.put hd _)⟩
theorem Lj{p:Addr}{v:Value}(hg:IY P t=some false){w:World}(hc:w.cell? p=some v):(loadVar t p).run P w=.ok v w:=by
 simp[loadVar,VT hg,hc]
theorem Ll{p:Addr}{vs:List Value}(hg:IY P t=some true)(hs:FN P t=some vs.length){w:World}(hc:Il w p vs):(loadVar t p).run P w=.ok (.agg vs.toArray) w:=by
 simp only[loadVar,Sem.run_bind,VT hg,Result.andThen_ok,if_true,H_ hs,run_loadCells_list w p vs hc,Sem.run_pure]
theorem Tr.load{p:Addr}{v:Value}(hd:Nat.blt d n=true)(hx:ev env x=some (.pointer (some p)))(h:∀a w,St c n env G Q a w->(loadVar t p).run P w=.ok v w):Tr P ⟨some d,.load t x,ty,pos,Ew,g⟩ (St c n env G Q) (St c n ((d,v)::env) G Q):=by
 intro a w hs K R hk
 have hrun:(execOp a.eval ⟨some d,.load t x,ty,pos,Ew,g⟩).run P w=.ok (.value v) w:=by
  simp only[execOp,hs.en.eval hx,Instr.loadAt,Instr.sureAddr,Sem.run_bind,Sem.run_pure,Result.andThen_ok,h a w hs]
 unfold Oper.wp
 rw[hrun]
 exact hk _ _ (hs.keep (Fr.refl _ _) (hs.en.put hd _))
theorem Fr.setRow(w:World)(b:Nat)(cs:Array Value):Fr [b] w (w.setRow b cs) :=
 ⟨rfl,rfl,rfl,by simp,λk hk hn=>setRow_other w b k cs (by simpa using hn)⟩
theorem Tr.store{i b o:Nat}{l l' vs:List Value}{e:TypeId}{v:Value}{G':List Own}(hi:FB G i=some (.cells b l e))(hx:ev env x=some (.pointer (some ⟨b,o,none⟩)))(hy:ev env y=some v)(hv:v.cells.toList=vs)(hs:FN P t=some vs.length)(h1:QC vs=true)
  (hu:upd l o vs=some l') (hr:Io G i (.cells b l' e)=some G'):Tr P ⟨none,.store t x y,ty,pos,Ew,g⟩ (St c n env G Q) (St c n env G' Q):=by
 intro a w hst K R hk
 have hb:w.heap[b]?=some (.cells l.toArray e (0,0)):=hst.own hi
 obtain⟨he,hfit⟩:=VG hu
 have hsz:v.cells.size=vs.length:=by rw[<-hv,Array.length_toList]
 have hrun:(execOp a.eval ⟨none,.store t x y,ty,pos,Ew,g⟩).run P w=.ok .skip (w.setRow b l'.toArray):=by
  have hst':=run_storeCells_at (P:=P) b o e vs 0 l.toArray w hb (by simpa using hfit) (EX h1)
  rw[Nat.add_zero] at hst'
  subst he
  simp only[execOp,hst.en.eval hx,hst.en.eval hy,Instr.storeAt,Instr.sureAddr,storeVar,Sem.run_bind,Sem.run_pure,Result.andThen_ok,H_ hs,hsz,ne_eq,not_true_eq_false,if_false,hv]
  simpa using congrArg (λr=>Result.andThen r λ_ w'=>Result.ok Next.skip w') hst'
 unfold Oper.wp
 rw[hrun]
 refine hk _ _ (hst.write hi hr (Fr.setRow w b _) (setRow_heap w b _ _ _ _ hb) (λk hk=>.inl hk) (by simp[Own.keys]) ?_)
 exact hst.en
theorem Et{i b o:Nat}{l l':List Value}{e:TypeId}{v:Value}{G':List Own}(hi:FB G i=some (.cells b l e))(hx:ev env x=some (.pointer (some ⟨b,o,none⟩)))(hy:ev env y=some v)(hv:v.cells.toList=[v])(hs:FN P t=some 1)(h1:v.oneCell'=true)
  (hu:upd l o [v]=some l') (hr:Io G i (.cells b l' e)=some G'):Tr P ⟨none,.store t x y,ty,pos,Ew,g⟩ (St c n env G Q) (St c n env G' Q) :=
 Tr.store hi hx hy hv hs (by simp[QC,h1]) hu hr
theorem EZ{i b o:Nat}{l l' vs:List Value}{e:TypeId}{G':List Own}(hi:FB G i=some (.cells b l e))(hx:ev env x=some (.pointer (some ⟨b,o,none⟩)))(hy:ev env y=some (.agg vs.toArray))(hs:FN P t=some vs.length)(h1:QC vs=true)
  (hu:upd l o vs=some l') (hr:Io G i (.cells b l' e)=some G'):Tr P ⟨none,.store t x y,ty,pos,Ew,g⟩ (St c n env G Q) (St c n env G' Q) :=
 Tr.store hi hx hy rfl hs h1 hu hr
theorem run_indexAt{p:Addr}{len cap sz:Nat}{k:IntKind}{m:Int}{e:TypeId}(ht:P.underlying t=some (.slice e))(hs:FN P e=some sz)(h0:0<=m)(h1:m<len)(w:World) :
  (Instr.indexAt t (.slice (some p) len cap) (.int k m)).run P w=.ok (.pointer (some (p.add (m.toNat * sz)))) w:=by
 simp[Instr.indexAt,asIntOf,run_underlying ht,h0,h1,H_ hs]
theorem Ej{α:Type}{kd:Kd α}{i cap:Nat}{A:Option Addr}{xs:List α}{z:α}{k:IntKind}{m:Int}{e:TypeId}(hd:Nat.blt d n=true)(hi:FB Q i=some (D7.row kd A xs))(hx:ev env x=some (.slice A xs.length cap))(hy:ev env y=some (.int k m))
  (ht:P.underlying t=some (.slice e)) (hs:FN P e=some kd.sz) (h0:0<=m) (hz:xs[m.toNat]?=some z) :
  Tr P ⟨some d,.indexAddr t x y,ty,pos,Ew,g⟩ (St c n env G Q)
   (λa w=>∃p,∃r,kd.ok z r/\St c n ((d,.pointer (some (Addr.add p 0)))::env) G (D7.at p (kd.cells z r)::(kd.pers z r++Q)) a w):=by
 intro a w h K R hk
 obtain⟨S,he,hh,hrel⟩:=h
 have hlt:m.toNat<xs.length:=(List.getElem?_eq_some_iff.1 hz).1
 rcases hh.per _ (FI hi) with h1|⟨p,rfl,hS,hb,hrow⟩
 ·subst h1;simp at hlt
 ·obtain⟨cs,⟨r,hok,rfl,Td⟩,hc⟩:=hrow _ _ hz
  have hrun:(execOp a.eval ⟨some d,.indexAddr t x y,ty,pos,Ew,g⟩).run P w=.ok (.value (.pointer (some ((p.add (m.toNat * kd.sz)).add 0)))) w:=by
   have hm:m<(xs.length:Int):=by omega
   rw[add_zero]
   simp only[execOp,he.eval hx,he.eval hy,run_indexAt ht hs h0 hm,Sem.run_bind,Result.andThen_ok,Sem.run_pure]
  unfold Oper.wp
  rw[hrun]
  refine hk _ _ ⟨p.add (m.toNat * kd.sz),r,hok,S,he.put hd _,⟨hh.own,hh.Oj,hh.out,λq hq=>?_⟩,hrel⟩
  rcases List.mem_cons.1 hq with rfl|hq
  ·exact⟨by rw[add_block];exact hS,by rw[add_block];exact hb,hc⟩
  ·rcases List.mem_append.1 hq with hq|hq
   ·exact Td q hq
   ·exact hh.per q hq
theorem G6{b o len cap sz:Nat}{k:IntKind}{m:Int}{e:TypeId}(hx:ev env x=some (.slice (some ⟨b,o,none⟩) len cap))(hy:ev env y=some (.int k m))(ht:P.underlying t=some (.slice e))(hs:FN P e=some sz)(h0:0<=m)(h1:m<len) :
  Pv P n env ⟨some d,.indexAddr t x y,ty,pos,Ew,g⟩ (.pointer (some ⟨b,o+m.toNat * sz,none⟩)):=λa w he=>by
 simp only[execOp,he.eval hx,he.eval hy,run_indexAt ht hs h0 h1,Sem.run_bind,Result.andThen_ok,Sem.run_pure,add_lit]
theorem NC(z:List Value)(hz:0<z.length)(m:Nat):(Array.range (m * z.length)).map (λi=>z.toArray[i % z.toArray.size]!)=(Na z m).toArray:=by
 apply Array.toList_inj.1
 apply List.ext_getElem?
 intro i
 simp only[Array.toList_map,Array.toList_range,List.getElem?_map]
 by_cases hi:i<m * z.length
 ·rw[List.getElem?_range hi,VZ z hz m i hi]
  have:i % z.length<z.length:=Nat.mod_lt _ hz
  simp[this]
 ·have h1:(List.range (m * z.length))[i]?=none:=by simp;omega
  have h2:(Na z m)[i]?=none:=by rw[List.getElem?_eq_none_iff,LX];omega
  rw[h1,h2];rfl
theorem EC{e:TypeId}{len sz:Nat}{ps:List (Nat×Operand)}{parts:List (Nat×Value)}{z z0 l:List Value}(hd:Nat.blt d n=true)(ht:P.underlying t=some (.slice e))(hs:FN P e=some sz)(hz:F7 P e=some z)(hzs:Nat.beq z.length sz=true)(h0:Nat.blt 0 sz=true)(hp:evP env ps=some parts)
  (hsm:Nat.ble (len * sz) 16777216=true) (hn:norm (Na z len)=some z0) (hl:WZ (λi=>some (i * sz,sz)) z0 parts=some l) :
  Tr P ⟨some d,.buildSlice t len ps.toArray,ty,pos,Ew,g⟩ (St c n env G Q)
   (λa w=>∃b,St c n ((d,.slice (some ⟨b,0,none⟩) len len)::env) (.cells b l e::G) Q a w):=by
 intro a w h K R hk
 have hzs:=Nat.eq_of_beq_eq_true hzs
 have h0:0<sz:=Nat.le_of_ble_eq_true h0
 have hsm:=Nat.le_of_ble_eq_true hsm
 obtain⟨zv,hzv,hzz⟩:=Option.map_eq_some_iff.1 hz
 have hpm:(ps.toArray.map fun(p:Nat×Operand)=>(p.1,a.eval p.2))=parts.toArray:=by rw[List.map_toArray,h.en.evPs hp]
 have hn:=norm_eq hn
 have hcells:zv.cells=z.toArray:=by rw[<-hzz,<-JQ]
 have WI:=Ox (λi=>some (i * sz,sz)) parts z0 l hl
 have hrun:(execOp a.eval ⟨some d,.buildSlice t len ps.toArray,ty,pos,Ew,g⟩).run P w=.ok (.value (.slice (some ⟨w.heap.size,0,none⟩) len len)) (w.alloc (.cells l.toArray e (0,0))):=by
  by_cases hl0:len * sz=0
  ·have hl1:len=0:=by rcases Nat.mul_eq_zero.1 hl0 with h1|h1<;>omega
   have hz0:z0=[]:=by rw[hn,hl1];rfl
   rw[hz0] at WI
   have ha:∀f:Nat->Value,(Array.range (len * sz)).map f=#[]:=λf=>by rw[hl0];simp
   simp only[execOp,hpm,Instr.buildSlice,Sem.run_bind,run_underlying ht,Result.andThen_ok,H_ hs,if_neg (by omega:¬len * sz > 2 ^ 24),if_pos hl0,Sem.run_pure,ha,WI,newRow,run_newObj]
   rfl
  ·have harr:(Array.range (len * sz)).map (λi=>z.toArray[i % z.toArray.size]!)=z0.toArray:=by
    rw[hn,<-hzs]
    exact NC z (by omega) len
   simp only[execOp,hpm,Instr.buildSlice,Sem.run_bind,run_underlying ht,Result.andThen_ok,H_ hs,if_neg (by omega:¬len * sz > 2 ^ 24),if_neg hl0,Sem.run_pure,Kw hzv,hcells,harr,WI,newRow,run_newObj]
   rfl
 unfold Oper.wp
 rw[hrun]
 exact hk _ _ ⟨w.heap.size,h.new _ (h.en.put hd _)⟩
end
end Go.Sx
namespace Go.Sx
open Go
def Ct(P:Program)(f:FuncId)(args:List Value)(G:List Own)(Q:List D7)(R:Value->List Own->List D7->Prop):Prop :=
 ∀w S,Heap S G Q w->Calls P f args.toArray w λe w'=>∃v G' Q' S',e=.returned v/\R v G' Q'/\Heap S' G' Q' w'/\Fr (keysOf G) w w' /\
  (∀k,k<w.heap.size->k ∉ keysOf G->(S' k↔S k))/\(∀k∈keysOf G',k∈keysOf G\/w.heap.size<=k)
theorem Ct.mono{P:Program}{f:FuncId}{args:List Value}{G:List Own}{Q:List D7}{R R':Value->List Own->List D7->Prop}(h:Ct P f args G Q R)(hr:∀v G' Q',R v G' Q'->R' v G' Q'):Ct P f args G Q R' :=
 λw S hh=>(h w S hh).mono λe w' ⟨v,G',Q',S',h1,h2,h3⟩=>⟨v,G',Q',S',h1,hr _ _ _ h2,h3⟩
end Go.Sx
namespace Go.Sx
open Go
section
variable {P:Program}{c:Cx}{n:Nat}{env env':List (Nat×Value)}{G G' Gr:List Own}{Q Q':List D7}{d:Nat}{ty:TypeId}{pos:String}{Ew:Array Edge}{g:Option (Nat×Bool)}{x y:Operand}{t:TypeId}{a a':Act}{w w':World}
theorem EY(a b:List Own):keysOf (a++b)=keysOf a++keysOf b:=by simp[keysOf]
theorem Ud{a b:List Own}(h:a.Perm b){k:Nat}:k∈keysOf a↔k∈keysOf b:=(List.Perm.flatMap_right Own.keys h).mem_iff
theorem Rel.perm{S:Blocks}(h:Rel c S G w)(hp:G.Perm G'):Rel c S G' w:=⟨h.fr,h.old,λk hk=>h.key k ((Ud hp).2 hk)⟩
theorem Om{S S':Blocks}{G1 G2 Gr:List Own}{Q1 Q2:List D7}(h:Heap S (G1++Gr) Q1 w)(h':Heap S' G2 Q2 w')(hf:Fr (keysOf G1) w w')(hS:∀k,k<w.heap.size->k ∉ keysOf G1->(S' k↔S k))(hk:∀k∈keysOf G2,k∈keysOf G1\/w.heap.size<=k) :
  Heap S' (G2++Gr) (Q2++Q1) w':=by
 have hn:(keysOf G1++keysOf Gr).Nodup:=by rw[<-EY];exact h.Oj
 rw[List.nodup_append] at hn
 obtain⟨n1,nr,d1r⟩:=hn
 have ltr:∀k∈keysOf Gr,k<w.heap.size:=λk hk=>h.lt (by rw[EY];exact List.mem_append_right _ hk)
 have nr1:∀k∈keysOf Gr,k ∉ keysOf G1:=λk hk h1=>d1r k h1 k hk rfl
 constructor
 ·intro o ho
  rcases List.mem_append.1 ho with ho|ho
  ·exact h'.own o ho
  ·refine Own.move (h.own o (List.mem_append_right _ ho)) λk hko=>?_
   have hkr:k∈keysOf Gr:=Gu.2 ⟨o,ho,hko⟩
   exact hf.block k (ltr k hkr) (nr1 k hkr)
 ·rw[EY,List.nodup_append]
  refine⟨h'.Oj,nr,λk hk2 l hl e=>?_⟩
  subst e
  rcases hk k hk2 with h1|h1
  ·exact nr1 k hl h1
  ·have:=ltr k hl;omega
 ·intro k hkk
  rw[EY] at hkk
  rcases List.mem_append.1 hkk with hkk|hkk
  ·exact h'.out k hkk
  ·intro hs
   exact h.out k (by rw[EY];exact List.mem_append_right _ hkk) ((hS k (ltr k hkk) (nr1 k hkk)).1 hs)
 ·intro q hq
  rcases List.mem_append.1 hq with hq|hq
  ·exact h'.per q hq
  ·refine q.st (h.per q hq) λk hs hlt=>?_
   have hn1:k ∉ keysOf G1:=λh1=>h.out k (by rw[EY];exact List.mem_append_left _ h1) hs
   exact⟨(hS k hlt hn1).2 hs,hf.block k hlt hn1⟩
theorem CU{S':Blocks}{G1 G2:List Own}{Q2:List D7}{S:Blocks}(hh:Heap S (G1++Gr) Q w)(hrel:Rel c S (G1++Gr) w)(h':Heap S' G2 Q2 w')(hf:Fr (keysOf G1) w w')(hS:∀k,k<w.heap.size->k ∉ keysOf G1->(S' k↔S k))(hk:∀k∈keysOf G2,k∈keysOf G1\/w.heap.size<=k)(he:Nc c.D n env a') :
  St c n env (G2++Gr) (Q2++Q) a' w' :=
 ⟨S',he,Om hh h' hf hS hk,hrel.step hf (λk hk=>by rw[EY];exact List.mem_append_left _ hk) hS λk hkk=>by
  rw[EY] at hkk ⊢
  rcases List.mem_append.1 hkk with hkk|hkk
  ·exact(hk k hkk).imp (List.mem_append_left _) id
  ·exact .inl (List.mem_append_right _ hkk)⟩
theorem Tr.calls{op:Op}{f:FuncId}{vs:List Value}{is js:List Nat}{G1:List Own}{Q1:List D7}{R:Value->List Own->List D7->Prop}(hd:Nat.blt d n=true)(hrun:∀a w,Env n env a->(execOp a.eval ⟨some d,op,ty,pos,Ew,g⟩).run P w=.ok (.enter f vs.toArray) w)
  (hsel:sel G is=some (G1,Gr)) (hq:Eu Q js=some Q1) (h:Ct P f vs G1 Q1 R) :
  Tr P ⟨some d,op,ty,pos,Ew,g⟩ (St c n env G Q) (λa w=>∃v G2 Q2,R v G2 Q2/\St c n ((d,v)::env) (G2++Gr) (Q2++Q) a w):=by
 rintro a w ⟨S,he,hh,hrel⟩ K Q' hk
 have hp:=Ho hsel
 have hh1:=hh.perm hp
 have Ik:=hrel.perm hp
 have hin:Heap S G1 Q1 w:=hh1.sub (List.sublist_append_left _ _) (Gv hq)
 unfold Oper.wp
 rw[hrun a w he.toEnv]
 rw[Oper.upon_enter]
 refine(h w S hin).mono ?_
 rintro e w' ⟨v,G2,Q2,S',rfl,hR,h',hf,hS,hkk⟩
 exact hk _ _ ⟨v,G2,Q2,hR,CU hh1 Ik h' hf hS hkk (he.put hd v)⟩
theorem Tr.lends{op:Op}{f:FuncId}{vs:List Value}{is ls js:List Nat}{G1 GL G3:List Own}{Q1 QL:List D7}{R:Value->List Own->List D7->Prop}(hd:Nat.blt d n=true)(hrun:∀a w,Env n env a->(execOp a.eval ⟨some d,op,ty,pos,Ew,g⟩).run P w=.ok (.enter f vs.toArray) w)
  (hsel:sel G is=some (G1,G3)) (hlen:sel G3 ls=some (GL,Gr)) (hq:Eu Q js=some Q1) (hl:∀w S,(∀o∈GL,o.holds w)->(∀k∈keysOf GL,S k)->(∀q∈Q,q.h w S)->∀q∈QL,q.h w S) (h:Ct P f vs G1 (QL++Q1) R) (hR:∀v G2 Q2,R v G2 Q2->Q2=[]) :
  Tr P ⟨some d,op,ty,pos,Ew,g⟩ (St c n env G Q) (λa w=>∃v G2,R v G2 []/\St c n ((d,v)::env) (G2++(GL++Gr)) Q a w):=by
 rintro a w ⟨S,he,hh,hrel⟩ K Q' hk
 have hp:G.Perm (G1++(GL++Gr)):=(Ho hsel).trans ((List.Perm.refl _).append (Ho hlen))
 have hh1:=hh.perm hp
 have Ik:=hrel.perm hp
 let S1:Blocks:=λk=>S k\/k∈keysOf GL
 have hn:=hh1.Oj
 rw[EY,EY,List.nodup_append] at hn
 obtain⟨n1,n2,dis⟩:=hn
 have hin:Heap S1 G1 (QL++Q1) w:=by
  refine⟨λo ho=>hh1.own o (List.mem_append_left _ ho),n1,λk hk1 hs=>?_,λq hq'=>?_⟩
  ·rcases hs with hs|hs
   ·exact hh1.out k (by rw[EY];exact List.mem_append_left _ hk1) hs
   ·exact dis k hk1 k (List.mem_append_left _ hs) rfl
  ·have up:∀q∈Q,q.h w S1:=λq hq=>q.st (hh1.per q hq) λk hs _=>⟨.inl hs,rfl⟩
   rcases List.mem_append.1 hq' with hq'|hq'
   ·exact hl w S1 (λo ho=>hh1.own o (List.mem_append_right _ (List.mem_append_left _ ho))) (λk hk=>.inr hk) up q hq'
   ·exact up q (Gv hq q hq')
 unfold Oper.wp
 rw[hrun a w he.toEnv]
 rw[Oper.upon_enter]
 refine(h w S1 hin).mono ?_
 rintro e w' ⟨v,G2,Q2,S',rfl,hR',h',hf,hS,hkk⟩
 have:=hR v G2 Q2 hR'
 subst this
 have ltL:∀k∈keysOf GL,k<w.heap.size:=λk hk=>hh1.lt (by rw[EY,EY];exact List.mem_append_right _ (List.mem_append_left _ hk))
 have nL1:∀k∈keysOf GL,k ∉ keysOf G1:=λk hk h1=>dis k h1 k (List.mem_append_left _ hk) rfl
 have h2:Heap (λk=>S' k/\k ∉ keysOf GL) G2 [] w':=⟨h'.own,h'.Oj,λk hk hs=>h'.out k hk hs.1,λq hq=>by cases hq⟩
 have hS2:∀k,k<w.heap.size->k ∉ keysOf G1->((S' k/\k ∉ keysOf GL)↔S k):=by
  intro k hlt hn1
  constructor
  ·rintro⟨hs,hnl⟩
   exact((hS k hlt hn1).1 hs).resolve_right hnl
  ·intro hs
   refine⟨(hS k hlt hn1).2 (.inl hs),λhl=>hh1.out k ?_ hs⟩
   rw[EY,EY]
   exact List.mem_append_right _ (List.mem_append_left _ hl)
 have:=CU (n:=n) (env:=(d,v)::env) hh1 Ik h2 hf hS2 hkk (he.put hd v)
 rw[List.nil_append] at this
 exact hk _ _ ⟨v,G2,hR',this⟩
def oG(P:Program)(f:FuncId):Prop:=∀(args:Array Value) (w:World),(callFunc f args).run P w=.ok (.enter f args) w
theorem OQ{f:FuncId}{xs:List Operand}{vs:List Value}{ts:Array TypeId}{dst:Option Tmp}(hf:oG P f)(hx:evs env xs=some vs)(a:Act)(w:World)(he:Env n env a) :
  (execOp a.eval ⟨dst,.call { callee:=.value (.func f),args:=xs.toArray,argTypes:=ts },ty,pos,Ew,g⟩).run P w=.ok (.enter f vs.toArray) w:=by
 have hm:xs.toArray.map a.eval=vs.toArray:=by rw[List.map_toArray,he.Wh hx]
 have hc:=hf vs.toArray w
 simp only[execOp,resolve,Deferred.ofValue,invoke,hm,Act.eval,Sem.run_bind,Sem.run_pure,Result.andThen_ok,Array.empty_append,Array.append_empty,hc]
theorem Xn{f:FuncId}{x:Operand}{xs:List Operand}{vs us:List Value}{ts:Array TypeId}{dst:Option Tmp}(hf:oG P f)(hv:ev env x=some (.func (.func f) #[] us.toArray))(hx:evs env xs=some vs)(a:Act)(w:World)(he:Env n env a) :
  (execOp a.eval ⟨dst,.call { callee:=.value x,args:=xs.toArray,argTypes:=ts },ty,pos,Ew,g⟩).run P w=.ok (.enter f (vs++us).toArray) w:=by
 have hm:xs.toArray.map a.eval=vs.toArray:=by rw[List.map_toArray,he.Wh hx]
 have hc:=hf (vs++us).toArray w
 simp only[execOp,resolve,Deferred.ofValue,invoke,hm,he.eval hv,Sem.run_bind,Sem.run_pure,Result.andThen_ok,Array.empty_append,List.append_toArray,List.nil_append,hc]
theorem EI{f:FuncId}{xs:List Operand}{vs:List Value}{ts:Array TypeId}{is js:List Nat}{G1:List Own}{Q1:List D7}{R:Value->List Own->List D7->Prop}(hd:Nat.blt d n=true)(hf:oG P f)(hx:evs env xs=some vs)
  (hsel:sel G is=some (G1,Gr)) (hq:Eu Q js=some Q1) (h:Ct P f vs G1 Q1 R) :
  Tr P ⟨some d,.call { callee:=.value (.func f),args:=xs.toArray,argTypes:=ts },ty,pos,Ew,g⟩ (St c n env G Q) (λa w=>∃v G2 Q2,R v G2 Q2/\St c n ((d,v)::env) (G2++Gr) (Q2++Q) a w) :=
 Tr.calls hd (λa w he=>OQ hf hx a w he) hsel hq h
theorem QG{f:FuncId}{xs:List Operand}{vs us:List Value}{ts:Array TypeId}{is js:List Nat}{G1:List Own}{Q1:List D7}{R:Value->List Own->List D7->Prop}(hd:Nat.blt d n=true)(hf:oG P f)(hv:ev env x=some (.func (.func f) #[] us.toArray))(hx:evs env xs=some vs)
  (hsel:sel G is=some (G1,Gr)) (hq:Eu Q js=some Q1) (h:Ct P f (vs++us) G1 Q1 R) :
  Tr P ⟨some d,.call { callee:=.value x,args:=xs.toArray,argTypes:=ts },ty,pos,Ew,g⟩ (St c n env G Q) (λa w=>∃v G2 Q2,R v G2 Q2/\St c n ((d,v)::env) (G2++Gr) (Q2++Q) a w) :=
 Tr.calls hd (λa w he=>Xn hf hv hx a w he) hsel hq h
theorem t_lend{f:FuncId}{xs:List Operand}{vs:List Value}{ts:Array TypeId}{is ls js:List Nat}{G1 GL G3:List Own}{Q1 QL:List D7}{R:Value->List Own->List D7->Prop}(hd:Nat.blt d n=true)(hf:oG P f)(hx:evs env xs=some vs)
  (hsel:sel G is=some (G1,G3)) (hlen:sel G3 ls=some (GL,Gr)) (hq:Eu Q js=some Q1) (hl:∀w S,(∀o∈GL,o.holds w)->(∀k∈keysOf GL,S k)->(∀q∈Q,q.h w S)->∀q∈QL,q.h w S) (h:Ct P f vs G1 (QL++Q1) R) (hR:∀v G2 Q2,R v G2 Q2->Q2=[]) :
  Tr P ⟨some d,.call { callee:=.value (.func f),args:=xs.toArray,argTypes:=ts },ty,pos,Ew,g⟩ (St c n env G Q) (λa w=>∃v G2,R v G2 []/\St c n ((d,v)::env) (G2++(GL++Gr)) Q a w) :=
 Tr.lends hd (λa w he=>OQ hf hx a w he) hsel hlen hq hl h hR
def Qn(c:Cx)(R:Value->List Own->List D7->Prop)(e:Ending)(w':World):Prop :=
 ∃v G' Q' S',e=.returned v/\R v G' Q'/\Heap S' G' Q' w'/\Fr c.L0 c.w0 w'/\(∀k,k<c.w0.heap.size->k ∉ c.L0->(S' k↔c.S0 k))/\(∀k∈keysOf G',k∈c.L0\/c.w0.heap.size<=k)
def Fin(P:Program)(fn:Func)(c:Cx)(R:Value->List Own->List D7->Prop):Exit->Gz:=λe a w=>c.D=[]->bodyPost P fn (Qn c R) e a w
def enum(i:Nat):List Value->List (Nat×Value)
 |[]=>[]
 |v::r=>(i,v)::enum (i+1) r
theorem MR:∀(l:List Value) (i j:Nat) (v:Value),look (enum i l) j=some v->∃k,j=i+k/\l[k]?=some v
 |[],i,j,v,h=>by simp[enum,look] at h
 |u::r,i,j,v,h=>by
  simp only[enum,look] at h
  cases hb:Nat.beq i j with
  |true =>
   rw[hb] at h
   simp only[cond_true,Option.some.injEq] at h
   exact⟨0,by have:=Nat.eq_of_beq_eq_true hb;omega,by simp[h]⟩
  |false =>
   rw[hb] at h
   obtain⟨k,h1,h2⟩:=MR r (i+1) j v h
   exact⟨k+1,by omega,by simpa using h2⟩
theorem Ct.intro{f:FuncId}{fn:Func}{code:Code}{args:List Value}{R:Value->List Own->List D7->Prop}(hf:P.funcs[f]?=some fn)(hb:fn.body=some code)(hn:fn.ntmps=n)(hl:Nat.ble args.length n=true)
  (h:∀c:Cx,c.L0=keysOf G->GC P (Fin P fn c R) code (St c n (enum 0 args) G Q)):Ct P f args G Q R:=by
 intro w S hh
 refine calls_of_wp hf hb ?_
 have hl:=Nat.le_of_ble_eq_true hl
 let c:Cx:=⟨w,S,keysOf G,[]⟩
 refine Code.wp_mono ?_ (h c rfl _ w ⟨S,?_,hh,?_⟩)
 ·intro e a w' he
  exact he rfl
 ·refine⟨⟨by simp[hn];omega,λi v hi=>?_⟩,rfl⟩
  obtain⟨k,rfl,hk⟩:=MR args 0 i v hi
  rw[Nat.zero_add]
  have hlt:k<args.length:=(List.getElem?_eq_some_iff.1 hk).1
  simp only[List.size_toArray]
  rw[Array.getElem?_append_left (by simpa using hlt)]
  simpa using hk
 ·exact⟨Fr.refl _ _,λ_ _ _=>Iff.rfl,λk hk=>.inl hk⟩
def ldV(P:Program)(env:List (Nat×Value))(G:List Own)(a:Tmp)(t:TypeId)(v:Value):Prop :=
 ∃i b o l e,FB G i=some (.cells b l e)/\look env a=some (.pointer (some ⟨b,o,none⟩)) /\
  ((IY P t=some false/\nth l o=some v)\/∃vs,v=.agg vs.toArray/\IY P t=some true/\FN P t=some vs.length/\at_ l o vs)
def resV(P:Program)(env:List (Nat×Value))(G:List Own):List ResultVar->List Value->Prop
 |[],[]=>True
 |.tmp t::r,v::vs=>look env t=some v/\resV P env G r vs
 |.cell a t::r,v::vs=>ldV P env G a t v/\resV P env G r vs
 |_,_=>False
theorem VR(h:St c n env G Q a w):∀{rs:List ResultVar} {vs:List Value},resV P env G rs vs ->
  (rs.mapM fun|.tmp t=>pure (a.tmps.getD t undef)|.cell b t=>do loadVar t (<-asAddr (a.tmps.getD b undef)):Sem (List Value)).run P w=.ok vs w
 |[],[],_=>rfl
 |.tmp t::r,v::vs,hv=>by
  obtain⟨h1,h2⟩:=hv
  have e:a.tmps.getD t undef=v:=by have:=h.en.has t v h1;simp[this]
  simp only[List.mapM_cons,Sem.run_bind,Sem.run_pure,Result.andThen_ok,e,VR h h2]
 |.cell b t::r,v::vs,hv=>by
  obtain⟨⟨i,bb,o,l,e,hi,hb,hld⟩,h2⟩:=hv
  have eb:a.tmps.getD b undef=.pointer (some ⟨bb,o,none⟩):=by have:=h.en.has b _ hb;simp[this]
  have hblk:w.heap[bb]?=some (.cells l.toArray e (0,0)):=h.own hi
  have hadr:(asAddr (a.tmps.getD b undef)).run P w=.ok ⟨bb,o,none⟩ w:=by rw[eb];rfl
  have hrun:(loadVar t ⟨bb,o,none⟩).run P w=.ok v w:=by
   rcases hld with⟨hg,hn⟩|⟨us,rfl,hg,hs,hat⟩
   ·rw[JG] at hn
    exact Lj hg (by simp[World.cell?,hblk,hn])
   ·exact Ll hg hs (Jj hblk (ZB hat))
  simp only[List.mapM_cons,Sem.run_bind,Sem.run_pure,Result.andThen_ok,hadr,hrun,VR h h2]
 |[],_::_,hv=>hv.elim
 |.tmp _::_,[],hv=>hv.elim
 |.cell _ _::_,[],hv=>hv.elim
def RQ:List Value->Value
 |[v]=>v
 |vs=>.tuple vs.toArray
theorem Bf{fn:Func}{rs:List ResultVar}{vs:List Value}{is js:List Nat}{R:Value->List Own->List D7->Prop}(hr:fn.results=rs.toArray)(hv:resV P env G rs vs)(hsel:sel G is=some (G',Gr))(hq:Eu Q js=some Q')(hR:R (RQ vs) G' Q')(h:St c n env G Q a w):Fin P fn c R .ret a w:=by
 have hrun:(results fn a.tmps).run P w=.ok (RQ vs) w:=by
  have h0:=VR (P:=P) h hv
  have h1:(rs.toArray.mapM fun|.tmp t=>pure (a.tmps.getD t undef)|.cell b t=>do loadVar t (<-asAddr (a.tmps.getD b undef)):Sem (Array Value)).run P w=.ok vs.toArray w:=by
   rw[List.mapM_toArray,Sem.run_map]
   exact congrArg (λr=>Result.andThen r λa w'=>Result.ok (List.toArray a) w') h0
  simp only[results,hr,Sem.run_bind]
  refine(congrArg (λr=>Result.andThen r _) h1).trans ?_
  cases vs with
  |nil=>rfl
  |cons v r=>cases r<;>simp[RQ]
 obtain⟨S,he,hh,hrel⟩:=h
 have hp:=Ho hsel
 have hh1:=hh.perm hp
 have Ik:=hrel.perm hp
 intro hD
 exact⟨he.defers.trans hD,_,hrun,_,G',Q',S,rfl,hR,hh1.sub (List.sublist_append_left _ _) (Gv hq),hrel.fr,hrel.old,λk hk=>Ik.key k (by rw[EY];exact List.mem_append_left _ hk)⟩
theorem Bz{fn:Func}{is js:List Nat}{R:Value->List Own->List D7->Prop}(hr:fn.results=#[])(hsel:sel G is=some (G',Gr))(hq:Eu Q js=some Q')(hR:R (.tuple #[]) G' Q')(h:St c n env G Q a w):Fin P fn c R .normal a w :=
 Bf (rs:=[]) (vs:=[]) (by rw[hr]) trivial hsel hq hR h
theorem St.sub(h:St c n env G Q a w)(hs:sub env env'):St c n env' G Q a w:=by
 obtain⟨S,he,hh,hrel⟩:=h
 exact⟨S,he.sub hs,hh,hrel⟩
theorem St.cut{is js:List Nat}(h:St c n env G Q a w)(hs:Sx.sub env env')(hsel:sel G is=some (G',Gr))(hq:Eu Q js=some Q'):St c n env' G' Q' a w:=by
 obtain⟨S,he,hh,hrel⟩:=h
 have hp:=Ho hsel
 exact⟨S,he.sub hs,(hh.perm hp).sub (List.sublist_append_left _ _) (Gv hq),(hrel.perm hp).fr,hrel.old,λk hk=>(hrel.perm hp).key k (by rw[EY];exact List.mem_append_left _ hk)⟩
theorem St.know{q:D7}(h:St c n env G Q a w)(hq:∀w S,(∀p∈Q,p.h w S)->q.h w S):St c n env G (q::Q) a w:=by
 obtain⟨S,he,hh,hrel⟩:=h
 exact⟨S,he,⟨hh.own,hh.Oj,hh.out,λp hp=>by
  rcases List.mem_cons.1 hp with rfl|hp
  ·exact hq w S hh.per
  ·exact hh.per p hp⟩,hrel⟩
theorem St.freeze{i:Nat}{o:Own}{QN:List D7}(h:St c n env G Q a w)(ht:I7 G i=some (o,G'))(hq:∀w S,o.holds w->(∀k∈o.keys,S k)->(∀p∈Q,p.h w S)->∀q∈QN,q.h w S):St c n env G' (QN++Q) a w:=by
 obtain⟨S,he,hh,hrel⟩:=h
 have hp:=Qu ht
 have hh1:=hh.perm hp
 have Ik:=hrel.perm hp
 have hn:(o.keys++keysOf G').Nodup:=hh1.Oj
 rw[List.nodup_append] at hn
 have up:∀q∈Q,q.h w (λk=>S k\/k∈o.keys):=λq hq=>q.st (hh.per q hq) λk hs _=>⟨.inl hs,rfl⟩
 refine⟨λk=>S k\/k∈o.keys,he,⟨λx hx=>hh1.own x (List.mem_cons_of_mem _ hx),hn.2.1,λk hk hs=>?_,λq hq'=>?_⟩,⟨hrel.fr,λk hlt hL=>⟨λhs=>?_,λhs=>.inl ((hrel.old k hlt hL).2 hs)⟩,λk hk=>Ik.key k (by exact List.mem_append_right _ hk)⟩⟩
 ·rcases hs with hs|hs
  ·exact hh1.out k (List.mem_append_right _ hk) hs
  ·exact hn.2.2 k hs k hk rfl
 ·rcases List.mem_append.1 hq' with hq'|hq'
  ·exact hq w _ (hh1.own o (List.mem_cons_self)) (λk hk=>.inr hk) up q hq'
  ·exact up q hq'
 ·rcases hs with hs|hs
  ·exact(hrel.old k hlt hL).1 hs
  ·rcases Ik.key k (List.mem_append_left _ hs) with h1|h1
   ·exact absurd h1 hL
   ·omega
theorem St.Qw{i:Nat}{o o':Own}(h:St c n env G Q a w)(hi:FB G i=some o)(hr:Io G i o'=some G')(hk:o'.keys=o.keys)(ho:∀w,o.holds w->o'.holds w):St c n env G' Q a w:=by
 obtain⟨S,he,hh,hrel⟩:=h
 have hn:o'.keys.Nodup:=by
  rw[hk]
  obtain⟨x,y,rfl,_⟩:=M_ hi hr
  have:=hh.Oj
  simp only[keysOf,List.flatMap_append,List.flatMap_cons,List.nodup_append] at this
  exact this.2.1.1
 exact St.write ⟨S,he,hh,hrel⟩ hi hr (Fr.refl _ _) (ho w (hh.own o (FI hi))) (λk hkk=>.inl (hk▸hkk)) hn he
theorem GC.cond{R:Exit->Gz}{z:Operand}{b:Bool}{thn els:Code}(hz:ev env z=some (.bool b))(ht:b=true->GC P R thn (St c n env G Q))(hf:b=false->GC P R els (St c n env G Q)):GC P R (.cond z thn els) (St c n env G Q) :=
 λa w h=>wp_cond_split (h.en.eval hz) (λe=>ht e a w h) (λe=>hf e a w h)
theorem AU{R:Exit->Gz}{z:Operand}{thn els:Code}(hz:ev env z=some (.bool true))(ht:GC P R thn (St c n env G Q)):GC P R (.cond z thn els) (St c n env G Q) :=
 λa w h=>wp_cond_true (h.en.eval hz) (ht a w h)
theorem AY{R:Exit->Gz}{z:Operand}{thn els:Code}(hz:ev env z=some (.bool false))(ht:GC P R els (St c n env G Q)):GC P R (.cond z thn els) (St c n env G Q) :=
 λa w h=>wp_cond_false (h.en.eval hz) (ht a w h)
theorem GL.split{ops:Array Oper}{R:Exit->Gz}{rest:List Oper}{i:Nat}{b:Bool}(hi:look env i=some (.bool b))(ht:b=true->GL P ops R rest (St c n ((i,.bool true)::env) G Q))(hf:b=false->GL P ops R rest (St c n ((i,.bool false)::env) G Q)):GL P ops R rest (St c n env G Q):=by
 rintro a w ⟨S,he,hh,hrel⟩
 cases b
 ·exact hf rfl a w ⟨S,he.over hi,hh,hrel⟩
 ·exact ht rfl a w ⟨S,he.over hi,hh,hrel⟩
theorem Oc{ops:Array Oper}{o:Oper}{j s:Nat}{want:Bool}(hg:o.guard=some (j,want))(hj:(ops[j]?).bind (·.dst)=some s)(hs:look env s=some (.bool want))(he:Env n env a):Region.wanted o (yielded ops a.tmps)=true:=by
 have:=he.has s _ hs
 simp[Region.wanted,hg,yielded,hj,this]
theorem S9{ops:Array Oper}{o:Oper}{j s:Nat}{want:Bool}(hg:o.guard=some (j,want))(hj:(ops[j]?).bind (·.dst)=some s)(hs:look env s=some (.bool (!want)))(he:Env n env a):Region.wanted o (yielded ops a.tmps)=false:=by
 have:=he.has s _ hs
 cases want<;>simp[Region.wanted,hg,yielded,hj,this]
theorem RN{ops:Array Oper}{o:Oper}{j s:Nat}{want:Bool}(hg:o.guard=some (j,want))(hj:(ops[j]?).bind (·.dst)=some s)(hs:look env s=some undef)(he:Env n env a):Region.wanted o (yielded ops a.tmps)=false:=by
 have:=he.has s _ hs
 cases want<;>simp[Region.wanted,hg,yielded,hj,this,undef]
theorem Au{ops:Array Oper}{R:Exit->Gz}{rest:List Oper}{o:Oper}{B:Gz}{j s:Nat}{want:Bool}(hg:o.guard=some (j,want))(hj:(ops[j]?).bind (·.dst)=some s)(hs:look env s=some (.bool want))(h:Tr P o (St c n env G Q) B)(k:GL P ops R rest B):GL P ops R (o::rest) (St c n env G Q) :=
 λa w ha=>wpList_step λK hK=>by
  rw[if_pos (Oc hg hj hs ha.en.toEnv)]
  exact h a w ha K R λa' w' hb=>hK a' w' (k a' w' hb)
theorem Ba{ops:Array Oper}{R:Exit->Gz}{rest:List Oper}{op:Op}{v:Value}{j s:Nat}{want:Bool}(hj:(ops[j]?).bind (·.dst)=some s)(hs:look env s=some (.bool want))(hd:Nat.blt d n=true)(h:Pv P n env ⟨some d,op,ty,pos,Ew,some (j,want)⟩ v)(k:GL P ops R rest (St c n ((d,v)::env) G Q)) :
  GL P ops R (⟨some d,op,ty,pos,Ew,some (j,want)⟩::rest) (St c n env G Q):=Au rfl hj hs (Tr.val hd h) k
theorem GL.pass{ops:Array Oper}{R:Exit->Gz}{rest:List Oper}{op:Op}{j s:Nat}{want:Bool}(hj:(ops[j]?).bind (·.dst)=some s)(hs:look env s=some (.bool (!want)))(hd:Nat.blt d n=true)(k:GL P ops R rest (St c n ((d,undef)::env) G Q)) :
  GL P ops R (⟨some d,op,ty,pos,Ew,some (j,want)⟩::rest) (St c n env G Q):=λa w ha =>
 wpList_skip (S9 rfl hj hs ha.en.toEnv) (k _ w (ha.keep (Fr.refl _ _) (ha.en.put hd _)))
theorem Dl{ops:Array Oper}{R:Exit->Gz}{rest:List Oper}{op:Op}{j s:Nat}{want:Bool}(hj:(ops[j]?).bind (·.dst)=some s)(hs:look env s=some undef)(hd:Nat.blt d n=true)(k:GL P ops R rest (St c n ((d,undef)::env) G Q)) :
  GL P ops R (⟨some d,op,ty,pos,Ew,some (j,want)⟩::rest) (St c n env G Q):=λa w ha =>
 wpList_skip (RN rfl hj hs ha.en.toEnv) (k _ w (ha.keep (Fr.refl _ _) (ha.en.put hd _)))
end
end Go.Sx
namespace Go.Sx
open Go
def Mem(c:Cx)(G:List Own)(Q:List D7)(w:World):Prop:=∃S,Heap S G Q w/\Rel c S G w
theorem Mem.of{c:Cx}{n:Nat}{env:List (Nat×Value)}{G:List Own}{Q:List D7}{a:Act}{w:World}(h:St c n env G Q a w):Mem c G Q w:=by obtain⟨S,_,hh,hr⟩:=h;exact⟨S,hh,hr⟩
theorem Mem.st{c:Cx}{n:Nat}{env:List (Nat×Value)}{G:List Own}{Q:List D7}{a:Act}{w:World}(h:Mem c G Q w)(he:Nc c.D n env a):St c n env G Q a w:=by obtain⟨S,hh,hr⟩:=h;exact⟨S,he,hh,hr⟩
theorem Mem.keep{c:Cx}{G:List Own}{Q:List D7}{w w':World}(h:Mem c G Q w)(hf:Fr [] w w'):Mem c G Q w':=by
 obtain⟨S,hh,hrel⟩:=h
 exact⟨S,hh.move λk hlt _=>hf.block k hlt (by simp),hrel.step hf (by simp) (λ_ _ _=>Iff.rfl) λk hk=>.inl hk⟩
theorem Mem.own{c:Cx}{G:List Own}{Q:List D7}{w:World}{i:Nat}{o:Own}(h:Mem c G Q w)(hi:FB G i=some o):o.holds w:=by obtain⟨S,hh,_⟩:=h;exact hh.own o (FI hi)
theorem Mem.per{c:Cx}{G:List Own}{Q:List D7}{w:World}{i:Nat}{q:D7}(h:Mem c G Q w)(hi:FB Q i=some q):∃S,q.h w S:=by obtain⟨S,hh,_⟩:=h;exact⟨S,hh.per q (FI hi)⟩
end Go.Sx
namespace Go.Sx
open Go
section
variable {P:Program}{c:Cx}{n:Nat}{env env':List (Nat×Value)}{G G' Gr:List Own}{Q Q':List D7}{d:Nat}{ty:TypeId}{pos:String}{Ew:Array Edge}{g:Option (Nat×Bool)}{x y:Operand}{t:TypeId}{a a':Act}{w w':World}
def GQ(P:Program)(c:Cx)(n:Nat)(G:List Own)(Q:List D7)(ops:Array Oper)(l:List Oper)(env:List (Nat×Value))(M:List (Nat×Value)->Prop):Prop :=
 ∀a,Nc c.D n env a->wpQuiet P ops (Mem c G Q) (λa'=>∃env',Nc c.D n env' a'/\M env') l a
theorem BO{ops:Array Oper}{M:List (Nat×Value)->Prop}(h:M env):GQ P c n G Q ops [] env M:=λa ha=>wpQuiet_nil ⟨env,ha,h⟩
def Pq(P:Program)(c:Cx)(n:Nat)(G:List Own)(Q:List D7)(env:List (Nat×Value))(o:Oper)(v:Value):Prop:=∀a w,Env n env a->Mem c G Q w->o.quietAt P a (Mem c G Q) w v
theorem GQ.step{ops:Array Oper}{rest:List Oper}{op:Op}{v:Value}{M:List (Nat×Value)->Prop}(hd:Nat.blt d n=true)(h:Pq P c n G Q env ⟨some d,op,ty,pos,Ew,none⟩ v)(k:GQ P c n G Q ops rest ((d,v)::env) M):GQ P c n G Q ops (⟨some d,op,ty,pos,Ew,none⟩::rest) env M:=λa ha =>
 wpQuiet_step λK hK=>by
  rw[if_pos (by simp[Region.wanted])]
  exact⟨v,λw hw=>h a w ha.toEnv hw,hK _ (k _ (ha.put hd v))⟩
theorem Ai{ops:Array Oper}{rest:List Oper}{op:Op}{v:Value}{M:List (Nat×Value)->Prop}{j s:Nat}{want:Bool}(hj:(ops[j]?).bind (·.dst)=some s)(hs:look env s=some (.bool want))(hd:Nat.blt d n=true)(h:Pq P c n G Q env ⟨some d,op,ty,pos,Ew,some (j,want)⟩ v)(k:GQ P c n G Q ops rest ((d,v)::env) M) :
  GQ P c n G Q ops (⟨some d,op,ty,pos,Ew,some (j,want)⟩::rest) env M:=λa ha =>
 wpQuiet_step λK hK=>by
  rw[if_pos (Oc rfl hj hs ha.toEnv)]
  exact⟨v,λw hw=>h a w ha.toEnv hw,hK _ (k _ (ha.put hd v))⟩
theorem GQ.pass{ops:Array Oper}{rest:List Oper}{op:Op}{M:List (Nat×Value)->Prop}{j s:Nat}{want:Bool}(hj:(ops[j]?).bind (·.dst)=some s)(hs:look env s=some (.bool (!want)))(hd:Nat.blt d n=true)(k:GQ P c n G Q ops rest ((d,undef)::env) M) :
  GQ P c n G Q ops (⟨some d,op,ty,pos,Ew,some (j,want)⟩::rest) env M:=λa ha =>
 wpQuiet_step λK hK=>by
  rw[if_neg (by rw[S9 rfl hj hs ha.toEnv];simp)]
  exact hK _ (k _ (ha.put hd undef))
theorem Bo{ops:Array Oper}{rest:List Oper}{op:Op}{M:List (Nat×Value)->Prop}{j s:Nat}{want:Bool}(hj:(ops[j]?).bind (·.dst)=some s)(hs:look env s=some undef)(hd:Nat.blt d n=true)(k:GQ P c n G Q ops rest ((d,undef)::env) M) :
  GQ P c n G Q ops (⟨some d,op,ty,pos,Ew,some (j,want)⟩::rest) env M:=λa ha =>
 wpQuiet_step λK hK=>by
  rw[if_neg (by rw[RN rfl hj hs ha.toEnv];simp)]
  exact hK _ (k _ (ha.put hd undef))
theorem BJ{ops:Array Oper}{rest:List Oper}{M:List (Nat×Value)->Prop}{i:Nat}{b:Bool}(hi:look env i=some (.bool b))(ht:b=true->GQ P c n G Q ops rest ((i,.bool true)::env) M)(hf:b=false->GQ P c n G Q ops rest ((i,.bool false)::env) M):GQ P c n G Q ops rest env M:=by
 intro a he
 cases b
 ·exact hf rfl a (he.over hi)
 ·exact ht rfl a (he.over hi)
theorem EP{o:Oper}{v:Value}(h:Pv P n env o v):Pq P c n G Q env o v:=λa w he hm=>by
 unfold Oper.quietAt
 rw[h a w he]
 exact⟨rfl,rfl⟩
def Pm(P:Program)(c:Cx)(n:Nat)(G:List Own)(Q:List D7)(env:List (Nat×Value))(o:Oper)(v:Value):Prop:=∀a w,Env n env a->Mem c G Q w->(execOp a.eval o).run P w=.ok (.value v) w
theorem Ea{o:Oper}{v:Value}(h:Pm P c n G Q env o v):Pq P c n G Q env o v:=λa w he hm=>by
 unfold Oper.quietAt
 rw[h a w he hm]
 exact⟨rfl,rfl⟩
theorem Ed{op:Op}{v:Value}(hd:Nat.blt d n=true)(h:Pm P c n G Q env ⟨some d,op,ty,pos,Ew,g⟩ v):Tr P ⟨some d,op,ty,pos,Ew,g⟩ (St c n env G Q) (St c n ((d,v)::env) G Q):=λa w hs K R hk=>by
 unfold Oper.wp
 rw[h a w hs.en.toEnv (Mem.of hs)]
 exact hk _ _ (hs.keep (Fr.refl _ _) (hs.en.put hd _))
theorem Pm.load{p:Addr}{v:Value}(hx:ev env x=some (.pointer (some p)))(h:∀w,Mem c G Q w->(loadVar t p).run P w=.ok v w):Pm P c n G Q env ⟨some d,.load t x,ty,pos,Ew,g⟩ v:=λa w he hm=>by
 simp only[execOp,he.eval hx,Instr.loadAt,Instr.sureAddr,Sem.run_bind,Sem.run_pure,Result.andThen_ok,h w hm]
theorem EF{i b o:Nat}{l:List Value}{e:TypeId}{v:Value}(hi:FB G i=some (.cells b l e))(hx:ev env x=some (.pointer (some ⟨b,o,none⟩)))(hg:IY P t=some false)(hv:nth l o=some v):Pm P c n G Q env ⟨some d,.load t x,ty,pos,Ew,g⟩ v :=
 Pm.load hx λw hs=>Lj hg (by
  have hb:w.heap[b]?=some (.cells l.toArray e (0,0)):=hs.own hi
  rw[JG] at hv
  simp[World.cell?,hb,hv])
theorem G7{i b o:Nat}{l vs:List Value}{e:TypeId}(hi:FB G i=some (.cells b l e))(hx:ev env x=some (.pointer (some ⟨b,o,none⟩)))(hg:IY P t=some true)(hs:FN P t=some vs.length)(hv:at_ l o vs):Pm P c n G Q env ⟨some d,.load t x,ty,pos,Ew,g⟩ (.agg vs.toArray) :=
 Pm.load hx λw hst=>Ll hg hs (Jj (hst.own hi) (ZB hv))
theorem ES{i o:Nat}{p:Addr}{l:List Value}{v:Value}(hi:FB Q i=some (D7.at p l))(hx:ev env x=some (.pointer (some (p.add o))))(hg:IY P t=some false)(hv:nth l o=some v):Pm P c n G Q env ⟨some d,.load t x,ty,pos,Ew,g⟩ v :=
 Pm.load hx λw hs=>Lj hg (by
  obtain⟨S,_,_,hc⟩:=hs.per hi
  rw[JG] at hv
  exact hc o v hv)
theorem FX{i o:Nat}{p:Addr}{l vs:List Value}(hi:FB Q i=some (D7.at p l))(hx:ev env x=some (.pointer (some (p.add o))))(hg:IY P t=some true)(hs:FN P t=some vs.length)(hv:at_ l o vs):Pm P c n G Q env ⟨some d,.load t x,ty,pos,Ew,g⟩ (.agg vs.toArray) :=
 Pm.load hx λw hst=>Ll hg hs (by
  obtain⟨S,_,_,hc⟩:=hst.per hi
  intro j u hj
  rw[add_add]
  exact hc _ u (ZB hv j u hj))
theorem JU{f:FuncId}{xs:List Operand}{vs:List Value}{ts:Array TypeId}{js:List Nat}{Q1:List D7}{v:Value}(hf:oG P f)(hx:evs env xs=some vs)(hq:Eu Q js=some Q1)(h:Ct P f vs [] Q1 (λu G2 Q2=>u=v/\G2=[]/\Q2=[])) :
  Pq P c n G Q env ⟨some d,.call { callee:=.value (.func f),args:=xs.toArray,argTypes:=ts },ty,pos,Ew,g⟩ v:=λa w he hm=>by
 unfold Oper.quietAt
 rw[OQ hf hx a w he]
 refine⟨rfl,?_⟩
 obtain⟨S,hh,hrel⟩:=hm
 refine(h w S ⟨by simp,by simp[keysOf],by simp[keysOf],λq hq'=>hh.per q (Gv hq q hq')⟩).mono ?_
 rintro e w' ⟨u,G2,Q2,S',rfl,⟨rfl,rfl,rfl⟩,_,hfr,_⟩
 exact⟨rfl,Mem.keep ⟨S,hh,hrel⟩ hfr⟩
theorem kS{f:FuncId}{xs:List Operand}{vs:List Value}{ts:Array TypeId}{is js:List Nat}{G1:List Own}{Q1:List D7}{v:Value}(hf:oG P f)(hx:evs env xs=some vs)(hsel:sel G is=some (G1,Gr))(hq:Eu Q js=some Q1)(h:Ct P f vs G1 Q1 (λu G2 Q2=>u=v/\G2=G1/\Q2=[])) :
  Pq P c n G Q env ⟨some d,.call { callee:=.value (.func f),args:=xs.toArray,argTypes:=ts },ty,pos,Ew,g⟩ v:=λa w he hm=>by
 unfold Oper.quietAt
 rw[OQ hf hx a w he]
 refine⟨rfl,?_⟩
 obtain⟨S,hh,hrel⟩:=hm
 have hp:=Ho hsel
 have hh1:=hh.perm hp
 have Ik:=hrel.perm hp
 refine(h w S (hh1.sub (List.sublist_append_left _ _) (Gv hq))).mono ?_
 rintro e w' ⟨u,G2,Q2,S',rfl,⟨rfl,rfl,rfl⟩,h',hfr,hS,hk⟩
 refine⟨rfl,?_⟩
 have h1:=CU (n:=n) (env:=env) (a':={ a with defers:=c.D }) hh1 Ik h' hfr hS hk ⟨⟨he.size,he.has⟩,rfl⟩
 obtain⟨S2,_,h2,h3⟩:=h1
 exact⟨S2,by rw[List.nil_append] at h2;exact h2.perm hp.symm,h3.perm hp.symm⟩
theorem BP{R:Exit->Gz}{id:Nat}{l:List Oper}(hm:P.follows .mixedOrders=true)(hB:Region.lexB .any l.toArray=true)(h:GQ P c n G Q l.toArray l env (λenv'=>∀a w,St c n env' G Q a w->R .normal a w)):GC P R (.region id l.toArray true) (St c n env G Q):=λa w ha=>by
 refine wp_region_quiet (C:=Mem c G Q) hm hB ((Mem.of ha).keep (Fr.drew [] w)) ?_
 have:=h a ha.en
 simp only
 have key:∀(l':List Oper) (a:Act) (F F':Act->Prop),(∀a,F a->F' a)->wpQuiet P l.toArray (Mem c G Q) F l' a->wpQuiet P l.toArray (Mem c G Q) F' l' a:=by
  intro l'
  induction l' with
  |nil=>exact λa F F' hF h=>hF a h
  |cons o r ih =>
   intro a F F' hF h
   simp only[wpQuiet] at h ⊢
   split
   ·rename_i hw;rw[if_pos hw] at h;exact Oper.quiet_mono (λa=>ih a F F' hF) h
   ·rename_i hw;rw[if_neg hw] at h;exact ih _ F F' hF h
 exact key l a _ _ (λa' ⟨env',he',hM⟩ w' hw'=>hM a' w' (hw'.st he')) this
def UM(M:Gz):Exit->Gz
 |.normal=>M
 |_=>λ_ _=>False
def GA(P:Program)(ops:Array Oper)(M:Gz)(I:World->Prop)(fuel:Nat)(listed:Array Bool)(A:Gz):Prop:=∀a w,A a w->wpAnyH P .any ops (UM M) I fuel listed a w
theorem GC.regionA{R:Exit->Gz}{A M:Gz}{I:World->Prop}{id m:Nat}{l:List Oper}(hm:P.follows .mixedOrders=true)(hsz:l.length=m)(hA:∀a w,A a w->A a w.drew)(h:GA P l.toArray M I m (Array.replicate m false) A)(k:∀a w,M a w->R .normal a w):GC P R (.region id l.toArray true) A:=λa w ha=>by
 refine Code.wp_mono (λe a w he=>?_) (wp_region_held (Q:=UM M) (S:=I) hm ?_)
 ·cases e<;>first|exact k _ _ he|exact he.elim
 ·subst hsz
  have:=h a _ (hA a w ha)
  simpa using this
theorem St.drew(h:St c n env G Q a w):St c n env G Q a w.drew:=h.keep (Fr.drew [] w) h.en
theorem CS{R:Exit->Gz}{M:Gz}{id m:Nat}{l:List Oper}{is js:List Nat}{GI:List Own}{QI:List D7}(hm:P.follows .mixedOrders=true)(hsz:l.length=m)(hsel:sel G is=some (GI,Gr))(hq:Eu Q js=some QI)(h:GA P l.toArray M (Mem c GI QI) m (Array.replicate m false) (St c n env G Q))(k:∀a w,M a w->R .normal a w):GC P R (.region id l.toArray true) (St c n env G Q) :=
 GC.regionA hm hsz (λa w h=>h.drew) h k
end
end Go.Sx
namespace Go.Sx
open Go
section
variable {P:Program}{c:Cx}{n:Nat}{env env':List (Nat×Value)}{G G' Gr:List Own}{Q Q':List D7}{d:Nat}{ty:TypeId}{pos:String}{Ew:Array Edge}{g:Option (Nat×Bool)}{x y:Operand}{t:TypeId}{a a':Act}{w w':World}
variable {ops:Array Oper}{M A B:Gz}{I:World->Prop}{fuel:Nat}{listed:Array Bool}
theorem BG(hr:Region.ready .any ops listed=[])(h:∀a w,A a w->M a w):GA P ops M I fuel listed A:=λa w ha=>wpAnyH_done hr (h a w ha) fuel
theorem BZ{α:Type}{F:α->Gz}(k:∀x,GA P ops M I fuel listed (F x)):GA P ops M I fuel listed (λa w=>∃x,F x a w):=λa w ⟨x,hx⟩=>k x a w hx
theorem GA.imp(h:∀a w,A a w->B a w)(k:GA P ops M I fuel listed B):GA P ops M I fuel listed A:=λa w ha=>k a w (h a w ha)
theorem DL{i:Nat}{b:Bool}(hi:look env i=some (.bool b))(ht:b=true->GA P ops M I fuel listed (St c n ((i,.bool true)::env) G Q))(hf:b=false->GA P ops M I fuel listed (St c n ((i,.bool false)::env) G Q)):GA P ops M I fuel listed (St c n env G Q):=by
 rintro a w ⟨S,he,hh,hrel⟩
 cases b
 ·exact hf rfl a w ⟨S,he.over hi,hh,hrel⟩
 ·exact ht rfl a w ⟨S,he.over hi,hh,hrel⟩
def Pi(P:Program)(n:Nat)(I:World->Prop)(env:List (Nat×Value))(o:Oper)(v:Value):Prop:=∀a w,Env n env a->I w->(execOp a.eval o).run P w=.ok (.value v) w
theorem EK{o:Oper}{v:Value}(h:Pv P n env o v):Pi P n I env o v:=λa w he _=>h a w he
theorem i_mem{c':Cx}{GI:List Own}{QI:List D7}{v:Value}{o:Oper}(h:Pm P c' n GI QI env o v):Pi P n (Mem c' GI QI) env o v:=λa w he hI=>h a w he hI
theorem GA.take{op:Op}{v:Value}(i:Nat)(hi:ops[i]?=some ⟨some d,op,ty,pos,Ew,none⟩)(hs:Region.noSelect ops=true)(hf:Region.free .any ops listed i=true)(hr:(Region.ready .any ops listed).contains i=true)(hd:Nat.blt d n=true)(hI:∀a w,St c n env G Q a w->I w)
  (h:Pi P n I env ⟨some d,op,ty,pos,Ew,none⟩ v) (k:GA P ops M I fuel (listed.setIfInBounds i true) (St c n ((d,v)::env) G Q)):GA P ops M I (fuel+1) listed (St c n env G Q):=λa w ha =>
 wpAnyH_take hi hs hf hr (λ_ _ _ h=>h) (.inl ⟨by simp[Region.wanted],λw' hw'=>h a w' ha.en.toEnv hw'⟩) (hI a w ha) (k _ w (ha.keep (Fr.refl _ _) (ha.en.put hd v)))
theorem BN{op:Op}{v:Value}{j s:Nat}{want:Bool}(i:Nat)(hi:ops[i]?=some ⟨some d,op,ty,pos,Ew,some (j,want)⟩)(hj:(ops[j]?).bind (·.dst)=some s)(hs':look env s=some (.bool want))(hs:Region.noSelect ops=true)(hf:Region.free .any ops listed i=true)(hr:(Region.ready .any ops listed).contains i=true)(hd:Nat.blt d n=true)(hI:∀a w,St c n env G Q a w->I w)
  (h:Pi P n I env ⟨some d,op,ty,pos,Ew,some (j,want)⟩ v) (k:GA P ops M I fuel (listed.setIfInBounds i true) (St c n ((d,v)::env) G Q)):GA P ops M I (fuel+1) listed (St c n env G Q):=λa w ha =>
 wpAnyH_take hi hs hf hr (λ_ _ _ h=>h) (.inl ⟨Oc rfl hj hs' ha.en.toEnv,λw' hw'=>h a w' ha.en.toEnv hw'⟩) (hI a w ha) (k _ w (ha.keep (Fr.refl _ _) (ha.en.put hd v)))
theorem GA.takeX{op:Op}{j s:Nat}{want:Bool}(i:Nat)(hi:ops[i]?=some ⟨some d,op,ty,pos,Ew,some (j,want)⟩)(hj:(ops[j]?).bind (·.dst)=some s)(hs':look env s=some (.bool (!want)))(hs:Region.noSelect ops=true)(hf:Region.free .any ops listed i=true)(hr:(Region.ready .any ops listed).contains i=true)(hd:Nat.blt d n=true)(hI:∀a w,St c n env G Q a w->I w)
  (k:GA P ops M I fuel (listed.setIfInBounds i true) (St c n ((d,undef)::env) G Q)):GA P ops M I (fuel+1) listed (St c n env G Q):=λa w ha =>
 wpAnyH_take hi hs hf hr (λ_ _ _ h=>h) (.inr ⟨S9 rfl hj hs' ha.en.toEnv,rfl⟩) (hI a w ha) (k _ w (ha.keep (Fr.refl _ _) (ha.en.put hd undef)))
def E8(P:Program)(ops:Array Oper)(M:Gz)(I:World->Prop)(fuel:Nat)(listed:Array Bool)(A:Gz)(rs:List Nat):Prop :=
 ∀i∈rs,∀a w,A a w->wpOp P ops (UM M) i (λa' w'=>I w'/\wpAnyH P .any ops (UM M) I fuel (listed.setIfInBounds i true) a' w') a w
theorem GA.all{rs:List Nat}(hr:Region.ready .any ops listed=rs)(hne:rs≠[])(h:E8 P ops M I fuel listed A rs):GA P ops M I (fuel+1) listed A:=λa w ha=>wpAnyH_all hr hne λi hi=>h i hi a w ha
theorem Ag:E8 P ops M I fuel listed A []:=λi hi=>by cases hi
theorem E8.cons{o:Oper}{i:Nat}{rs:List Nat}(hi:ops[i]?=some o)(hg:o.guard=none)(h:Tr P o A B)(hI:∀a w,B a w->I w)(k:GA P ops M I fuel (listed.setIfInBounds i true) B)(r:E8 P ops M I fuel listed A rs):E8 P ops M I fuel listed A (i::rs):=by
 intro j hj a w ha
 rcases List.mem_cons.1 hj with rfl|hj
 ·unfold wpOp
  rw[hi]
  simp only[Region.wanted,hg,if_true]
  exact .inl (h a w ha _ _ λa' w' hb=>⟨hI _ _ hb,k a' w' hb⟩)
 ·exact r j hj a w ha
theorem C9{o:Oper}{i j s:Nat}{want:Bool}{rs:List Nat}(hi:ops[i]?=some o)(hg:o.guard=some (j,want))(hj:(ops[j]?).bind (·.dst)=some s)(hs:look env s=some (.bool want))(h:Tr P o (St c n env G Q) B)(hI:∀a w,B a w->I w)(k:GA P ops M I fuel (listed.setIfInBounds i true) B)(r:E8 P ops M I fuel listed (St c n env G Q) rs):E8 P ops M I fuel listed (St c n env G Q) (i::rs):=by
 intro j' hj' a w ha
 rcases List.mem_cons.1 hj' with rfl|hj'
 ·unfold wpOp
  rw[hi]
  simp only[Oc hg hj hs ha.en.toEnv,if_true]
  exact .inl (h a w ha _ _ λa' w' hb=>⟨hI _ _ hb,k a' w' hb⟩)
 ·exact r j' hj' a w ha
end
end Go.Sx
namespace Go.Sx
open Go
def bytesB(P:Program)(t:TypeId):Option Nat:=(P.info? t).map (·.bytes)
structure El(P:Program)(t e:TypeId)(sz Y8:Nat)(z:List Value):Prop where
 und:P.underlying t=some (.slice e)
 size:FN P e=some sz
 byt:bytesB P e=some Y8
 zero:F7 P e=some z
 zlen:z.length=sz
 spos:0<sz
 bpos:0<Y8
theorem VX{α:Type}{d:Kd α}{w:World}{S:Blocks}:∀{xs:List α} {a:Addr},(∀i x,xs[i]?=some x->∃cs,d.K w S x cs/\Il w (a.add (i * d.sz)) cs)->∃cs,JO d w S xs cs/\Il w a cs
 |[],a,_=>⟨[],rfl,DN w a⟩
 |x::r,a,h=>by
  obtain⟨c,hk,hc⟩:=h 0 x rfl
  obtain⟨t,hr,ht⟩:=VX (xs:=r) (a:=a.add d.sz) (λi y hy=>by
   obtain⟨cs,h1,h2⟩:=h (i+1) y (by simpa using hy)
   exact⟨cs,h1,by rw[add_add];rw[show d.sz+i * d.sz=(i+1) * d.sz by rw[Nat.add_mul];omega];exact h2⟩)
  refine⟨c++t,⟨c,t,rfl,hk,hr⟩,λj u hj=>?_⟩
  by_cases hlt:j<c.length
  ·rw[List.getElem?_append_left hlt] at hj
   have:=hc j u hj
   rwa [add_add,Nat.zero_mul,Nat.zero_add] at this
  ·rw[List.getElem?_append_right (by omega)] at hj
   have:=ht _ u hj
   rwa [add_add,DK hk,show d.sz+(j - d.sz)=j by have:=DK hk;omega] at this
end Go.Sx
namespace Go.Sx
open Go
section
variable {P:Program}{c:Cx}{n:Nat}{env env':List (Nat×Value)}{G G' Gr:List Own}{Q Q':List D7}{d:Nat}{ty:TypeId}{pos:String}{Ew:Array Edge}{g:Option (Nat×Bool)}{x y:Operand}{t:TypeId}{a a':Act}{w w':World}
theorem St.Hu(h:St c n env G Q a w)(e:TypeId)(sz:Nat):St c n env (.row (.slice none 0 0) e sz 0 []::G) Q a w:=by
 obtain⟨S,he,hh,hrel⟩:=h
 refine⟨S,he,⟨λo ho=>?_,?_,?_,hh.per⟩,hrel.fr,hrel.old,?_⟩
 ·rcases List.mem_cons.1 ho with rfl|ho
  ·exact World.ownsRow_nil w 0 e sz
  ·exact hh.own o ho
 ·simpa[keysOf,Own.keys,Value.ownBlock] using hh.Oj
 ·simpa[keysOf,Own.keys,Value.ownBlock] using hh.out
 ·simpa[keysOf,Own.keys,Value.ownBlock] using hrel.key
theorem Tr.append{i n0 m cp sz Y8:Nat}{e:TypeId}{z:List Value}{v:Value}{cs:List Value}{A:Option Addr}{F:List Value->Prop}{QN:List Value->List D7}{GN:Value->List Value->List Own}(hd:Nat.blt d n=true)(hel:El P t e sz Y8 z)
  (hi:FB G i=some (.row v e sz n0 cs)) (hx:ev env x=some v) (hy:ev env y=some (.slice A m cp))
  (hsrc:∀w S,Heap S G Q w->∃news,news.length=m * sz/\(∀u∈news,u.oneCell'=true)/\(m=0\/∃ad,A=some ad/\Il w ad news)/\F news/\∀q∈QN news,q.h w S)
  (hb:(n0+m) * Y8<=140737488355328) (hr:∀v' news,Io G i (.row v' e sz (n0+m) (cs++news))=some (GN v' news)) :
  Tr P ⟨some d,.call { callee:=.builtin .append,args:=#[x,y],argTypes:=#[t,t] },ty,pos,Ew,g⟩ (St c n env G Q)
   (λa w=>∃v' news,F news/\St c n ((d,v')::env) (GN v' news) (QN news++Q) a w):=by
 intro a w h K R hk
 obtain⟨S,he,hh,hrel⟩:=h
 obtain⟨news,hl,h1,hcell,hF,hQN⟩:=hsrc w S hh
 have hown:w.ownsRow 0 e sz v n0 cs:=hh.own _ (FI hi)
 obtain⟨ie,hie,hsz⟩:=Option.map_eq_some_iff.1 hel.size
 obtain⟨ie',hie',hby⟩:=Option.map_eq_some_iff.1 hel.byt
 rw[hie] at hie'
 obtain rfl:ie=ie':=by simpa using hie'
 obtain⟨zv,hzv,hzz⟩:=Option.map_eq_some_iff.1 hel.zero
 have hz:ie.zero=some zv:=by simpa[UF,hie] using hzv
 have hzs:zv.cells.size=sz:=by rw[<-Array.length_toList,JQ,hzz];exact hel.zlen
 have hbp:=hel.bpos
 have hnm:n0+m<=140737488355328:=Nat.le_trans (Nat.le_mul_of_pos_right _ hbp) hb
 have key:∃v' w',(Builtin.append_ #[t,t] ty #[v,.slice A m cp]).run P w=.ok v' w'/\w'.ownsRow 0 e sz v' (n0+m) (cs++news)/\w.grownBy w' v.ownBlock/\(v'.ownBlock=v.ownBlock\/v'.ownBlock=some w.heap.size):=by
  rcases A with _|ad
  ·have hm:m=0:=by
    rcases hcell with h|⟨_,h,_⟩
    ·exact h
    ·cases h
   subst hm
   have hnews:news=[]:=List.eq_nil_of_length_eq_zero (by simpa using hl)
   subst hnews
   refine⟨v,w,?_,by simpa using hown,⟨rfl,rfl,rfl,Nat.le_refl _,λ_ _ _=>rfl⟩,.inl rfl⟩
   rcases hown.2 with⟨rfl,rfl⟩|⟨g',cap,cur,rfl,_,hg,hnc,_⟩
   ·simp[Builtin.append_,run_underlying hel.und,H_ hel.size,Builtin.lenOf,Builtin.firstCells]
   ·simp[Builtin.append_,run_underlying hel.und,H_ hel.size,Builtin.lenOf,Builtin.firstCells,hnc,storeCells]
  ·have hc:Il w ad news:=by
    rcases hcell with h|⟨ad',h,hc⟩
    ·subst h
     have:news=[]:=List.eq_nil_of_length_eq_zero (by simpa using hl)
     subst this
     exact DN w ad
    ·simp only[Option.some.injEq] at h;subst h;exact hc
   obtain⟨v',w',h2,h3,h4,_,h5⟩:=run_append_own_at (P:=P) w 0 t ty e ie zv sz Y8 hel.und hie hz hsz hby hzs hel.spos v n0 cs hown ad m cp news hl hc h1 (by simp only[maxLen];omega) hb (Nat.zero_le _)
   exact⟨v',w',h2,h3,h4,h5⟩
 obtain⟨v',w',hrun,hown',hgrow,hat⟩:=key
 have hop:(execOp a.eval ⟨some d,.call { callee:=.builtin .append,args:=#[x,y],argTypes:=#[t,t] },ty,pos,Ew,g⟩).run P w=.ok (.value v') w':=by
  simp only[execOp,resolve,invoke,builtin,Sem.run_bind,Sem.run_pure,Result.andThen_ok,List.map_toArray,List.map_cons,List.map_nil,he.eval hx,he.eval hy,hrun]
 unfold Oper.wp
 rw[hop]
 refine hk _ _ ⟨v',news,hF,?_⟩
 have hfr:Fr (Own.row v e sz n0 cs).keys w w':=⟨hgrow.os,hgrow.tape,hgrow.output,hgrow.size,λk hlt hnk=>hgrow.block k hlt (λe=>hnk (by simp[Own.keys,<-e]))⟩
 have hkeys:∀k∈(Own.row v' e sz (n0+m) (cs++news)).keys,k∈(Own.row v e sz n0 cs).keys\/w.heap.size<=k:=by
  intro k hk'
  simp only[Own.keys] at hk' ⊢
  rcases hat with h|h
  ·rw[h] at hk';exact .inl hk'
  ·rw[h] at hk';simp at hk';exact .inr (by omega)
 have hnd:(Own.row v' e sz (n0+m) (cs++news)).keys.Nodup:=by
  simp only[Own.keys];cases v'.ownBlock<;>simp
 have base:St c n env G (QN news++Q) a w:=⟨S,he,⟨hh.own,hh.Oj,hh.out,λq hq=>by
  rcases List.mem_append.1 hq with hq|hq
  ·exact hQN q hq
  ·exact hh.per q hq⟩,hrel⟩
 exact base.write hi (hr v' news) hfr hown' hkeys hnd (he.put hd v')
theorem Eh{i k n0 m cp sz Y8 b:Nat}{e e':TypeId}{z l:List Value}{v:Value}{cs:List Value}{GN:Value->List Own}(hd:Nat.blt d n=true)(hel:El P t e sz Y8 z)
  (hi:FB G i=some (.row v e sz n0 cs)) (hk:FB G k=some (.cells b l e')) (hx:ev env x=some v) (hy:ev env y=some (.slice (some ⟨b,0,none⟩) m cp)) (hl:l.length=m * sz) (h1:∀u∈l,u.oneCell'=true)
  (hb:(n0+m) * Y8<=140737488355328) (hr:∀v',Io G i (.row v' e sz (n0+m) (cs++l))=some (GN v')) :
  Tr P ⟨some d,.call { callee:=.builtin .append,args:=#[x,y],argTypes:=#[t,t] },ty,pos,Ew,g⟩ (St c n env G Q) (λa w=>∃v',St c n ((d,v')::env) (GN v') Q a w):=by
 refine(Tr.append (F:=λnews=>news=l) (QN:=λ_=>[]) (GN:=λv' news=>(Io G i (.row v' e sz (n0+m) (cs++news))).getD []) hd hel hi hx hy (λw S hh=>?_) hb (λv' news=>?_)).mono (λa w h=>h) ?_
 ·refine⟨l,hl,h1,.inr ⟨_,rfl,?_⟩,rfl,λq hq=>by cases hq⟩
  exact Jj (hh.own _ (FI hk)) (o:=0) (λj u hj=>by rwa [Nat.zero_add])
 ·have:∃G2,Io G i (.row v' e sz (n0+m) (cs++news))=some G2:=by
   have key:∀(G:List Own) (i:Nat) (o o':Own),FB G i=some o->∃G2,Io G i o'=some G2:=by
    intro G
    induction G with
    |nil=>intro i o o' h;simp[FB] at h
    |cons p r ih =>
     intro i o o' h
     cases i with
     |zero=>exact⟨_,rfl⟩
     |succ i =>
      obtain⟨G2,h2⟩:=ih i o o' h
      exact⟨p::G2,by simp[Io,h2]⟩
   exact key G i _ _ hi
  obtain⟨G2,h2⟩:=this
  simp[h2]
 ·rintro a w ⟨v',news,rfl,h⟩
  refine⟨v',?_⟩
  rw[hr v'] at h
  exact h
theorem Ep{α:Type}{enc:α->Value}{h1:∀x,(enc x).oneCell'=true}{xs:List α}{i k n0 cp Y8:Nat}{e:TypeId}{z:List Value}{v:Value}{cs:List Value}{A:Option Addr}{GN:Value->List Own}(hd:Nat.blt d n=true)(hel:El P t e 1 Y8 z)
  (hi:FB G i=some (.row v e 1 n0 cs)) (hk:FB Q k=some (D7.row (DI enc h1) A xs)) (hx:ev env x=some v) (hy:ev env y=some (.slice A xs.length cp))
  (hb:(n0+xs.length) * Y8<=140737488355328) (hr:∀v',Io G i (.row v' e 1 (n0+xs.length) (cs++xs.map enc))=some (GN v')) :
  Tr P ⟨some d,.call { callee:=.builtin .append,args:=#[x,y],argTypes:=#[t,t] },ty,pos,Ew,g⟩ (St c n env G Q) (λa w=>∃v',St c n ((d,v')::env) (GN v') Q a w):=by
 have key:∀(G:List Own) (i:Nat) (o o':Own),FB G i=some o->∃G2,Io G i o'=some G2:=by
  intro G
  induction G with
  |nil=>intro i o o' h;simp[FB] at h
  |cons p r ih =>
   intro i o o' h
   cases i with
   |zero=>exact⟨_,rfl⟩
   |succ i =>
    obtain⟨G2,h2⟩:=ih i o o' h
    exact⟨p::G2,by simp[Io,h2]⟩
 refine(Tr.append (F:=λnews=>news=xs.map enc) (QN:=λ_=>[]) (GN:=λv' news=>(Io G i (.row v' e 1 (n0+xs.length) (cs++news))).getD []) hd hel hi hx hy (λw S hh=>?_) hb (λv' news=>?_)).mono (λa w h=>h) ?_
 ·refine⟨xs.map enc,by simp,λu hu=>?_,?_,rfl,λq hq=>by cases hq⟩
  ·obtain⟨x,_,rfl⟩:=List.mem_map.1 hu;exact h1 x
  ·rcases Qv (hh.per _ (FI hk)) with h|⟨ad,h,_,_,hc⟩
   ·left;rw[h];rfl
   ·exact .inr ⟨ad,h,hc⟩
 ·obtain⟨G2,h2⟩:=key G i _ (.row v' e 1 (n0+xs.length) (cs++news)) hi
  simp[h2]
 ·rintro a w ⟨v',news,rfl,h⟩
  refine⟨v',?_⟩
  rw[hr v'] at h
  exact h
theorem Xl{α:Type}{kd:Kd α}{xs:List α}{i k n0 cp Y8:Nat}{e:TypeId}{z:List Value}{v:Value}{cs:List Value}{A:Option Addr}{GN:Value->List Value->List Own}(hd:Nat.blt d n=true)(hel:El P t e kd.sz Y8 z)
  (hi:FB G i=some (.row v e kd.sz n0 cs)) (hk:FB Q k=some (D7.row kd A xs)) (hx:ev env x=some v) (hy:ev env y=some (.slice A xs.length cp))
  (hb:(n0+xs.length) * Y8<=140737488355328) (hr:∀v' news,Io G i (.row v' e kd.sz (n0+xs.length) (cs++news))=some (GN v' news)) :
  Tr P ⟨some d,.call { callee:=.builtin .append,args:=#[x,y],argTypes:=#[t,t] },ty,pos,Ew,g⟩ (St c n env G Q) (λa w=>∃v' news,St c n ((d,v')::env) (GN v' news) (A_ kd xs news::Q) a w):=by
 refine(Tr.append (F:=λ_=>True) (QN:=λnews=>[A_ kd xs news]) hd hel hi hx hy (λw S hh=>?_) hb hr).mono (λa w h=>h) ?_
 ·rcases hh.per _ (FI hk) with h|⟨ad,h,h2,h3,h4⟩
  ·subst h
   exact⟨[],by simp,by simp,.inl rfl,trivial,λq hq=>by rw[List.mem_singleton.1 hq];exact rfl⟩
  ·obtain⟨cs',hr',hc'⟩:=VX h4
   exact⟨cs',hr'.length,hr'.one,.inr ⟨ad,h,hc'⟩,trivial,λq hq=>by rw[List.mem_singleton.1 hq];exact hr'⟩
 ·rintro a w ⟨v',news,_,h⟩
  exact⟨v',news,h⟩
def XJ(A:Option Addr)(sz lo mx:Nat):Option Addr:=if mx=lo then A else A.map (·.add (lo * sz))
end
end Go.Sx
namespace Go.Sx
open Go
def gt{α:Type}[Inhabited α](xs:List α)(i:Int):α:=xs.getD i.toNat default
theorem EW{α:Type}[Inhabited α]{xs:List α}{i:Int}(h0:0<=i)(h:i<(xs.length:Int)):xs[i.toNat]?=some (gt xs i):=by
 have:i.toNat<xs.length:=by omega
 simp[gt,List.getD_eq_getElem?_getD,this]
theorem Fh{x:Int}(h0:-9223372036854775808<=x)(h1:x<=9223372036854775807):IntKind.i64.wrap x=x:=IntWalk.i64_in _ ⟨h0,h1⟩
end Go.Sx
namespace Go.Sx
open Go
section
variable {P:Program}{c:Cx}{n:Nat}{env env':List (Nat×Value)}{G G' Gr:List Own}{Q Q':List D7}{d:Nat}{ty:TypeId}{pos:String}{Ew:Array Edge}{g:Option (Nat×Bool)}{x y:Operand}{t:TypeId}{a a':Act}{w w':World}
variable {ops:Array Oper}{R:Exit->Gz}{rest:List Oper}{A B:Gz}{cd:Code}
theorem GL.and{p:Prop}(k:p->GL P ops R rest A):GL P ops R rest (λa w=>p/\A a w):=λa w ⟨hp,ha⟩=>k hp a w ha
theorem GC.and{p:Prop}(k:p->GC P R cd A):GC P R cd (λa w=>p/\A a w):=λa w ⟨hp,ha⟩=>k hp a w ha
theorem GA.and{M:Gz}{I:World->Prop}{fuel:Nat}{listed:Array Bool}{p:Prop}(k:p->GA P ops M I fuel listed A):GA P ops M I fuel listed (λa w=>p/\A a w):=λa w ⟨hp,ha⟩=>k hp a w ha
theorem GL.ret{F:Value->List Own->List D7->Prop}{Z:Value->List Own->List D7->Gz}(k:∀v G2 Q2,F v G2 Q2->GL P ops R rest (Z v G2 Q2)):GL P ops R rest (λa w=>∃v G2 Q2,F v G2 Q2/\Z v G2 Q2 a w):=λa w ⟨v,G2,Q2,hF,hZ⟩=>k v G2 Q2 hF a w hZ
theorem GL.retL{F:Value->List Own->List D7->Prop}{Z:Value->List Own->Gz}(k:∀v G2,F v G2 []->GL P ops R rest (Z v G2)):GL P ops R rest (λa w=>∃v G2,F v G2 []/\Z v G2 a w):=λa w ⟨v,G2,hF,hZ⟩=>k v G2 hF a w hZ
theorem GA.ret{M:Gz}{I:World->Prop}{fuel:Nat}{listed:Array Bool}{F:Value->List Own->List D7->Prop}{Z:Value->List Own->List D7->Gz}(k:∀v G2 Q2,F v G2 Q2->GA P ops M I fuel listed (Z v G2 Q2)):GA P ops M I fuel listed (λa w=>∃v G2 Q2,F v G2 Q2/\Z v G2 Q2 a w):=λa w ⟨v,G2,Q2,hF,hZ⟩=>k v G2 Q2 hF a w hZ
theorem GC.st(h:∀a w,St c n env G Q a w->St c n env' G' Q' a w)(k:GC P R cd (St c n env' G' Q')):GC P R cd (St c n env G Q):=GC.imp h k
theorem GL.st(h:∀a w,St c n env G Q a w->St c n env' G' Q' a w)(k:GL P ops R rest (St c n env' G' Q')):GL P ops R rest (St c n env G Q):=GL.imp h k
theorem GC.know{q:D7}(hq:∀w S,(∀p∈Q,p.h w S)->q.h w S)(k:GC P R cd (St c n env G (q::Q))):GC P R cd (St c n env G Q):=GC.imp (λa w h=>h.know hq) k
theorem GL.know{q:D7}(hq:∀w S,(∀p∈Q,p.h w S)->q.h w S)(k:GL P ops R rest (St c n env G (q::Q))):GL P ops R rest (St c n env G Q):=GL.imp (λa w h=>h.know hq) k
theorem GC.freeze{i:Nat}{o:Own}{QN:List D7}(ht:I7 G i=some (o,G'))(hq:∀w S,o.holds w->(∀k∈o.keys,S k)->(∀p∈Q,p.h w S)->∀q∈QN,q.h w S)(k:GC P R cd (St c n env G' (QN++Q))):GC P R cd (St c n env G Q):=GC.imp (λa w h=>h.freeze ht hq) k
theorem GL.freeze{i:Nat}{o:Own}{QN:List D7}(ht:I7 G i=some (o,G'))(hq:∀w S,o.holds w->(∀k∈o.keys,S k)->(∀p∈Q,p.h w S)->∀q∈QN,q.h w S)(k:GL P ops R rest (St c n env G' (QN++Q))):GL P ops R rest (St c n env G Q):=GL.imp (λa w h=>h.freeze ht hq) k
theorem GC.Hu(e:TypeId)(sz:Nat)(k:GC P R cd (St c n env (.row (.slice none 0 0) e sz 0 []::G) Q)):GC P R cd (St c n env G Q):=GC.imp (λa w h=>h.Hu e sz) k
theorem GL.Hu(e:TypeId)(sz:Nat)(k:GL P ops R rest (St c n env (.row (.slice none 0 0) e sz 0 []::G) Q)):GL P ops R rest (St c n env G Q):=GL.imp (λa w h=>h.Hu e sz) k
theorem St.shape{i e sz m:Nat}{v:Value}{cs:List Value}(h:St c n env G Q a w)(hi:FB G i=some (.row v e sz m cs)):∃A cp,v=.slice A m cp/\m<=cp/\cp<=9223372036854775807:=by
 have:=h.own hi
 rcases this.2 with⟨rfl,rfl⟩|⟨g,cap,cur,rfl,_,_,h1,h2,_⟩
 ·exact⟨none,0,rfl,by omega,by omega⟩
 ·exact⟨_,cap,rfl,h1,by simpa[maxLen] using h2⟩
theorem GC.shape{i e sz m:Nat}{v:Value}{cs:List Value}(hi:FB G i=some (.row v e sz m cs))(k:∀A cp,v=.slice A m cp->m<=cp->cp<=9223372036854775807->GC P R cd (St c n env G Q)):GC P R cd (St c n env G Q):=λa w h=>by
 obtain⟨A,cp,h1,h2,h3⟩:=h.shape hi
 exact k A cp h1 h2 h3 a w h
theorem GL.shape{i e sz m:Nat}{v:Value}{cs:List Value}(hi:FB G i=some (.row v e sz m cs))(k:∀A cp,v=.slice A m cp->m<=cp->cp<=9223372036854775807->GL P ops R rest (St c n env G Q)):GL P ops R rest (St c n env G Q):=λa w h=>by
 obtain⟨A,cp,h1,h2,h3⟩:=h.shape hi
 exact k A cp h1 h2 h3 a w h
theorem PZ{α:Type}{kd:Kd α}{e m cp:Nat}{A:Option Addr}{xs:List α}{cs:List Value}{w:World}{S:Blocks}(h:(Own.row (.slice A m cp) e kd.sz m cs).holds w)(hS:∀k∈(Own.row (.slice A m cp) e kd.sz m cs).keys,S k)(hr:JO kd w S xs cs)(hp:0<kd.sz):(D7.row kd A xs).h w S:=by
 obtain⟨hl,h⟩:=h
 rcases h with⟨hv,hn⟩|⟨g,cap,cur,hv,_,hg,hnc,_,hcs,htk⟩
 ·left
  have:xs.length * kd.sz=0:=by rw[<-hr.length,hl,hn,Nat.zero_mul]
  have h0:=hr.length
  rcases Nat.mul_eq_zero.1 this with h1|h1
  ·exact List.eq_nil_of_length_eq_zero h1
  ·omega
 ·right
  simp only[Value.slice.injEq] at hv
  obtain⟨rfl,_,_⟩:=hv
  refine⟨_,rfl,rowAt_of hr (hS g (by simp[Own.keys,Value.ownBlock])) (Array.getElem?_eq_some_iff.1 hg).1 ?_⟩
  refine Jj (l:=cur.toList) (by simpa using hg) λj u hj=>?_
  rw[<-htk,List.getElem?_take] at hj
  split at hj
  ·simpa using hj
  ·cases hj
theorem OY{b e sz m:Nat}{l:List Value}(hl:l.length=m * sz)(hm:m<=9223372036854775807):∀w,(Own.cells b l e).holds w->(Own.row (.slice (some ⟨b,0,none⟩) m m) e sz m l).holds w:=λw h =>
 ⟨hl,.inr ⟨b,m,l.toArray,rfl,Nat.zero_le _,h,Nat.le_refl _,by simpa[maxLen] using hm,by simpa using hl,by simp[<-hl]⟩⟩
theorem Ci{i b e m sz:Nat}{l:List Value}(hi:FB G i=some (.cells b l e))(hl:l.length=m * sz)(hm:m<=9223372036854775807)(hr:Io G i (.row (.slice (some ⟨b,0,none⟩) m m) e sz m l)=some G')(k:GL P ops R rest (St c n env G' Q)):GL P ops R rest (St c n env G Q) :=
 GL.imp (λa w h=>h.Qw hi hr rfl (OY hl hm)) k
theorem GA.VH{M:Gz}{I:World->Prop}{fuel:Nat}{listed:Array Bool}{i b e m sz:Nat}{l:List Value}(hi:FB G i=some (.cells b l e))(hl:l.length=m * sz)(hm:m<=9223372036854775807)(hr:Io G i (.row (.slice (some ⟨b,0,none⟩) m m) e sz m l)=some G')(k:GA P ops M I fuel listed (St c n env G' Q)):GA P ops M I fuel listed (St c n env G Q) :=
 GA.imp (λa w h=>h.Qw hi hr rfl (OY hl hm)) k
theorem GA.Hu{M:Gz}{I:World->Prop}{fuel:Nat}{listed:Array Bool}(e:TypeId)(sz:Nat)(k:GA P ops M I fuel listed (St c n env (.row (.slice none 0 0) e sz 0 []::G) Q)):GA P ops M I fuel listed (St c n env G Q):=GA.imp (λa w h=>h.Hu e sz) k
theorem GC.VH{i b e m sz:Nat}{l:List Value}(hi:FB G i=some (.cells b l e))(hl:l.length=m * sz)(hm:m<=9223372036854775807)(hr:Io G i (.row (.slice (some ⟨b,0,none⟩) m m) e sz m l)=some G')(k:GC P R cd (St c n env G' Q)):GC P R cd (St c n env G Q) :=
 GC.imp (λa w h=>h.Qw hi hr rfl (OY hl hm)) k
theorem St.EN{i e m cp:Nat}{A:Option Addr}{xs:List UInt8}(h:St c n env G Q a w)(ht:I7 G i=some (.row (.slice A m cp) e 1 m (xs.map λb=>Value.int .u8 (b.toNat:Int)),G')):St c n env G' (D7.row Kd.u8 A xs::Q) a w :=
 h.freeze (QN:=[D7.row Kd.u8 A xs]) ht λw S ho hS _ q hq=>by
  rw[List.mem_singleton.1 hq]
  exact PZ (kd:=Kd.u8) ho hS (LV xs) (by decide)
theorem GL.EN{i e m cp:Nat}{A:Option Addr}{xs:List UInt8}(ht:I7 G i=some (.row (.slice A m cp) e 1 m (xs.map λb=>Value.int .u8 (b.toNat:Int)),G'))(k:GL P ops R rest (St c n env G' (D7.row Kd.u8 A xs::Q))):GL P ops R rest (St c n env G Q):=GL.imp (λa w h=>h.EN ht) k
theorem GC.EN{i e m cp:Nat}{A:Option Addr}{xs:List UInt8}(ht:I7 G i=some (.row (.slice A m cp) e 1 m (xs.map λb=>Value.int .u8 (b.toNat:Int)),G'))(k:GC P R cd (St c n env G' (D7.row Kd.u8 A xs::Q))):GC P R cd (St c n env G Q):=GC.imp (λa w h=>h.EN ht) k
theorem GA.EN{M:Gz}{I:World->Prop}{fuel:Nat}{listed:Array Bool}{i e m cp:Nat}{A:Option Addr}{xs:List UInt8}(ht:I7 G i=some (.row (.slice A m cp) e 1 m (xs.map λb=>Value.int .u8 (b.toNat:Int)),G'))(k:GA P ops M I fuel listed (St c n env G' (D7.row Kd.u8 A xs::Q))):GA P ops M I fuel listed (St c n env G Q):=GA.imp (λa w h=>h.EN ht) k
theorem St.mem{is js:List Nat}(h:St c n env G Q a w)(hsel:sel G is=some (G',Gr))(hq:Eu Q js=some Q'):Mem c G' Q' w:=by
 obtain⟨S,he,hh,hrel⟩:=h
 have hp:=Ho hsel
 exact⟨S,(hh.perm hp).sub (List.sublist_append_left _ _) (Gv hq),(hrel.perm hp).fr,hrel.old,λk hk=>(hrel.perm hp).key k (by rw[EY];exact List.mem_append_left _ hk)⟩
theorem run_str{src dst e:TypeId}{A:Option Addr}{cp:Nat}{xs:List UInt8}(hs:P.underlying src=some (.slice e))(he:P.underlying e=some (.int .u8))(hd:P.underlying dst=some .string)(h:xs=[]\/∃p,A=some p/\Il w p (xs.map λb=>Value.int .u8 (b.toNat:Int))) :
  (convert src dst (.slice A xs.length cp)).run P w=.ok (.string ⟨xs.toArray⟩) w:=by
 rcases A with _|p
 ·have hx:xs=[]:=by
   rcases h with h|⟨p,h,_⟩
   ·exact h
   ·cases h
  subst hx
  exact run_convert_bytes_nil w src e hs he 0 cp dst hd
 ·have hc:Il w p (xs.map λb=>Value.int .u8 (b.toNat:Int)):=by
   rcases h with h|⟨p',h,hc⟩
   ·subst h;exact DN w p
   ·simp only[Option.some.injEq] at h;subst h;exact hc
  have hl:=run_loadCells_list (P:=P) w p _ hc
  rw[List.length_map] at hl
  have hm:(xs.map λb=>Value.int .u8 (b.toNat:Int))=(xs.map λb=>(b.toNat:Int)).map (Value.int .u8):=by simp
  rw[hm] at hl
  rw[run_convert_bytes_string w src dst e _ xs.length cp hs he hd,run_bytesToString w p xs.length cp (xs.map λb=>(b.toNat:Int)) hl,foldl_push_bytes]
  have hx:(xs.map λb=>(b.toNat:Int)).map (λn=>UInt8.ofNat n.toNat)=xs:=by
   rw[List.map_map]
   conv=>rhs;rw[<-List.map_id xs]
   exact List.map_congr_left λb _=>by simp
  rw[hx]
  simp[ByteArray.empty,ByteArray.emptyWithCapacity]
  rfl
theorem Lu{i:Nat}{src dst e:TypeId}{A:Option Addr}{cp:Nat}{xs:List UInt8}(hi:FB Q i=some (D7.row Kd.u8 A xs))(hx:ev env x=some (.slice A xs.length cp))(hs:P.underlying src=some (.slice e))(he:P.underlying e=some (.int .u8))(hd:P.underlying dst=some .string) :
  Pm P c n G Q env ⟨some d,.convert src dst x,ty,pos,Ew,g⟩ (.string ⟨xs.toArray⟩):=λa w hen hm=>by
 obtain⟨S,hq⟩:=hm.per hi
 have h:xs=[]\/∃p,A=some p/\Il w p (xs.map λb=>Value.int .u8 (b.toNat:Int)):=by
  rcases Qv hq with h|⟨p,h,_,_,hc⟩
  ·exact .inl h
  ·exact .inr ⟨p,h,hc⟩
 simp only[execOp,hen.eval hx,Sem.run_bind,run_str hs he hd h,Result.andThen_ok,Sem.run_pure]
theorem Ct.pure{f:FuncId}{args:List Value}{F:Value->List Own->List D7->Prop}{p:Prop}(hp:∀w S,Heap S G Q w->p)(h:p->Ct P f args G Q F):Ct P f args G Q F:=λw S hh=>h (hp w S hh) w S hh
theorem VW{α:Type}{kd:Kd α}{xs:List α}{w:World}{S:Blocks}(h:(D7.row kd none xs).h w S):xs=[]:=by
 rcases h with h|⟨a,h,_⟩
 ·exact h
 ·cases h
theorem XV(b:Bool):(true=b)=(b=true):=by cases b<;>simp
theorem XC(b:Bool):(false=b)=(b=false):=by cases b<;>simp
theorem D6:(∀(p:Prop) [Decidable p],(decide p=true)=p)/\(∀(p:Prop) [Decidable p],(decide p=false)=¬p)/\(∀b:Bool,((!b)=true)=(b=false))/\(∀b:Bool,((!b)=false)=(b=true))/\((!true)=false)/\((!false)=true)/\(∀b:Bool,(!!b)=b)/\(∀(α:Type) (a b:α),(a≠b)=¬a=b)/\(∀(p:Prop) [Decidable p],(¬¬p)=p)/\(∀a b:Int,(¬a<b)=(b<=a))/\(∀a b:Int,(¬a<=b)=(b<a))/\(∀a b:Int,(a > b)=(b<a))/\(∀a b:Int,(a>=b)=(b<=a))/\(∀a b:Nat,(a > b)=(b<a))/\(∀a b:Nat,(a>=b)=(b<=a))/\(∀b:Bool,(true=b)=(b=true))/\(∀b:Bool,(false=b)=(b=false)) :=
  ⟨λp _=>by simp,λp _=>by simp,λb=>by simp,λb=>by simp,rfl,rfl,λb=>by simp,λα a b=>rfl,λp _=>by simp,λa b=>by simp,λa b=>by simp,λa b=>rfl,λa b=>rfl,λa b=>rfl,λa b=>rfl,λb=>XV b,λb=>XC b⟩
end
end Go.Sx
namespace Go.Sx
open Go
def Jb{α:Type}:List (Int×α)->Int->Option α
 |[],_=>none
 |(k,x)::r,j=>if k=j then some x else Jb r j
def OB{α:Type}:List (Int×α)->Int->α->List (Int×α)
 |[],j,y=>[(j,y)]
 |(k,x)::r,j,y=>if k=j then (j,y)::r else (k,x)::OB r j y
theorem V6{α:Type}(T:List (Int×α))(j:Int)(y:α):Jb (OB T j y) j=some y:=by
 induction T with
 |nil=>simp[OB,Jb]
 |cons p r ih =>
  obtain⟨k,x⟩:=p
  by_cases h:k=j<;>simp[OB,Jb,h,ih]
theorem Uc{α:Type}(T:List (Int×α)){i j:Int}(y:α)(h:i≠j):Jb (OB T j y) i=Jb T i:=by
 induction T with
 |nil=>simp[OB,Jb];omega
 |cons p r ih =>
  obtain⟨k,x⟩:=p
  by_cases hk:k=j
  ·subst hk
   have:¬k=i:=λe=>h e.symm
   simp[OB,Jb,this]
  ·by_cases hi:k=i
   ·simp only[OB,if_neg hk,Jb,if_pos hi]
   ·simp only[OB,if_neg hk,Jb,if_neg hi,ih]
def mkV(agg:Bool)(cs:List Value):Value:=if agg then .agg cs.toArray else cs.headD undef
def Hg{α:Type}(d:Kd α)(agg:Bool)(w:World)(S:Blocks):List (Int×α)->List MapEntry->Prop
 |[],[]=>True
 |(k,x)::T,e::es=>e.key=.int .i64 k/\(∃cs,e.val=mkV agg cs/\d.K w S x cs)/\Hg d agg w S T es
 |_,_=>False
theorem Hg.st{α:Type}{d:Kd α}{agg:Bool}{w w':World}{S S':Blocks}(hm:∀k,S k->k<w.heap.size->S' k/\w'.heap[k]?=w.heap[k]?):∀{T:List (Int×α)} {es:List MapEntry},Hg d agg w S T es->Hg d agg w' S' T es
 |[],[],h=>trivial
 |(k,x)::T,e::es,⟨h1,⟨cs,h2,h3⟩,h4⟩=>⟨h1,⟨cs,h2,Dx h3 hm⟩,Hg.st hm h4⟩
 |[],_::_,h=>h.elim
 |_::_,[],h=>h.elim
theorem Hg.length{α:Type}{d:Kd α}{agg:Bool}{w:World}{S:Blocks}:∀{T:List (Int×α)} {es:List MapEntry},Hg d agg w S T es->es.length=T.length
 |[],[],h=>rfl
 |(k,x)::T,e::es,⟨_,_,h4⟩=>by simp[Hg.length h4]
 |[],_::_,h=>h.elim
 |_::_,[],h=>h.elim
def Stamped(es:Array MapEntry)(ck:Nat):Prop:=(∀x∈es.toList,x.born<ck)/\(es.toList.map (·.born)).Nodup
theorem Stamped.nil:Stamped #[] 0:=⟨by simp,by simp⟩
theorem Stamped.push{es:Array MapEntry}{ck:Nat}(h:Stamped es ck)(k v:Value):Stamped (es.push { key:=k,val:=v,born:=ck }) (ck+1):=by
 constructor
 ·intro x hx
  simp only[Array.toList_push,List.mem_append,List.mem_singleton] at hx
  rcases hx with hx|rfl
  ·exact Nat.lt_succ_of_lt (h.1 x hx)
  ·exact Nat.lt_succ_self _
 ·rw[Array.toList_push,List.map_append,List.nodup_append]
  refine⟨h.2,by simp,λa ha b hb e=>?_⟩
  obtain⟨x,hx,rfl⟩:=List.mem_map.1 ha
  simp only[List.map_cons,List.map_nil,List.mem_singleton] at hb
  have:=h.1 x hx
  omega
theorem Stamped.modify{es:Array MapEntry}{ck:Nat}(h:Stamped es ck)(j:Nat)(k v:Value):Stamped (es.modify j λe=>{ e with key:=k,val:=v }) ck:=by
 have e:(es.modify j λe=>{ e with key:=k,val:=v }).toList.map (·.born)=es.toList.map (·.born):=by
  apply List.ext_getElem?
  intro i
  simp only[Array.toList_modify,List.getElem?_map,List.getElem?_modify]
  cases es.toList[i]? with
  |none=>rfl
  |some x=>by_cases hij:j=i<;>simp[hij]
 refine⟨λx hx=>?_,by rw[e];exact h.2⟩
 have hb:x.born∈(es.modify j λe=>{ e with key:=k,val:=v }).toList.map (·.born):=List.mem_map.2 ⟨x,hx,rfl⟩
 rw[e] at hb
 obtain⟨y,hy,hy2⟩:=List.mem_map.1 hb
 rw[<-hy2]
 exact h.1 y hy
def D7.map{α:Type}(d:Kd α)(agg:Bool)(T:List (Int×α))(es:Array MapEntry)(ck:Nat):D7 where
 h:=λw S=>Hg d agg w S T es.toList/\Stamped es ck
 st:=λh hm=>⟨Hg.st hm h.1,h.2⟩
theorem Tt{α:Type}{d:Kd α}{agg:Bool}{w:World}{S:Blocks}{k:Int}:∀{T:List (Int×α)} {es:List MapEntry} (i:Nat),Hg d agg w S T es->Jb T k=none->Instr.findNow (.int .i64) (.int .i64 k) es i=some none
 |[],[],i,_,_=>rfl
 |(j,x)::T,e::es,i,⟨h1,_,h4⟩,hn=>by
  by_cases hj:j=k
  ·simp[Jb,hj] at hn
  ·simp only[Jb,if_neg hj] at hn
   have hb:(k == j)=false:=by simp;exact λe=>hj e.symm
   simp only[Instr.findNow,h1,Instr.sameNow,if_true,hb]
   exact Tt (i+1) h4 hn
 |[],_::_,_,h,_=>h.elim
 |_::_,[],_,h,_=>h.elim
theorem Tq{α:Type}{d:Kd α}{agg:Bool}{w:World}{S:Blocks}{k:Int}{x:α}:∀{T:List (Int×α)} {es:List MapEntry} (i:Nat),Hg d agg w S T es->Jb T k=some x ->
  ∃j v cs,Instr.findNow (.int .i64) (.int .i64 k) es i=some (some (i+j,v))/\v=mkV agg cs/\d.K w S x cs/\(∃e,es[j]?=some e/\e.key=.int .i64 k) /\
   ∀(y:α) (cs':List Value),d.K w S y cs'->Hg d agg w S (OB T k y) (es.modify j λe=>{ e with key:=.int .i64 k,val:=mkV agg cs' })
 |[],[],i,_,h=>by simp[Jb] at h
 |(j,z)::T,e::es,i,⟨h1,⟨cs,h2,h3⟩,h4⟩,hs=>by
  by_cases hj:j=k
  ·subst hj
   simp only[Jb,if_true,Option.some.injEq] at hs
   subst hs
   refine⟨0,e.val,cs,?_,h2,h3,⟨e,rfl,h1⟩,λy cs' hy=>?_⟩
   ·simp[Instr.findNow,h1,Instr.sameNow]
   ·simp only[OB,if_true,List.modify_zero_cons]
    exact⟨rfl,⟨cs',rfl,hy⟩,h4⟩
  ·simp only[Jb,if_neg hj] at hs
   have hb:(k == j)=false:=by simp;exact λe=>hj e.symm
   obtain⟨j',v,cs',h5,h6,h7,⟨e',h8,h9⟩,h10⟩:=Tq (i+1) h4 hs
   refine⟨j'+1,v,cs',?_,h6,h7,⟨e',by simpa using h8,h9⟩,λy c hy=>?_⟩
   ·simp only[Instr.findNow,h1,Instr.sameNow,if_true,hb]
    rw[h5]
    congr 3
    omega
   ·simp only[OB,if_neg hj,List.modify_succ_cons]
    exact⟨h1,⟨cs,h2,h3⟩,h10 y c hy⟩
 |[],_::_,_,h,_=>h.elim
 |_::_,[],_,h,_=>h.elim
theorem Hg.push{α:Type}{d:Kd α}{agg:Bool}{w:World}{S:Blocks}{k:Int}{y:α}{cs:List Value}{b:Nat}(hy:d.K w S y cs):∀{T:List (Int×α)} {es:List MapEntry},Hg d agg w S T es->Jb T k=none->Hg d agg w S (OB T k y) (es++[{ key:=.int .i64 k,val:=mkV agg cs,born:=b }])
 |[],[],_,_=>⟨rfl,⟨cs,rfl,hy⟩,trivial⟩
 |(j,z)::T,e::es,⟨h1,h2,h4⟩,hn=>by
  by_cases hj:j=k
  ·simp[Jb,hj] at hn
  ·simp only[Jb,if_neg hj] at hn
   simp only[OB,if_neg hj,List.cons_append]
   exact⟨h1,h2,Hg.push hy h4 hn⟩
 |[],_::_,h,_=>h.elim
 |_::_,[],h,_=>h.elim
end Go.Sx
namespace Go.Sx
open Go
section
variable {P:Program}{c:Cx}{n:Nat}{env env':List (Nat×Value)}{G G' Gr:List Own}{Q Q':List D7}{d:Nat}{ty:TypeId}{pos:String}{Ew:Array Edge}{g:Option (Nat×Bool)}{x y z:Operand}{t kt et:TypeId}{a a':Act}{w w':World}
variable {ops:Array Oper}{R:Exit->Gz}{rest:List Oper}{A B:Gz}{cd:Code}
theorem GL.or(h1:GL P ops R rest A)(h2:GL P ops R rest B):GL P ops R rest (λa w=>A a w\/B a w):=λa w h=>h.elim (h1 a w) (h2 a w)
theorem GA.or{M:Gz}{I:World->Prop}{fuel:Nat}{listed:Array Bool}(h1:GA P ops M I fuel listed A)(h2:GA P ops M I fuel listed B):GA P ops M I fuel listed (λa w=>A a w\/B a w):=λa w h=>h.elim (h1 a w) (h2 a w)
theorem GC.or(h1:GC P R cd A)(h2:GC P R cd B):GC P R cd (λa w=>A a w\/B a w):=λa w h=>h.elim (h1 a w) (h2 a w)
theorem run_checkKey{e:Nat}{b:Bool}{k:Int}(hk:P.underlying kt=some (.int .i64))(w:World):(Instr.checkKey b (e+1) kt (.int .i64 k)).run P w=.ok () w:=by
 simp only[Instr.checkKey,Sem.run_bind,run_underlying hk,Result.andThen_ok]
 rfl
theorem IW{m:Nat}{es:Array MapEntry}{ck:Nat}(h:w.heap[m]?=some (.map es ck)):(getObj m).run P w=.ok (.map es ck) w:=by
 simp[getObj,Sem.run,h]
theorem t_lookup{α:Type}{kd:Kd α}{i j m ck:Nat}{es:Array MapEntry}{T:List (Int×α)}{k:Int}{zz:List Value}(hd:Nat.blt d n=true)(hi:FB G i=some (.blk m (.map es ck)))(hj:FB Q j=some (D7.map kd true T es ck))(hx:ev env x=some (.map (some m)))(hy:ev env y=some (.int .i64 k))
  (ht:P.underlying t=some (.map kt et)) (hk:P.underlying kt=some (.int .i64)) (hz:F7 P et=some zz) (hg:∃z,UF P et=some (.agg z)) :
  Tr P ⟨some d,.lookup t x y true,ty,pos,Ew,g⟩ (St c n env G Q) (λa w=>(Jb T k=none/\St c n ((d,.tuple #[.agg zz.toArray,.bool false])::env) G Q a w) \/
   (∃u r,Jb T k=some u/\kd.ok u r/\St c n ((d,.tuple #[.agg (kd.cells u r).toArray,.bool true])::env) G (kd.pers u r++Q) a w)):=by
 intro a w h K R hk'
 have hblk:w.heap[m]?=some (.map es ck):=h.own hi
 obtain⟨S,he,hh,hrel⟩:=h
 have hm:Hg kd true w S T es.toList:=(hh.per _ (FI hj)).1
 obtain⟨za,hza⟩:=hg
 have hzz:zz=za.toList:=by
  obtain⟨zv,h1,h2⟩:=Option.map_eq_some_iff.1 hz
  rw[hza] at h1
  simp only[Option.some.injEq] at h1
  subst h1
  exact h2.symm
 cases hT:Jb T k with
 |none =>
  have hf:=Tt 0 hm hT
  have hrun:(execOp a.eval ⟨some d,.lookup t x y true,ty,pos,Ew,g⟩).run P w=.ok (.value (.tuple #[.agg zz.toArray,.bool false])) w:=by
   simp only[execOp,he.eval hx,he.eval hy,Instr.lookup,Sem.run_bind,run_underlying ht,Result.andThen_ok,IW hblk,Sem.run_pure,run_checkKey (e:=9999) hk,Instr.findKey,run_underlying hk,hf,Kw hza,if_true,hzz,Array.toArray_toList]
  unfold Oper.wp
  rw[hrun]
  exact hk' _ _ (.inl ⟨hT,S,he.put hd _,hh,hrel⟩)
 |some u =>
  obtain⟨j',v,cs,hf,hv,⟨r,hok,hcs,Td⟩,_,_⟩:=Tq 0 hm hT
  have hrun:(execOp a.eval ⟨some d,.lookup t x y true,ty,pos,Ew,g⟩).run P w=.ok (.value (.tuple #[.agg (kd.cells u r).toArray,.bool true])) w:=by
   simp only[execOp,he.eval hx,he.eval hy,Instr.lookup,Sem.run_bind,run_underlying ht,Result.andThen_ok,IW hblk,Sem.run_pure,run_checkKey (e:=9999) hk,Instr.findKey,run_underlying hk,hf,if_true,hv,mkV,hcs]
  unfold Oper.wp
  rw[hrun]
  refine hk' _ _ (.inr ⟨u,r,hT,hok,S,he.put hd _,⟨hh.own,hh.Oj,hh.out,λq hq=>?_⟩,hrel⟩)
  rcases List.mem_append.1 hq with hq|hq
  ·exact Td q hq
  ·exact hh.per q hq
theorem Ky{m:Nat}{es es':Array MapEntry}{ck Nv:Nat}(h:w.heap[m]?=some (.map es ck)):(setObj m (.map es' Nv)).run P w=.ok () { w with heap:=w.heap.setIfInBounds m (.map es' Nv) }:=by
 simp[setObj,Sem.run,h]
theorem Dt{m:Nat}{o:Obj}(w:World):Fr [m] w { w with heap:=w.heap.setIfInBounds m o } :=
 ⟨rfl,rfl,rfl,by simp,λk hk hn=>by simp only[List.mem_singleton] at hn;exact Array.getElem?_setIfInBounds_ne (λe=>hn e.symm)⟩
theorem ZV{α:Type}{kd:Kd α}{i j m ck:Nat}{es:Array MapEntry}{T:List (Int×α)}{k:Int}{u:α}{r:kd.Y}{js:List Nat}{GN:Array MapEntry->Nat->List Own}(hi:FB G i=some (.blk m (.map es ck)))(hj:FB Q j=some (D7.map kd true T es ck))(hx:ev env x=some (.map (some m)))(hy:ev env y=some (.int .i64 k))(hv:ev env z=some (.agg (kd.cells u r).toArray))
  (hok:kd.ok u r) (Td:Eu Q js=some (kd.pers u r)) (ht:P.underlying t=some (.map kt et)) (hk:P.underlying kt=some (.int .i64)) (hr:∀es' Nv,Io G i (.blk m (.map es' Nv))=some (GN es' Nv)) :
  Tr P ⟨none,.mapUpdate t x y z,ty,pos,Ew,g⟩ (St c n env G Q) (λa w=>∃es' Nv,St c n env (GN es' Nv) (D7.map kd true (OB T k u) es' Nv::Q) a w):=by
 intro a w h K R hk'
 have hblk:w.heap[m]?=some (.map es ck):=h.own hi
 have hlt:m<w.heap.size:=(Array.getElem?_eq_some_iff.1 hblk).1
 have he:=h.en
 have hK:∃S,Heap S G Q w/\Rel c S G w/\(Hg kd true w S T es.toList/\Stamped es ck)/\kd.K w S u (kd.cells u r):=by
  obtain⟨S,he,hh,hrel⟩:=h
  exact⟨S,hh,hrel,hh.per _ (FI hj),r,hok,rfl,λq hq=>hh.per q (Gv Td q hq)⟩
 obtain⟨S,hh,hrel,⟨hm,hst⟩,hKu⟩:=hK
 have fin:∀es' Nv,Hg kd true w S (OB T k u) es'.toList->Stamped es' Nv->(execOp a.eval ⟨none,.mapUpdate t x y z,ty,pos,Ew,g⟩).run P w=.ok .skip { w with heap:=w.heap.setIfInBounds m (.map es' Nv) }->Oper.wp P ⟨none,.mapUpdate t x y z,ty,pos,Ew,g⟩ a w K R:=by
  intro es' Nv hm' hst' hrun
  unfold Oper.wp
  rw[hrun]
  refine hk' _ _ ⟨es',Nv,?_⟩
  have base:St c n env G (D7.map kd true (OB T k u) es' Nv::Q) a w:=⟨S,he,⟨hh.own,hh.Oj,hh.out,λq hq=>by
   rcases List.mem_cons.1 hq with rfl|hq
   ·exact⟨hm',hst'⟩
   ·exact hh.per q hq⟩,hrel⟩
  refine base.write hi (hr es' Nv) (Dt w) ?_ (λk hk=>.inl hk) (by simp[Own.keys]) he
  show(w.heap.setIfInBounds m _)[m]?=_
  simp[hlt]
 cases hT:Jb T k with
 |none =>
  have hf:=Tt 0 hm hT
  refine fin (es.push { key:=.int .i64 k,val:=.agg (kd.cells u r).toArray,born:=ck }) (ck+1) ?_ (hst.push _ _) ?_
  ·simpa[mkV] using Hg.push (b:=ck) hKu hm hT
  ·simp only[execOp,he.eval hx,he.eval hy,he.eval hv,Instr.mapUpdate,Sem.run_bind,run_underlying ht,Result.andThen_ok,IW hblk,Sem.run_pure,run_checkKey (e:=9999) hk,Instr.findKey,run_underlying hk,hf,Ky hblk]
 |some uu =>
  obtain⟨j',v,cs,hf,hv',_,⟨e,he1,he2⟩,hmod⟩:=Tq 0 hm hT
  refine fin (es.modify j' λe=>{ e with key:=.int .i64 k,val:=.agg (kd.cells u r).toArray }) ck ?_ (hst.modify _ _ _) ?_
  ·simpa[mkV] using hmod u _ hKu
  ·have hkey:((es[0+j']?).map (·.key)).getD (.int .i64 k)=.int .i64 k:=by
    rw[Nat.zero_add,<-Array.getElem?_toList,he1]
    simp[he2]
   have hstay:(Instr.keyThatStays (.int .i64 k) (.int .i64 k)).run P w=.ok (.int .i64 k) w:=by
    simp[Instr.keyThatStays,Instr.sameBits]
   rw[Nat.zero_add] at hf hkey
   simp only[execOp,he.eval hx,he.eval hy,he.eval hv,Instr.mapUpdate,Sem.run_bind,run_underlying ht,Result.andThen_ok,IW hblk,Sem.run_pure,run_checkKey (e:=9999) hk,Instr.findKey,run_underlying hk,hf,hkey,hstay,Ky hblk]
theorem m_lenmap{α:Type}{kd:Kd α}{agg:Bool}{i j m ck:Nat}{es:Array MapEntry}{T:List (Int×α)}(hi:FB G i=some (.blk m (.map es ck)))(hj:FB Q j=some (D7.map kd agg T es ck))(hx:ev env x=some (.map (some m)))(ht:P.underlying t=some (.map kt et)) :
  Pm P c n G Q env ⟨some d,.call { callee:=.builtin .len,args:=#[x],argTypes:=#[t] },ty,pos,Ew,g⟩ (.int .i64 (T.length:Int)):=λa w he hm=>by
 have hblk:w.heap[m]?=some (.map es ck):=hm.own hi
 obtain⟨S,hq⟩:=hm.per hj
 have hl:es.size=T.length:=by have:=Hg.length hq.1;simpa using this
 simp[execOp,resolve,invoke,builtin,Builtin.len_,he.eval hx,run_underlying ht,IW hblk,goInt,hl]
theorem Xi(hd:Nat.blt d n=true):Tr P ⟨some d,.makeMap t none,ty,pos,Ew,g⟩ (St c n env G Q) (λa w=>∃m,St c n ((d,.map (some m))::env) (.blk m (.map #[] 0)::G) Q a w):=by
 intro a w h K R hk
 have hrun:(execOp a.eval ⟨some d,.makeMap t none,ty,pos,Ew,g⟩).run P w=.ok (.value (.map (some w.heap.size))) (w.alloc (.map #[] 0)):=by
  simp[execOp,Instr.makeMap,newObj,Sem.run]
 unfold Oper.wp
 rw[hrun]
 exact hk _ _ ⟨w.heap.size,h.new _ (h.en.put hd _)⟩
end
end Go.Sx
namespace Go.Proofs.YtliacpkblicnhaaGreat
open Go Go.Sx Go.Proofs
theorem Ei:IY Tryz.prog 3=some false:=by kernel_rfl
theorem GV:FN Tryz.prog 3=some 1:=by kernel_rfl
theorem Ja:F7 Tryz.prog 3=some [.int .i64 (0)]:=by kernel_rfl
theorem jM:IY Tryz.prog 4=some false:=by kernel_rfl
theorem VK:FN Tryz.prog 4=some 1:=by kernel_rfl
theorem ze_4:F7 Tryz.prog 4=some [.bool false]:=by kernel_rfl
theorem Oa:IY Tryz.prog 5=some false:=by kernel_rfl
theorem Fa:FN Tryz.prog 5=some 1:=by kernel_rfl
theorem Jd:F7 Tryz.prog 5=some [.int .u8 (0)]:=by kernel_rfl
theorem jm:F7 Tryz.prog 24=some []:=by kernel_rfl
theorem of_24:II Tryz.prog 24=some []:=by kernel_rfl
theorem ag_27:IY Tryz.prog 27=some false:=by kernel_rfl
theorem sz_27:FN Tryz.prog 27=some 1:=by kernel_rfl
theorem fo_29_1:FH Tryz.prog 29 1=some 0:=by kernel_rfl
theorem fo_33_1:FH Tryz.prog 33 1=some 0:=by kernel_rfl
theorem el_36:El Tryz.prog 36 102 2 32 [.slice none 0 0,.bool false]:=⟨by kernel_rfl,by kernel_rfl,by kernel_rfl,by kernel_rfl,rfl,by decide,by decide⟩
theorem ze_42:F7 Tryz.prog 42=some [.int .u32 (0),.int .i32 (0),.int .u32 (0),.slice none 0 0,.map none,.int .i64 (0),.int .i64 (0)]:=by kernel_rfl
theorem ag_45:IY Tryz.prog 45=some false:=by kernel_rfl
theorem UJ:FN Tryz.prog 45=some 1:=by kernel_rfl
theorem ZM:F7 Tryz.prog 45=some [.int .u64 (0)]:=by kernel_rfl
theorem G_:IY Tryz.prog 47=some false:=by kernel_rfl
theorem Ls:FN Tryz.prog 47=some 1:=by kernel_rfl
theorem jl:F7 Tryz.prog 47=some [.slice none 0 0]:=by kernel_rfl
theorem Fv:El Tryz.prog 47 5 1 1 [.int .u8 (0)]:=⟨by kernel_rfl,by kernel_rfl,by kernel_rfl,by kernel_rfl,rfl,by decide,by decide⟩
theorem Qm:FN Tryz.prog 49=some 5:=by kernel_rfl
theorem Hy:F7 Tryz.prog 49=some [.int .u8 (0),.int .i64 (0),.int .i64 (0),.slice none 0 0,.slice none 0 0]:=by kernel_rfl
theorem fo_49_3:FH Tryz.prog 49 3=some 3:=by kernel_rfl
theorem fo_49_4:FH Tryz.prog 49 4=some 4:=by kernel_rfl
theorem KO:II Tryz.prog 49=some [(0,1),(1,1),(2,1),(3,1),(4,1)]:=by kernel_rfl
theorem OZ:IY Tryz.prog 52=some true:=by kernel_rfl
theorem KI:FN Tryz.prog 52=some 2:=by kernel_rfl
theorem Ig:F7 Tryz.prog 52=some [.int .u8 (0),.slice none 0 0]:=by kernel_rfl
theorem OU:II Tryz.prog 52=some [(0,1),(1,1)]:=by kernel_rfl
theorem JZ:IY Tryz.prog 53=some false:=by kernel_rfl
theorem O7:FN Tryz.prog 53=some 1:=by kernel_rfl
theorem NS:El Tryz.prog 53 3 1 8 [.int .i64 (0)]:=⟨by kernel_rfl,by kernel_rfl,by kernel_rfl,by kernel_rfl,rfl,by decide,by decide⟩
theorem ag_55:IY Tryz.prog 55=some true:=by kernel_rfl
theorem sz_55:FN Tryz.prog 55=some 2:=by kernel_rfl
theorem OG:F7 Tryz.prog 55=some [.int .i64 (0),.slice none 0 0]:=by kernel_rfl
theorem lN:II Tryz.prog 55=some [(0,1),(1,1)]:=by kernel_rfl
theorem ag_57:IY Tryz.prog 57=some true:=by kernel_rfl
theorem sz_57:FN Tryz.prog 57=some 2:=by kernel_rfl
theorem jk:F7 Tryz.prog 57=some [.int .i64 (0),.int .i64 (0)]:=by kernel_rfl
theorem lM:II Tryz.prog 57=some [(0,1),(1,1)]:=by kernel_rfl
theorem Qq:IY Tryz.prog 58=some false:=by kernel_rfl
theorem ZX:FN Tryz.prog 58=some 1:=by kernel_rfl
theorem X5:El Tryz.prog 58 164 3 40 [.int .i64 (0),.int .i64 (0),.slice none 0 0]:=⟨by kernel_rfl,by kernel_rfl,by kernel_rfl,by kernel_rfl,rfl,by decide,by decide⟩
theorem ag_59:IY Tryz.prog 59=some false:=by kernel_rfl
theorem el_59:El Tryz.prog 59 166 4 48 [.int .i64 (0),.int .i64 (0),.int .u8 (0),.slice none 0 0]:=⟨by kernel_rfl,by kernel_rfl,by kernel_rfl,by kernel_rfl,rfl,by decide,by decide⟩
theorem UR:IY Tryz.prog 61=some true:=by kernel_rfl
theorem JH:FN Tryz.prog 61=some 7:=by kernel_rfl
theorem I5:F7 Tryz.prog 61=some [.int .i64 (0),.int .i64 (0),.int .i64 (0),.slice none 0 0,.slice none 0 0,.int .i64 (0),.slice none 0 0]:=by kernel_rfl
theorem Nq:II Tryz.prog 61=some [(0,1),(1,2),(3,1),(4,1),(5,2)]:=by kernel_rfl
theorem ag_62:IY Tryz.prog 62=some false:=by kernel_rfl
theorem el_62:El Tryz.prog 62 97 12 144 [.int .u8 (0),.int .i64 (0),.int .i64 (0),.int .i64 (0),.int .i64 (0),.int .u8 (0),.int .i64 (0),.int .i64 (0),.slice none 0 0,.slice none 0 0,.int .i64 (0),.slice none 0 0]:=⟨by kernel_rfl,by kernel_rfl,by kernel_rfl,by kernel_rfl,rfl,by decide,by decide⟩
theorem NU:IY Tryz.prog 64=some true:=by kernel_rfl
theorem J7:FN Tryz.prog 64=some 28:=by kernel_rfl
theorem F6:F7 Tryz.prog 64=some [.int .u8 (0),.int .i64 (0),.int .i64 (0),.int .i64 (0),.int .i64 (0),.int .i64 (0),.int .i64 (0),.int .i64 (0),.int .u64 (0),.int .i64 (0),.int .i64 (0),.int .u8 (0),.int .i64 (0),.int .i64 (0),.slice none 0 0,.slice none 0 0,.int .u8 (0),.slice none 0 0,.int .i64 (0),.slice none 0 0,.int .i64 (0),.int .i64 (0),.int .i64 (0),.slice none 0 0,.slice none 0 0,.int .i64 (0),.slice none 0 0,.slice none 0 0]:=by kernel_rfl
theorem JF:II Tryz.prog 64=some [(0,1),(1,1),(2,1),(3,1),(4,1),(5,1),(6,1),(7,1),(8,1),(9,1),(10,1),(11,5),(16,2),(18,2),(20,7),(27,1)]:=by kernel_rfl
theorem ag_66:IY Tryz.prog 66=some true:=by kernel_rfl
theorem UH:FN Tryz.prog 66=some 33:=by kernel_rfl
theorem nH:FH Tryz.prog 66 1=some 1:=by kernel_rfl
theorem Nu:FH Tryz.prog 66 2=some 29:=by kernel_rfl
theorem nG:FH Tryz.prog 66 3=some 30:=by kernel_rfl
theorem JC:IY Tryz.prog 68=some false:=by kernel_rfl
theorem ZW:FN Tryz.prog 68=some 1:=by kernel_rfl
theorem ji:F7 Tryz.prog 68=some [.int .i64 (0)]:=by kernel_rfl
theorem UQ:IY Tryz.prog 81=some false:=by kernel_rfl
theorem kD:FN Tryz.prog 81=some 1:=by kernel_rfl
theorem bV:El Tryz.prog 81 47 1 24 [.slice none 0 0]:=⟨by kernel_rfl,by kernel_rfl,by kernel_rfl,by kernel_rfl,rfl,by decide,by decide⟩
theorem oD:IY Tryz.prog 82=some false:=by kernel_rfl
theorem kC:FN Tryz.prog 82=some 1:=by kernel_rfl
theorem bU:El Tryz.prog 82 4 1 1 [.bool false]:=⟨by kernel_rfl,by kernel_rfl,by kernel_rfl,by kernel_rfl,rfl,by decide,by decide⟩
theorem el_83:El Tryz.prog 83 142 2 16 [.int .i64 (0),.int .i64 (0)]:=⟨by kernel_rfl,by kernel_rfl,by kernel_rfl,by kernel_rfl,rfl,by decide,by decide⟩
theorem ze_85:F7 Tryz.prog 85=some [.slice none 0 0,.slice none 0 0,.slice none 0 0,.int .i64 (0),.int .i64 (0)]:=by kernel_rfl
theorem Ou:FH Tryz.prog 85 0=some 0:=by kernel_rfl
theorem Ot:FH Tryz.prog 85 1=some 1:=by kernel_rfl
theorem fo_85_3:FH Tryz.prog 85 3=some 3:=by kernel_rfl
theorem fo_85_4:FH Tryz.prog 85 4=some 4:=by kernel_rfl
theorem of_85:II Tryz.prog 85=some [(0,1),(1,1),(2,1),(3,1),(4,1)]:=by kernel_rfl
theorem Ku:IY Tryz.prog 97=some true:=by kernel_rfl
theorem F9:FN Tryz.prog 97=some 12:=by kernel_rfl
theorem Ia:F7 Tryz.prog 97=some [.int .u8 (0),.int .i64 (0),.int .i64 (0),.int .i64 (0),.int .i64 (0),.int .u8 (0),.int .i64 (0),.int .i64 (0),.slice none 0 0,.slice none 0 0,.int .i64 (0),.slice none 0 0]:=by kernel_rfl
theorem U2:FH Tryz.prog 97 1=some 1:=by kernel_rfl
theorem nD:FH Tryz.prog 97 5=some 5:=by kernel_rfl
theorem Qo:II Tryz.prog 97=some [(0,1),(1,1),(2,1),(3,1),(4,1),(5,5),(10,2)]:=by kernel_rfl
theorem Mc:FN Tryz.prog 102=some 2:=by kernel_rfl
theorem VE:F7 Tryz.prog 102=some [.slice none 0 0,.bool false]:=by kernel_rfl
theorem fo_102_0:FH Tryz.prog 102 0=some 0:=by kernel_rfl
theorem of_102:II Tryz.prog 102=some [(0,1),(1,1)]:=by kernel_rfl
theorem Sv:F7 Tryz.prog 112=some [.int .i64 (0),.int .i64 (0)]:=by kernel_rfl
theorem TQ:II Tryz.prog 112=some [(0,1),(1,1)]:=by kernel_rfl
theorem dh:FN Tryz.prog 121=some 3:=by kernel_rfl
theorem H6:F7 Tryz.prog 121=some [.int .u8 (0),.int .u64 (0),.slice none 0 0]:=by kernel_rfl
theorem fo_121_2:FH Tryz.prog 121 2=some 2:=by kernel_rfl
theorem JA:II Tryz.prog 121=some [(0,1),(1,1),(2,1)]:=by kernel_rfl
theorem sz_128:FN Tryz.prog 128=some 0:=by kernel_rfl
theorem dS:F7 Tryz.prog 128=some []:=by kernel_rfl
theorem of_128:II Tryz.prog 128=some []:=by kernel_rfl
theorem ze_132:F7 Tryz.prog 132=some [.slice none 0 0]:=by kernel_rfl
theorem of_132:II Tryz.prog 132=some [(0,1)]:=by kernel_rfl
theorem ze_134:F7 Tryz.prog 134=some [.slice none 0 0]:=by kernel_rfl
theorem of_134:II Tryz.prog 134=some [(0,1)]:=by kernel_rfl
theorem ag_142:IY Tryz.prog 142=some true:=by kernel_rfl
theorem MZ:FN Tryz.prog 142=some 2:=by kernel_rfl
theorem YD:F7 Tryz.prog 142=some [.int .i64 (0),.int .i64 (0)]:=by kernel_rfl
theorem bH:FH Tryz.prog 142 0=some 0:=by kernel_rfl
theorem bG:FH Tryz.prog 142 1=some 1:=by kernel_rfl
theorem of_142:II Tryz.prog 142=some [(0,1),(1,1)]:=by kernel_rfl
theorem RF:IY Tryz.prog 164=some true:=by kernel_rfl
theorem Gs:FN Tryz.prog 164=some 3:=by kernel_rfl
theorem Je:F7 Tryz.prog 164=some [.int .i64 (0),.int .i64 (0),.slice none 0 0]:=by kernel_rfl
theorem SI:FH Tryz.prog 164 0=some 0:=by kernel_rfl
theorem SH:FH Tryz.prog 164 1=some 1:=by kernel_rfl
theorem WW:FH Tryz.prog 164 2=some 2:=by kernel_rfl
theorem Vw:II Tryz.prog 164=some [(0,1),(1,1),(2,1)]:=by kernel_rfl
theorem UC:IY Tryz.prog 166=some true:=by kernel_rfl
theorem GY:FN Tryz.prog 166=some 4:=by kernel_rfl
theorem Jq:F7 Tryz.prog 166=some [.int .i64 (0),.int .i64 (0),.int .u8 (0),.slice none 0 0]:=by kernel_rfl
theorem NQ:FH Tryz.prog 166 0=some 0:=by kernel_rfl
theorem P9:FH Tryz.prog 166 1=some 1:=by kernel_rfl
theorem P8:FH Tryz.prog 166 2=some 2:=by kernel_rfl
theorem Yh:II Tryz.prog 166=some [(0,1),(1,1),(2,2)]:=by kernel_rfl
theorem ze_170:F7 Tryz.prog 170=some [.slice none 0 0,.bool false]:=by kernel_rfl
theorem fo_170_0:FH Tryz.prog 170 0=some 0:=by kernel_rfl
theorem of_170:II Tryz.prog 170=some [(0,1),(1,1)]:=by kernel_rfl
theorem ze_178:F7 Tryz.prog 178=some [.int .i64 (0),.int .i64 (0),.int .i64 (0),.slice none 0 0,.slice none 0 0,.int .i64 (0),.slice none 0 0,.slice none 0 0]:=by kernel_rfl
theorem of_178:II Tryz.prog 178=some [(0,7),(7,1)]:=by kernel_rfl
theorem ag_219:IY Tryz.prog 219=some false:=by kernel_rfl
theorem ze_229:F7 Tryz.prog 229=some [.int .i64 (0),.pointer none,.pointer none,.int .i64 (0),.slice none 0 0]:=by kernel_rfl
theorem of_229:II Tryz.prog 229=some [(0,1),(1,1),(2,1),(3,2)]:=by kernel_rfl
theorem ze_236:F7 Tryz.prog 236=some [.slice none 0 0,.int .i64 (0),.int .i64 (0)]:=by kernel_rfl
theorem of_236:II Tryz.prog 236=some [(0,1),(1,1),(2,1)]:=by kernel_rfl
theorem ze_238:F7 Tryz.prog 238=some [.slice none 0 0,.int .i64 (0),.int .i64 (0)]:=by kernel_rfl
theorem of_238:II Tryz.prog 238=some [(0,3)]:=by kernel_rfl
theorem sz_247:FN Tryz.prog 247=some 1:=by kernel_rfl
theorem PN:F7 Tryz.prog 247=some [.int .i64 (0)]:=by kernel_rfl
theorem bF:FH Tryz.prog 247 0=some 0:=by kernel_rfl
theorem TP:II Tryz.prog 247=some [(0,1)]:=by kernel_rfl
theorem ze_250:F7 Tryz.prog 250=some [.slice none 0 0,.int .i64 (0)]:=by kernel_rfl
theorem of_250:II Tryz.prog 250=some [(0,1),(1,1)]:=by kernel_rfl
theorem ze_252:F7 Tryz.prog 252=some [.slice none 0 0,.int .i64 (0)]:=by kernel_rfl
theorem of_252:II Tryz.prog 252=some [(0,2)]:=by kernel_rfl
theorem ze_264:F7 Tryz.prog 264=some [.slice none 0 0,.int .i64 (0),.int .i64 (0)]:=by kernel_rfl
theorem of_264:II Tryz.prog 264=some [(0,1),(1,1),(2,1)]:=by kernel_rfl
theorem ze_287:F7 Tryz.prog 287=some [.int .i64 (0),.int .i64 (0),.slice none 0 0,.slice none 0 0,.int .i64 (0)]:=by kernel_rfl
theorem of_287:II Tryz.prog 287=some [(0,2),(2,1),(3,1),(4,1)]:=by kernel_rfl
theorem ag_291:IY Tryz.prog 291=some false:=by kernel_rfl
theorem ze_293:F7 Tryz.prog 293=some [.map none]:=by kernel_rfl
theorem of_293:II Tryz.prog 293=some [(0,1)]:=by kernel_rfl
theorem YC:F7 Tryz.prog 299=some [.int .i64 (0),.int .u8 (0),.slice none 0 0]:=by kernel_rfl
theorem zb_299:∃z,UF Tryz.prog 299=some (.agg z):=⟨#[.int .i64 (0),.int .u8 (0),.slice none 0 0],by kernel_rfl⟩
theorem of_299:II Tryz.prog 299=some [(0,1),(1,2)]:=by kernel_rfl
theorem ze_300:F7 Tryz.prog 300=some [.int .u32 (0),.int .u32 (0),.int .u32 (0),.int .u32 (0),.int .u32 (0),.int .u32 (0),.int .u32 (0),.int .u32 (0),.int .u32 (0),.int .u32 (0),.int .u32 (0),.int .u32 (0),.int .u32 (0),.int .u32 (0),.int .u32 (0),.int .u32 (0)]:=by kernel_rfl
theorem Ef:Tryz.prog.follows .mixedOrders=true:=by kernel_rfl
end Go.Proofs.YtliacpkblicnhaaGreat
namespace Go.Sx
open Go
def up:Nat->Nat->List Nat
  |_,0=>[]
  |a,n+1=>a::up (a+1) n
def zs:Nat->List Nat
  |0=>[]
  |n+1=>0::zs n
end Go.Sx
namespace Go.Sx
open Go
section
variable {P:Program}{c:Cx}{n:Nat}{env env':List (Nat×Value)}{G G' Gr:List Own}{Q Q':List D7}{a:Act}{w:World}
theorem St.me{G1:List Own}{Q1:List D7}(h:St c n env G Q a w)(is js:List Nat)(hsel:sel G is=some (G1,Gr):=by rfl)(hq:Eu Q js=some Q1:=by rfl):Mem c G1 Q1 w:=h.mem hsel hq
theorem St.ct{G1:List Own}{Q1:List D7}(h:St c n env G Q a w)(is js:List Nat)(hs:Sx.sub env env':=by repeat(first|exact trivial|refine⟨rfl,?_⟩))(hsel:sel G is=some (G1,Gr):=by rfl)(hq:Eu Q js=some Q1:=by rfl):St c n env' G1 Q1 a w:=h.cut hs hsel hq
end
end Go.Sx
namespace Go.Proofs.YtliacpkblicnhaaGreat
open Go Go.Sx Go.Proofs
def qX:List (Nat×Nat×Nat)->Nat->Nat->Option Nat
  |[],_,_=>none
  |(a,b,k)::r,t,i=>cond (Nat.beq a t && Nat.beq b i) (some k) (qX r t i)
theorem Yq:∀{L:List (Nat×Nat×Nat)} {t i k:Nat},qX L t i=some k->(t,i,k)∈L
  |[],_,_,_,h=>by cases h
  |(a,b,x)::r,t,i,k,h=>by
    rw[qX] at h
    cases hc:(Nat.beq a t && Nat.beq b i) with
    |true =>
      rw[hc,cond_true] at h
      rw[Bool.and_eq_true] at hc
      rw[<-Option.some.inj h,<-Nat.eq_of_beq_eq_true hc.1,<-Nat.eq_of_beq_eq_true hc.2]
      exact List.mem_cons_self ..
    |false =>
      rw[hc,cond_false] at h
      exact List.mem_cons_of_mem _ (Yq h)
def foL:List (Nat×Nat×Nat):=[(29,1,0),(31,0,0),(33,1,0),(35,1,0),(35,2,1),(40,2,0),(42,0,0),(42,1,3),(42,2,4),(42,3,5),(42,4,6),(49,0,0),(49,1,1),(49,2,2),(49,3,3),(49,4,4),(52,0,0),(52,1,1),(55,0,0),(55,1,1),(57,0,0),(57,1,1),(61,0,0),(61,1,1),(61,2,3),(61,3,4),(61,4,5),(64,0,0),(64,1,1),(64,2,2),(64,3,3),(64,4,4),(64,5,5),(64,6,6),(64,7,7),(64,8,8),(64,9,9),(64,10,10),(64,11,11),(64,12,16),(64,13,18),(64,14,20),(64,15,27),(66,0,0),(66,1,1),(66,2,29),(66,3,30),(66,4,31),(66,5,32),(85,0,0),(85,1,1),(85,2,2),(85,3,3),(85,4,4),(97,0,0),(97,1,1),(97,2,2),(97,3,3),(97,4,4),(97,5,5),(97,6,10),(102,0,0),(102,1,1),(121,0,0),(121,1,1),(121,2,2),(132,0,0),(134,0,0),(142,0,0),(142,1,1),(164,0,0),(164,1,1),(164,2,2),(166,0,0),(166,1,1),(166,2,2),(170,0,0),(170,1,1),(178,0,0),(178,1,7),(236,0,0),(236,1,1),(236,2,2),(238,0,0),(247,0,0),(250,0,0),(250,1,1),(252,0,0),(264,0,0),(264,1,1),(264,2,2),(287,0,0),(287,1,2),(287,2,3),(287,3,4),(293,0,0),(299,0,0),(299,1,1)]
theorem foA:foL.all (λx=>FH Tryz.prog x.1 x.2.1 == some x.2.2)=true:=by kernel_rfl
theorem WV{t i k:Nat}(h:qX foL t i=some k):FH Tryz.prog t i=some k:=by
  have:=List.all_eq_true.1 foA _ (Yq h)
  simpa using this
def slL:List (Nat×Nat×Nat):=[(22,0,66),(36,0,102),(43,0,64),(47,0,5),(53,0,3),(58,0,164),(59,0,166),(62,0,97),(81,0,47),(83,0,142),(180,0,45)]
theorem slAll_:slL.all (λx=>match Tryz.prog.underlying x.1 with|some (.slice e)=>Nat.beq e x.2.2|_=>false)=true:=by kernel_rfl
theorem VN{t k:Nat}(h:qX slL t 0=some k):Tryz.prog.underlying t=some (.slice k):=by
  have h1:=List.all_eq_true.1 slAll_ _ (Yq h)
  dsimp only at h1
  split at h1
  · rename_i e he
    rw[he,Nat.eq_of_beq_eq_true h1]
  · cases h1
def Lh(l:List Value):Nat->Nat->Option (List Value)
  |_,0=>some []
  |o,k+1=>match nth l o with
    |none=>none
    |some v=>match Lh l (o+1) k with
      |none=>none
      |some r=>some (v::r)
theorem OM{l:List Value}:∀{k o:Nat} {vs:List Value},Lh l o k=some vs->at_ l o vs/\vs.length=k
  |0,o,vs,h=>by rw[<-Option.some.inj h];exact⟨trivial,rfl⟩
  |k+1,o,vs,h=>by
    rw[Lh] at h
    cases h1:nth l o with
    |none=>rw[h1] at h;cases h
    |some v =>
      cases h2:Lh l (o+1) k with
      |none=>rw[h1,h2] at h;cases h
      |some r =>
        rw[h1,h2] at h
        rw[<-Option.some.inj h]
        have:=OM h2
        exact⟨⟨h1,this.1⟩,by simp[this.2]⟩
theorem mJ{P:Program}{c:Cx}{n:Nat}{env:List (Nat×Value)}{G:List Own}{Q:List D7}{d:Nat}{ty:TypeId}{pos:String}{Ew:Array Edge}{g:Option (Nat×Bool)}{x:Operand}{t:TypeId}{b o:Nat}{l vs:List Value}{e:TypeId}(i k:Nat)(hi:FB G i=some (.cells b l e))(hx:ev env x=some (.pointer (some ⟨b,o,none⟩)))(hv:Lh l o k=some vs)(hg:IY P t=some true)(hs:FN P t=some k):Pm P c n G Q env ⟨some d,.load t x,ty,pos,Ew,g⟩ (.agg vs.toArray) :=
  G7 hi hx hg (by rw[(OM hv).2];exact hs) (OM hv).1
end Go.Proofs.YtliacpkblicnhaaGreat
namespace Go.Proofs.YtliacpkblicnhaaGreat
open Go Go.Sx Go.Proofs
section
variable {P:Program}{c:Cx}{n:Nat}{env env':List (Nat×Value)}{G G' Gr:List Own}{Q Q':List D7}{d:Nat}{ty:TypeId}{pos:String}{Ew:Array Edge}{g:Option (Nat×Bool)}{x:Operand}{t:TypeId}{a:Act}{w:World}{ops:Array Oper}{rest:List Oper}{R:Exit->Gz}{v:Value}{E:Value->Prop}{M:Gz}{fuel:Nat}{listed:Array Bool}
theorem Az{b o:Nat}{l vs:List Value}{e:TypeId}(i k:Nat)(z:GL P ops R rest (St c n ((d,.agg vs.toArray)::env) G Q))(hd:Nat.blt d n=true:=by rfl)(hi:FB G i=some (.cells b l e):=by rfl)(hx:ev env x=some (.pointer (some ⟨b,o,none⟩)):=by rfl)(hv:Lh l o k=some vs:=by rfl)(hg:IY P t=some true:=by kernel_rfl)(hs:FN P t=some k:=by kernel_rfl):GL P ops R (⟨some d,.load t x,ty,pos,Ew,none⟩::rest) (St c n env G Q) :=
  GL.step rfl (Ed hd (mJ i k hi hx hv hg hs)) z
theorem BX{b o:Nat}{l vs:List Value}{e:TypeId}{j s:Nat}{want:Bool}(i k:Nat)(z:GL P ops R rest (St c n ((d,.agg vs.toArray)::env) G Q))(hj:(ops[j]?).bind (·.dst)=some s:=by rfl)(hb:Sx.look env s=some (.bool want):=by rfl)(hd:Nat.blt d n=true:=by rfl)(hi:FB G i=some (.cells b l e):=by rfl)(hx:ev env x=some (.pointer (some ⟨b,o,none⟩)):=by rfl)(hv:Lh l o k=some vs:=by rfl)(hg:IY P t=some true:=by kernel_rfl)(hs:FN P t=some k:=by kernel_rfl):GL P ops R (⟨some d,.load t x,ty,pos,Ew,some (j,want)⟩::rest) (St c n env G Q) :=
  Au rfl hj hb (Ed hd (mJ i k hi hx hv hg hs)) z
theorem Ah{f:FuncId}{xs:List Operand}{vs:List Value}{ts:Array TypeId}{G1:List Own}{Q1:List D7}{F:Value->List Own->List D7->Prop}(hf:oG P f)(is js:List Nat)(hx:evs env xs=some vs)(hsel:sel G is=some (G1,Gr))(hq:Eu Q js=some Q1)(h:Ct P f vs G1 Q1 F)(k:∀v G2 Q2,F v G2 Q2->GL P ops R rest (St c n ((d,v)::env) (G2++Gr) (Q2++Q)))(hd:Nat.blt d n=true:=by rfl) :
    GL P ops R (⟨some d,.call { callee:=.value (.func f),args:=xs.toArray,argTypes:=ts },ty,pos,Ew,none⟩::rest) (St c n env G Q):=GL.step rfl (EI hd hf hx hsel hq h) (GL.ret k)
theorem Af{z:Operand}{b:Bool}{thn els:Code}(ht:b=true->GC P R thn (St c n env G Q))(hf:b=false->GC P R els (St c n env G Q))(hz:ev env z=some (.bool b):=by rfl):GC P R (.cond z thn els) (St c n env G Q):=GC.cond hz ht hf
theorem Ak{b:Bool}(i:Nat)(ht:b=true->GL P ops R rest (St c n ((i,.bool true)::env) G Q))(hf:b=false->GL P ops R rest (St c n ((i,.bool false)::env) G Q))(hi:Sx.look env i=some (.bool b):=by rfl):GL P ops R rest (St c n env G Q):=GL.split hi ht hf
theorem AQ{fn:Func}{F:Value->List Own->List D7->Prop}{G1:List Own}{Q1:List D7}(i:Nat)(is js:List Nat)(hR:F (RQ [v]) G1 Q1)(hr:fn.results=[ResultVar.tmp i].toArray:=by rfl)(hv:Sx.resV P env G [.tmp i] [v]:=by exact⟨rfl,trivial⟩)(hsel:sel G is=some (G1,Gr):=by rfl)(hq:Eu Q js=some Q1:=by rfl):∀(a:Act) (w:World),St c n env G Q a w->Fin P fn c F .ret a w:=λa w h=>Bf hr hv hsel hq hR h
theorem BR{v':Value}{fn:Func}{F:Value->List Own->List D7->Prop}{G1:List Own}{Q1:List D7}(i j:Nat)(is js:List Nat)(hR:F (RQ [v,v']) G1 Q1)(hr:fn.results=[ResultVar.tmp i,ResultVar.tmp j].toArray:=by rfl)(hv:Sx.resV P env G [.tmp i,.tmp j] [v,v']:=by exact⟨rfl,rfl,trivial⟩)(hsel:sel G is=some (G1,Gr):=by rfl)(hq:Eu Q js=some Q1:=by rfl):∀(a:Act) (w:World),St c n env G Q a w->Fin P fn c F .ret a w:=λa w h=>Bf hr hv hsel hq hR h
def lenE(sl:List (Nat×Nat×Nat))(env:List (Nat×Value)):Call->Option Value
  |⟨.builtin .len,⟨[x]⟩,⟨[t]⟩⟩=>match qX sl t 0,ev env x with
    |some _,some (.slice _ l _)=>some (.int .i64 (l:Int))
    |_,_=>none
  |_=>none
def pvE(fo sl:List (Nat×Nat×Nat))(env:List (Nat×Value)):Op->Option Value
  |.move x=>ev env x
  |.assign x=>ev env x
  |.extract x i=>match ev env x with
    |some (.tuple vs)=>nth vs.toList i
    |_=>none
  |.fieldAddr t x i=>match ev env x with
    |some (.pointer (some ⟨b,o,none⟩))=>match qX fo t i with
      |some off=>some (.pointer (some ⟨b,o+off,none⟩))
      |none=>none
    |_=>none
  |.nilCheck x=>match ev env x with
    |some (.pointer (some p))=>some (.pointer (some p))
    |_=>none
  |.pick x y z=>match ev env x with
    |some (.bool true)=>ev env y
    |some (.bool false)=>ev env z
    |_=>none
  |.unOp .not _ x=>match ev env x with
    |some (.bool b)=>some (.bool (!b))
    |_=>none
  |.call q=>lenE sl env q
  |.binOp o _ x y _=>match ev env x,ev env y with
    |some (.int k m),some (.int k' l)=>if k=k' then match o with
        |.eql=>some (.bool (decide (m=l)))
        |.neq=>some (.bool (decide (m≠l)))
        |.lss=>some (.bool (decide (m<l)))
        |.leq=>some (.bool (decide (m<=l)))
        |.gtr=>some (.bool (decide (m > l)))
        |.geq=>some (.bool (decide (m>=l)))
        |_=>none
      else none
    |_,_=>none
  |_=>none
theorem Ph{fo sl:List (Nat×Nat×Nat)}(hfo:∀{t i k:Nat},qX fo t i=some k->FH P t i=some k)(hsl:∀{t k:Nat},qX sl t 0=some k->P.underlying t=some (.slice k)){op:Op}(h:pvE fo sl env op=some v):Pv P n env ⟨some d,op,ty,pos,Ew,g⟩ v:=by
  cases op<;>simp only[pvE] at h<;>try (cases h;done)
  case move x=>exact Fe h
  case assign x=>exact Po h
  case extract x i =>
    split at h
    · rename_i vs hx
      exact LC (vs:=vs.toList) (by rw[hx,Array.toArray_toList]) h
    · cases h
  case fieldAddr t x i =>
    split at h
    · rename_i hx
      split at h
      · rename_i off hf
        rw[<-Option.some.inj h]
        exact En (hfo hf) hx
      · cases h
    · cases h
  case nilCheck x =>
    split at h
    · rename_i hx
      rw[<-Option.some.inj h]
      exact Fb hx
    · cases h
  case pick x y z =>
    split at h
    · rename_i hx
      exact Z7 hx h
    · rename_i hx
      exact YW hx h
    · cases h
  case unOp o t x =>
    cases o<;>simp only[pvE] at h<;>try (cases h;done)
    split at h
    · rename_i hx
      rw[<-Option.some.inj h]
      exact ku hx
    · cases h
  case call q =>
    unfold lenE at h
    split at h
    · split at h
      · rename_i hs hx
        rw[<-Option.some.inj h]
        exact p_len (hsl hs) hx
      · cases h
    · cases h
  case binOp o t x y u =>
    split at h
    · rename_i k m k' l hx hy
      split at h
      · rename_i hk
        subst hk
        cases o<;>simp only at h<;>try (cases h;done)
        all_goals rw[<-Option.some.inj h]
        case eql=>exact p_eql hx hy
        case neq=>exact lC hx hy
        case lss=>exact p_lss hx hy
        case leq=>exact p_leq hx hy
        case gtr=>exact p_gtr hx hy
        case geq=>exact p_geq hx hy
      · cases h
    · cases h
def N8(fo sl:List (Nat×Nat×Nat))(n:Nat)(ops:Array Oper):Nat->List Oper->List (Nat×Value)->Option (List Oper×List (Nat×Value))
  |0,l,env=>some (l,env)
  |m+1,⟨some d,op,_,_,_,none⟩::r,env=>match Nat.blt d n,pvE fo sl env op with
    |true,some v=>N8 fo sl n ops m r ((d,v)::env)
    |_,_=>none
  |m+1,⟨some d,op,_,_,_,some (j,want)⟩::r,env=>match Nat.blt d n,(ops[j]?).bind (·.dst) with
    |true,some s=>match Sx.look env s,want with
      |some (.bool true),true=>match pvE fo sl env op with
        |some v=>N8 fo sl n ops m r ((d,v)::env)
        |none=>none
      |some (.bool false),false=>match pvE fo sl env op with
        |some v=>N8 fo sl n ops m r ((d,v)::env)
        |none=>none
      |some (.bool true),false=>N8 fo sl n ops m r ((d,undef)::env)
      |some (.bool false),true=>N8 fo sl n ops m r ((d,undef)::env)
      |_,_=>none
    |_,_=>none
  |_,_,_=>none
theorem GL.Qh{fo sl:List (Nat×Nat×Nat)}(hfo:∀{t i k:Nat},qX fo t i=some k->FH P t i=some k)(hsl:∀{t k:Nat},qX sl t 0=some k->P.underlying t=some (.slice k)):∀(m:Nat) {rest rest':List Oper} {env env':List (Nat×Value)},N8 fo sl n ops m rest env=some (rest',env')->GL P ops R rest' (St c n env' G Q)->GL P ops R rest (St c n env G Q)
  |0,rest,rest',env,env',h,k=>by
    obtain⟨rfl,rfl⟩:=Prod.mk.inj (Option.some.inj h)
    exact k
  |m+1,[],rest',env,env',h,k=>by simp[N8] at h
  |m+1,⟨none,op,ty,pos,Ew,g⟩::r,rest',env,env',h,k=>by simp[N8] at h
  |m+1,⟨some d,op,ty,pos,Ew,none⟩::r,rest',env,env',h,k=>by
    rw[N8] at h
    split at h
    · rename_i v hd hv
      exact AO hd (Ph hfo hsl hv) (GL.Qh hfo hsl m h k)
    · cases h
  |m+1,⟨some d,op,ty,pos,Ew,some (j,want)⟩::r,rest',env,env',h,k=>by
    rw[N8] at h
    split at h
    · rename_i s hd hj
      split at h
      · rename_i hl
        split at h
        · rename_i v hv
          exact Ba hj hl hd (Ph hfo hsl hv) (GL.Qh hfo hsl m h k)
        · cases h
      · rename_i hl
        split at h
        · rename_i v hv
          exact Ba hj hl hd (Ph hfo hsl hv) (GL.Qh hfo hsl m h k)
        · cases h
      · rename_i hl
        exact GL.pass hj hl hd (GL.Qh hfo hsl m h k)
      · rename_i hl
        exact GL.pass hj hl hd (GL.Qh hfo hsl m h k)
      · cases h
    · cases h
theorem GQ.Qh{fo sl:List (Nat×Nat×Nat)}(hfo:∀{t i k:Nat},qX fo t i=some k->FH P t i=some k)(hsl:∀{t k:Nat},qX sl t 0=some k->P.underlying t=some (.slice k)){M:List (Nat×Value)->Prop}:∀(m:Nat) {rest rest':List Oper} {env env':List (Nat×Value)},N8 fo sl n ops m rest env=some (rest',env')->GQ P c n G Q ops rest' env' M->GQ P c n G Q ops rest env M
  |0,rest,rest',env,env',h,k=>by
    obtain⟨rfl,rfl⟩:=Prod.mk.inj (Option.some.inj h)
    exact k
  |m+1,[],rest',env,env',h,k=>by simp[N8] at h
  |m+1,⟨none,op,ty,pos,Ew,g⟩::r,rest',env,env',h,k=>by simp[N8] at h
  |m+1,⟨some d,op,ty,pos,Ew,none⟩::r,rest',env,env',h,k=>by
    rw[N8] at h
    split at h
    · rename_i v hd hv
      exact GQ.step hd (EP (Ph hfo hsl hv)) (GQ.Qh hfo hsl m h k)
    · cases h
  |m+1,⟨some d,op,ty,pos,Ew,some (j,want)⟩::r,rest',env,env',h,k=>by
    rw[N8] at h
    split at h
    · rename_i s hd hj
      split at h
      · rename_i hl
        split at h
        · rename_i v hv
          exact Ai hj hl hd (EP (Ph hfo hsl hv)) (GQ.Qh hfo hsl m h k)
        · cases h
      · rename_i hl
        split at h
        · rename_i v hv
          exact Ai hj hl hd (EP (Ph hfo hsl hv)) (GQ.Qh hfo hsl m h k)
        · cases h
      · rename_i hl
        exact GQ.pass hj hl hd (GQ.Qh hfo hsl m h k)
      · rename_i hl
        exact GQ.pass hj hl hd (GQ.Qh hfo hsl m h k)
      · cases h
    · cases h
theorem Ad{b o:Nat}{l:List Value}{e:TypeId}(i:Nat)(z:GL P ops R rest (St c n ((d,v)::env) G Q))(hd:Nat.blt d n=true:=by rfl)(hi:FB G i=some (.cells b l e):=by rfl)(hx:ev env x=some (.pointer (some ⟨b,o,none⟩)):=by rfl)(hv:nth l o=some v:=by rfl)(hg:IY P t=some false:=by kernel_rfl):GL P ops R (⟨some d,.load t x,ty,pos,Ew,none⟩::rest) (St c n env G Q) :=
  GL.step rfl (Ed hd (EF hi hx hg hv)) z
theorem Aj{b o:Nat}{l:List Value}{e:TypeId}{j s:Nat}{want:Bool}(i:Nat)(z:GL P ops R rest (St c n ((d,v)::env) G Q))(hj:(ops[j]?).bind (·.dst)=some s:=by rfl)(hb:Sx.look env s=some (.bool want):=by rfl)(hd:Nat.blt d n=true:=by rfl)(hi:FB G i=some (.cells b l e):=by rfl)(hx:ev env x=some (.pointer (some ⟨b,o,none⟩)):=by rfl)(hv:nth l o=some v:=by rfl)(hg:IY P t=some false:=by kernel_rfl):GL P ops R (⟨some d,.load t x,ty,pos,Ew,some (j,want)⟩::rest) (St c n env G Q) :=
  Au rfl hj hb (Ed hd (EF hi hx hg hv)) z
theorem Ar{y:Operand}{b o:Nat}{l l' vs:List Value}{e:TypeId}{G1:List Own}(i:Nat)(z:GL P ops R rest (St c n env G1 Q))(hi:FB G i=some (.cells b l e):=by rfl)(hx:ev env x=some (.pointer (some ⟨b,o,none⟩)):=by rfl)(hy:ev env y=some (.agg vs.toArray):=by rfl)(hs:FN P t=some vs.length:=by kernel_rfl)(h1:QC vs=true:=by rfl)(hu:upd l o vs=some l':=by rfl)(hr:Io G i (.cells b l' e)=some G1:=by rfl):GL P ops R (⟨none,.store t x y,ty,pos,Ew,none⟩::rest) (St c n env G Q) :=
  GL.step rfl (EZ hi hx hy hs h1 hu hr) z
theorem BI{y:Operand}{b o:Nat}{l l':List Value}{e:TypeId}{G1:List Own}(i:Nat)(z:GL P ops R rest (St c n env G1 Q))(hi:FB G i=some (.cells b l e):=by rfl)(hx:ev env x=some (.pointer (some ⟨b,o,none⟩)):=by rfl)(hy:ev env y=some v:=by rfl)(hc:v.cells.toList=[v]:=by rfl)(hs:FN P t=some 1:=by kernel_rfl)(h1:v.oneCell'=true:=by rfl)(hu:upd l o [v]=some l':=by rfl)(hr:Io G i (.cells b l' e)=some G1:=by rfl):GL P ops R (⟨none,.store t x y,ty,pos,Ew,none⟩::rest) (St c n env G Q) :=
  GL.step rfl (Et hi hx hy hc hs h1 hu hr) z
theorem mM{a:Tmp}{t:TypeId}{b o e:Nat}{l vs:List Value}(gi k:Nat)(hi:FB G gi=some (.cells b l e))(hl:Sx.look env a=some (.pointer (some ⟨b,o,none⟩)))(hv:Lh l o k=some vs)(hg:IY P t=some true)(hs:FN P t=some k):ldV P env G a t (.agg vs.toArray) :=
  ⟨gi,b,o,l,e,hi,hl,.inr ⟨vs,rfl,hg,by rw[(OM hv).2];exact hs,(OM hv).1⟩⟩
theorem DF{v1 v2:Value}{fn:Func}{F:Value->List Own->List D7->Prop}{G1:List Own}{Q1:List D7}(i j m:Nat)(is js:List Nat)(hR:F (RQ [v,v1,v2]) G1 Q1)(hr:fn.results=[ResultVar.tmp i,ResultVar.tmp j,ResultVar.tmp m].toArray:=by rfl)(hv:Sx.resV P env G [.tmp i,.tmp j,.tmp m] [v,v1,v2]:=by exact⟨rfl,rfl,rfl,trivial⟩)(hsel:sel G is=some (G1,Gr):=by rfl)(hq:Eu Q js=some Q1:=by rfl):∀(a:Act) (w:World),St c n env G Q a w->Fin P fn c F .ret a w:=λa w h=>Bf hr hv hsel hq hR h
theorem DC{b o e:Nat}{l vs:List Value}{fn:Func}{F:Value->List Own->List D7->Prop}{G1:List Own}{Q1:List D7}(a_ t_ gi k:Nat)(is js:List Nat)(hR:F (RQ [.agg vs.toArray]) G1 Q1)(hr:fn.results=[ResultVar.cell a_ t_].toArray:=by rfl)(hi:FB G gi=some (.cells b l e):=by rfl)(hl:Sx.look env a_=some (.pointer (some ⟨b,o,none⟩)):=by rfl)(hv:Lh l o k=some vs:=by rfl)(hg:IY P t_=some true:=by kernel_rfl)(hs:FN P t_=some k:=by kernel_rfl)(hsel:sel G is=some (G1,Gr):=by rfl)(hq:Eu Q js=some Q1:=by rfl):∀(a:Act) (w:World),St c n env G Q a w->Fin P fn c F .ret a w:=λa w h=>Bf (rs:=[.cell a_ t_]) (vs:=[.agg vs.toArray]) hr ⟨mM gi k hi hl hv hg hs,trivial⟩ hsel hq hR h
theorem Fin.c1{b o e:Nat}{l vs:List Value}{fn:Func}{F:Value->List Own->List D7->Prop}{G1:List Own}{Q1:List D7}(a_ t_ i gi k:Nat)(is js:List Nat)(hR:F (RQ [.agg vs.toArray,v]) G1 Q1)(hr:fn.results=[ResultVar.cell a_ t_,ResultVar.tmp i].toArray:=by rfl)(hi:FB G gi=some (.cells b l e):=by rfl)(hl:Sx.look env a_=some (.pointer (some ⟨b,o,none⟩)):=by rfl)(hv:Lh l o k=some vs:=by rfl)(h1:Sx.look env i=some v:=by rfl)(hg:IY P t_=some true:=by kernel_rfl)(hs:FN P t_=some k:=by kernel_rfl)(hsel:sel G is=some (G1,Gr):=by rfl)(hq:Eu Q js=some Q1:=by rfl):∀(a:Act) (w:World),St c n env G Q a w->Fin P fn c F .ret a w:=λa w h=>Bf (rs:=[.cell a_ t_,.tmp i]) (vs:=[.agg vs.toArray,v]) hr ⟨mM gi k hi hl hv hg hs,h1,trivial⟩ hsel hq hR h
theorem Fin.c2{v1:Value}{b o e:Nat}{l vs:List Value}{fn:Func}{F:Value->List Own->List D7->Prop}{G1:List Own}{Q1:List D7}(a_ t_ i j gi k:Nat)(is js:List Nat)(hR:F (RQ [.agg vs.toArray,v,v1]) G1 Q1)(hr:fn.results=[ResultVar.cell a_ t_,ResultVar.tmp i,ResultVar.tmp j].toArray:=by rfl)(hi:FB G gi=some (.cells b l e):=by rfl)(hl:Sx.look env a_=some (.pointer (some ⟨b,o,none⟩)):=by rfl)(hv:Lh l o k=some vs:=by rfl)(h1:Sx.look env i=some v:=by rfl)(h2:Sx.look env j=some v1:=by rfl)(hg:IY P t_=some true:=by kernel_rfl)(hs:FN P t_=some k:=by kernel_rfl)(hsel:sel G is=some (G1,Gr):=by rfl)(hq:Eu Q js=some Q1:=by rfl):∀(a:Act) (w:World),St c n env G Q a w->Fin P fn c F .ret a w:=λa w h=>Bf (rs:=[.cell a_ t_,.tmp i,.tmp j]) (vs:=[.agg vs.toArray,v,v1]) hr ⟨mM gi k hi hl hv hg hs,h1,h2,trivial⟩ hsel hq hR h
theorem Aw(rs:List Nat){I:World->Prop}{A:Gz}(h:E8 P ops M I fuel listed A rs)(hr:Region.ready .any ops listed=rs:=by kernel_rfl)(hne:rs≠[]:=by simp):GA P ops M I (fuel+1) listed A:=GA.all hr hne h
theorem BA{op:Op}{G1:List Own}{Q1:List D7}(i:Nat)(hi:ops[i]?=some ⟨some d,op,ty,pos,Ew,none⟩)(is js:List Nat)(h:Pi P n (Mem c G1 Q1) env ⟨some d,op,ty,pos,Ew,none⟩ v)(k:GA P ops M (Mem c G1 Q1) fuel (listed.setIfInBounds i true) (St c n ((d,v)::env) G Q))
    (hs:Region.noSelect ops=true:=by kernel_rfl) (hf:Region.free .any ops listed i=true:=by kernel_rfl) (hr:(Region.ready .any ops listed).contains i=true:=by kernel_rfl) (hd:Nat.blt d n=true:=by rfl) (hsel:sel G is=some (G1,Gr):=by rfl) (hq:Eu Q js=some Q1:=by rfl):GA P ops M (Mem c G1 Q1) (fuel+1) listed (St c n env G Q) :=
  GA.take i hi hs hf hr hd (λ_ _ h=>h.mem hsel hq) h k
theorem Bg{op:Op}{G1:List Own}{Q1:List D7}{j s:Nat}{want:Bool}(i:Nat)(is js:List Nat)(k:GA P ops M (Mem c G1 Q1) fuel (listed.setIfInBounds i true) (St c n ((d,undef)::env) G Q))(hi:ops[i]?=some ⟨some d,op,ty,pos,Ew,some (j,want)⟩:=by rfl)(hj:(ops[j]?).bind (·.dst)=some s:=by rfl)(hb:Sx.look env s=some (.bool (!want)):=by rfl)
    (hs:Region.noSelect ops=true:=by kernel_rfl) (hf:Region.free .any ops listed i=true:=by kernel_rfl) (hr:(Region.ready .any ops listed).contains i=true:=by kernel_rfl) (hd:Nat.blt d n=true:=by rfl) (hsel:sel G is=some (G1,Gr):=by rfl) (hq:Eu Q js=some Q1:=by rfl):GA P ops M (Mem c G1 Q1) (fuel+1) listed (St c n env G Q) :=
  GA.takeX i hi hj hb hs hf hr hd (λ_ _ h=>h.mem hsel hq) k
theorem AZ{op:Op}{G1:List Own}{Q1:List D7}(i:Nat)(is js:List Nat)(k:GA P ops M (Mem c G1 Q1) fuel (listed.setIfInBounds i true) (St c n ((d,v)::env) G Q))(hi:ops[i]?=some ⟨some d,op,ty,pos,Ew,none⟩:=by rfl)(h:Pi P n (Mem c G1 Q1) env ⟨some d,op,ty,pos,Ew,none⟩ v:=by exact EK (Ph WV VN rfl))
    (hs:Region.noSelect ops=true:=by kernel_rfl) (hf:Region.free .any ops listed i=true:=by kernel_rfl) (hr:(Region.ready .any ops listed).contains i=true:=by kernel_rfl) (hd:Nat.blt d n=true:=by rfl) (hsel:sel G is=some (G1,Gr):=by rfl) (hq:Eu Q js=some Q1:=by rfl):GA P ops M (Mem c G1 Q1) (fuel+1) listed (St c n env G Q) :=
  GA.take i hi hs hf hr hd (λ_ _ h=>h.mem hsel hq) h k
end
end Go.Proofs.YtliacpkblicnhaaGreat
namespace Go.Proofs.YtliacpkblicnhaaGreat
open Go Go.Sx Go.Proofs
section
variable {c:Cx}{n:Nat}{G:List Own}{Q:List D7}{ops:Array Oper}{rest rest' l:List Oper}{env env':List (Nat×Value)}{R:Exit->Gz}{y:Code}{id:Nat}
theorem AA(m:Nat)(k:GL Tryz.prog ops R rest' (St c n env' G Q))(h:N8 foL slL n ops m rest env=some (rest',env'):=by rfl):GL Tryz.prog ops R rest (St c n env G Q):=GL.Qh WV VN m h k
theorem AL(m:Nat)(k:GC Tryz.prog R y (St c n env' G Q))(h:N8 foL slL n ops m rest env=some ([],env'):=by rfl):GL Tryz.prog ops (Exit.then (λa w=>y.wp Tryz.prog R a w) R) rest (St c n env G Q):=GL.Qh WV VN m h (Ap k)
theorem AV(m:Nat)(k:GL Tryz.prog l.toArray (Exit.then (λa w=>y.wp Tryz.prog R a w) R) rest' (St c n env' G Q))(h:N8 foL slL n l.toArray m l env=some (rest',env'):=by rfl):GC Tryz.prog R (.seq (.region id l.toArray false) y) (St c n env G Q):=AX (GL.Qh WV VN m h k)
theorem AP(m:Nat)(k:GC Tryz.prog R y (St c n env' G Q))(h:N8 foL slL n l.toArray m l env=some ([],env'):=by rfl):GC Tryz.prog R (.seq (.region id l.toArray false) y) (St c n env G Q):=AX (GL.Qh WV VN m h (Ap k))
theorem BL(m:Nat)(k:GL Tryz.prog l.toArray (Exit.then (λa w=>y.wp Tryz.prog R a w) R) rest' (St c n env' G Q))(h:N8 foL slL n l.toArray m l env=some (rest',env'):=by rfl):GL Tryz.prog ops (Exit.then (λa w=>(Code.seq (.region id l.toArray false) y).wp Tryz.prog R a w) R) [] (St c n env G Q):=Ap (AV m k h)
theorem Am{M:List (Nat×Value)->Prop}(m:Nat)(k:GQ Tryz.prog c n G Q ops rest' env' M)(h:N8 foL slL n ops m rest env=some (rest',env'):=by rfl):GQ Tryz.prog c n G Q ops rest env M:=GQ.Qh WV VN m h k
end
end Go.Proofs.YtliacpkblicnhaaGreat
namespace Go.Sx
open Go
abbrev JE(b:UInt8):Value:=Value.int .u8 (b.toNat:Int)
abbrev Fz:Kd (List UInt8):=Kd.slice Kd.u8
structure J4 where
 code:Int
 data:List UInt8
 deriving Inhabited,DecidableEq
def kRes:Kd J4:=Cj (BU (Kd.int .u8) Fz) (λr=>(r.code,r.data))
structure Row where
 client:Int
 serial:Int
 result:J4
 deriving Inhabited,DecidableEq
def Jz:Kd Row:=Cj (BU (Kd.int .i64) (BU (Kd.int .i64) kRes)) (λr=>(r.client,r.serial,r.result))
structure Last where
 serial:Int
 result:J4
 deriving Inhabited,DecidableEq
def Pz:Kd Last:=Cj (BU (Kd.int .i64) kRes) (λr=>(r.serial,r.result))
end Go.Sx
namespace Go.Sx
open Go
section
variable {P:Program}{c:Cx}{n:Nat}{env env':List (Nat×Value)}{G G' Gr:List Own}{Q Q':List D7}{d:Nat}{ty:TypeId}{pos:String}{Ew:Array Edge}{g:Option (Nat×Bool)}{x y:Operand}{t:TypeId}{a a':Act}{w w':World}
variable {ops:Array Oper}{R:Exit->Gz}{rest:List Oper}{A B:Gz}{cd:Code}
theorem St.snoc{α:Type}{kd:Kd α}{xs:List α}{cs:List Value}{z:α}{r:kd.Y}{j:Nat}{js:List Nat}(h:St c n env G Q a w)(hj:FB Q j=some (A_ kd xs cs))(hq:Eu Q js=some (kd.pers z r))(hok:kd.ok z r) :
  St c n env G (A_ kd (xs++[z]) (cs++kd.cells z r)::Q) a w :=
 h.know λw S hp=>JO.append (JO.single ⟨r,hok,rfl,λq hq'=>hp _ (Gv hq q hq')⟩) (hp _ (FI hj))
theorem GL.snoc{α:Type}{kd:Kd α}{xs:List α}{cs:List Value}{j:Nat}{js:List Nat}(z:α)(r:kd.Y)(hj:FB Q j=some (A_ kd xs cs))(hq:Eu Q js=some (kd.pers z r))(hok:kd.ok z r)
  (k:GL P ops R rest (St c n env G (A_ kd (xs++[z]) (cs++kd.cells z r)::Q))):GL P ops R rest (St c n env G Q):=GL.imp (λa w h=>h.snoc hj hq hok) k
theorem GC.snoc{α:Type}{kd:Kd α}{xs:List α}{cs:List Value}{j:Nat}{js:List Nat}(z:α)(r:kd.Y)(hj:FB Q j=some (A_ kd xs cs))(hq:Eu Q js=some (kd.pers z r))(hok:kd.ok z r)
  (k:GC P R cd (St c n env G (A_ kd (xs++[z]) (cs++kd.cells z r)::Q))):GC P R cd (St c n env G Q):=GC.imp (λa w h=>h.snoc hj hq hok) k
theorem St.IQ{α:Type}{kd:Kd α}{i j e m cp:Nat}{A:Option Addr}{xs:List α}{cs:List Value}(h:St c n env G Q a w)(ht:I7 G i=some (.row (.slice A m cp) e kd.sz m cs,G'))(hj:FB Q j=some (A_ kd xs cs))(hp:0<kd.sz) :
  St c n env G' (D7.row kd A xs::Q) a w :=
 h.freeze (QN:=[D7.row kd A xs]) ht λw S ho hS hq q hq'=>by
  rw[List.mem_singleton.1 hq']
  exact PZ ho hS (hq _ (FI hj)) hp
theorem GL.IQ{α:Type}{kd:Kd α}{i j e m cp:Nat}{A:Option Addr}{xs:List α}{cs:List Value}(ht:I7 G i=some (.row (.slice A m cp) e kd.sz m cs,G'))(hj:FB Q j=some (A_ kd xs cs))(hp:0<kd.sz)
  (k:GL P ops R rest (St c n env G' (D7.row kd A xs::Q))):GL P ops R rest (St c n env G Q):=GL.imp (λa w h=>h.IQ ht hj hp) k
theorem GC.IQ{α:Type}{kd:Kd α}{i j e m cp:Nat}{A:Option Addr}{xs:List α}{cs:List Value}(ht:I7 G i=some (.row (.slice A m cp) e kd.sz m cs,G'))(hj:FB Q j=some (A_ kd xs cs))(hp:0<kd.sz)
  (k:GC P R cd (St c n env G' (D7.row kd A xs::Q))):GC P R cd (St c n env G Q):=GC.imp (λa w h=>h.IQ ht hj hp) k
theorem Di{α:Type}{kd:Kd α}{x y:Operand}{j cap:Nat}{k:IntKind}{m:Int}{A:Option Addr}{xs:List α}{z:α}(hx:ev env x=some (.slice A xs.length cap))(hy:ev env y=some (.int k m))(hj:FB Q j=some (D7.row kd A xs))(h0:0<=m)(hz:xs[m.toNat]?=some z)
  (kk:∀p r,A=some p->kd.ok z r->GC P R cd (St c n env G (D7.at (p.add (m.toNat * kd.sz)) (kd.cells z r)::(kd.pers z r++Q)))):GC P R cd (St c n env G Q):=λa w h=>by
 obtain⟨S,he,hh,hrel⟩:=h
 have hlt:m.toNat<xs.length:=(List.getElem?_eq_some_iff.1 hz).1
 rcases hh.per _ (FI hj) with h1|⟨p,hA,hS,hb,hrow⟩
 ·subst h1;simp at hlt
 ·obtain⟨cs,⟨r,hok,rfl,Td⟩,hc⟩:=hrow _ _ hz
  refine kk p r hA hok a w ⟨S,he,⟨hh.own,hh.Oj,hh.out,λq hq=>?_⟩,hrel⟩
  rcases List.mem_cons.1 hq with rfl|hq
  ·exact⟨by rw[add_block];exact hS,by rw[add_block];exact hb,hc⟩
  ·rcases List.mem_append.1 hq with hq|hq
   ·exact Td q hq
   ·exact hh.per q hq
theorem Eb{p:Addr}{A:Option Addr}{len cap sz:Nat}{k:IntKind}{m:Int}{e:TypeId}(hA:A=some p)(hx:ev env x=some (.slice A len cap))(hy:ev env y=some (.int k m))(ht:P.underlying t=some (.slice e))(hs:FN P e=some sz)(h0:0<=m)(h1:m<len) :
  Pv P n env ⟨some d,.indexAddr t x y,ty,pos,Ew,g⟩ (.pointer (some (Addr.add (p.add (m.toNat * sz)) 0))):=λa w he=>by
 subst hA
 rw[add_zero]
 simp only[execOp,he.eval hx,he.eval hy,run_indexAt ht hs h0 h1,Sem.run_bind,Result.andThen_ok,Sem.run_pure]
end
end Go.Sx
namespace Go.Sx
open Go
theorem nth_map{α:Type}[Inhabited α](enc:α->Value){xs:List α}{i:Int}(h0:0<=i)(h:i<(xs.length:Int)):nth (xs.map enc) (0+i.toNat * 1)=some (enc (gt xs i)):=by
 rw[JG,Nat.zero_add,Nat.mul_one,List.getElem?_map,EW h0 h];rfl
theorem Qs:∀(l:List Value) (o:Nat) (vs:List Value),o+vs.length<=l.length->upd l o vs=some (l.take o++vs++l.drop (o+vs.length))
 |l,0,[],_=>by cases l<;>simp[upd]
 |[],0,v::vs,h=>by simp at h
 |x::r,0,v::vs,h=>by
  have:=Qs r 0 vs (by simpa using h)
  simp only[upd,this,Option.map_some]
  simp
 |[],o+1,vs,h=>by simp at h
 |x::r,o+1,vs,h=>by
  have:=Qs r o vs (by simp at h;omega)
  simp only[upd,this,Option.map_some]
  simp[show o+1+vs.length=o+vs.length+1 by omega]
theorem jv{α:Type}(enc:α->Value){xs:List α}{i:Int}{x:α}(h0:0<=i)(h:i<(xs.length:Int)):upd (xs.map enc) (0+i.toNat * 1) [enc x]=some ((xs.set i.toNat x).map enc):=by
 rw[Nat.zero_add,Nat.mul_one,Qs _ _ _ (by simp;omega)]
 congr 1
 rw[List.map_set,List.set_eq_take_append_cons_drop,if_pos (by simp;omega)]
 simp
theorem VY(v:Value):∀n,Na [v] n=List.replicate n v
 |0=>rfl
 |n+1=>by rw[Na,VY v n];rfl
theorem YN(n:Nat):Na [.int .u8 0] n=(List.replicate n (0:UInt8)).map (λb=>Value.int .u8 (b.toNat:Int)):=by rw[VY,List.map_replicate];rfl
theorem Zk(n:Nat):Na [.int .i64 0] n=(List.replicate n (0:Int)).map (λz=>Value.int .i64 z):=by rw[VY,List.map_replicate]
def seg{α:Type}(xs:List α)(l h:Nat):List α:=(xs.take h).drop l
theorem seg_length{α:Type}{xs:List α}{l h:Nat}(hh:h<=xs.length):(seg xs l h).length=h - l:=by simp[seg];omega
def laid{α:Type}(xs:List α)(o:Nat)(ys:List α):List α:=xs.take o++ys++xs.drop (o+ys.length)
theorem Gw{α:Type}{xs ys:List α}{o:Nat}(h:o+ys.length<=xs.length):(laid xs o ys).length=xs.length:=by simp[laid];omega
theorem laid_map{α β:Type}(f:α->β)(xs ys:List α)(o:Nat):(laid xs o ys).map f=laid (xs.map f) o (ys.map f):=by simp[laid]
end Go.Sx
namespace Go.Sx
open Go
section
variable {P:Program}{c:Cx}{n:Nat}{env env':List (Nat×Value)}{G G' Gr:List Own}{Q Q':List D7}{d:Nat}{ty:TypeId}{pos:String}{Ew:Array Edge}{g:Option (Nat×Bool)}{x y z u:Operand}{t:TypeId}{a a':Act}{w w':World}
variable {ops:Array Oper}{R:Exit->Gz}{rest:List Oper}{A B:Gz}{cd:Code}
theorem reps_eq(z:List Value)(hz:0<z.length)(m:Nat):madeCells z.toArray (m * z.length)=(Na z m).toArray:=by
 unfold madeCells
 exact NC z hz m
theorem VJ{k k':IntKind}{m:Int}{e:TypeId}{sz Y8:Nat}{zl:List Value}(hd:Nat.blt d n=true)(hel:El P t e sz Y8 zl)(hx:ev env x=some (.int k m))(hy:ev env y=some (.int k' m))(h0:0<=m)(hb:m * Y8<=281474976710656) :
  Tr P ⟨some d,.makeSlice t x y,ty,pos,Ew,g⟩ (St c n env G Q) (λa w=>∃b,St c n ((d,.slice (some ⟨b,0,none⟩) m.toNat m.toNat)::env) (.cells b (Na zl m.toNat) e::G) Q a w):=by
 intro a w h K R hk
 obtain⟨i,hi,hby⟩:=Option.map_eq_some_iff.1 hel.byt
 have hsz:i.size=sz:=by have:=hel.size;unfold FN at this;rw[hi] at this;simpa using this
 obtain⟨zv,hzv,hzz⟩:=Option.map_eq_some_iff.1 hel.zero
 have hz':i.zero=some zv:=by unfold UF at hzv;rw[hi] at hzv;simpa using hzv
 have hzc:zv.cells=zl.toArray:=by rw[<-hzz,<-JQ]
 have hpos:=hel.bpos
 have hm1:m<=281474976710656:=by
  refine Int.le_trans ?_ hb
  have:m * 1<=m * (Y8:Int):=Int.mul_le_mul_of_nonneg_left (by omega) h0
  simpa using this
 have hrun:(execOp a.eval ⟨some d,.makeSlice t x y,ty,pos,Ew,g⟩).run P w=.ok (.value (.slice (some ⟨w.heap.size,0,none⟩) m.toNat m.toNat)) (w.alloc (.cells (Na zl m.toNat).toArray e (0,0))):=by
  have:=run_make (P:=P) w t e i zv hel.und hi hz' k k' m m h0 (Int.le_refl _) (by rw[hby,Int.mul_comm];exact hb) (by omega)
  rw[hzc,hsz,<-hel.zlen,reps_eq zl (by rw[hel.zlen];exact hel.spos)] at this
  simp only[execOp,h.en.eval hx,h.en.eval hy,Sem.run_bind,this,Result.andThen_ok,Sem.run_pure]
 unfold Oper.wp
 rw[hrun]
 exact hk _ _ ⟨w.heap.size,h.new _ (h.en.put hd _)⟩
theorem U5{e:TypeId}(ht:P.underlying t=some (.slice e)):P.elem t=e:=by simp[Program.elem,ht]
theorem lD{v:Value}{lo hi mx:Option Operand}{lo' hi' mx':Option Value}(hx:ev env x=some v)(hlo:lo.bind (ev env)=lo')(hhi:hi.bind (ev env)=hi')(hmx:mx.bind (ev env)=mx')(hlo2:lo.isSome=lo'.isSome)(hhi2:hi.isSome=hi'.isSome)(hmx2:mx.isSome=mx'.isSome){r:Value}(hr:∀w,(Instr.sliceAt t v lo' hi' mx').run P w=.ok r w) :
  Pv P n env ⟨some d,.slice t x lo hi mx,ty,pos,Ew,g⟩ r:=λa w he=>by
 have key:∀(o:Option Operand) (o':Option Value),o.bind (ev env)=o'->o.isSome=o'.isSome->o.map a.eval=o':=by
  intro o o' h1 h2
  cases o with
  |none=>simpa using h1
  |some p =>
   simp only[Option.bind_some] at h1
   subst h1
   cases hp:ev env p with
   |none=>rw[hp] at h2;simp at h2
   |some q=>simp[he.eval hp]
 simp only[execOp,he.eval hx,key lo lo' hlo hlo2,key hi hi' hhi hhi2,key mx mx' hmx hmx2,hr,Sem.run_bind,Result.andThen_ok,Sem.run_pure]
theorem QH{A A':Option Addr}{l h m s len' cap':Nat}(e1:h - l=len')(e2:m - l=cap')(hA:XJ A s l m=A'):sliced A l h m s=.slice A' len' cap':=by
 subst e1;subst e2;subst hA;rfl
theorem Xr{A A':Option Addr}{len cap sz len' cap':Nat}{kl kh km:IntKind}{l h m:Int}{e:TypeId}(hx:ev env x=some (.slice A len cap))(hl:ev env y=some (.int kl l))(hh:ev env z=some (.int kh h))(hm:ev env u=some (.int km m))(ht:P.underlying t=some (.slice e))(hs:FN P e=some sz)
  (h0:0<=l) (h1:l<=h) (h2:h<=m) (h3:m<=cap) (e1:h.toNat - l.toNat=len') (e2:m.toNat - l.toNat=cap') (hA:XJ A sz l.toNat m.toNat=A'):Pv P n env ⟨some d,.slice t x (some y) (some z) (some u),ty,pos,Ew,g⟩ (.slice A' len' cap') :=
 lD hx (lo':=some (.int kl l)) (hi':=some (.int kh h)) (mx':=some (.int km m)) (show(some y).bind (ev env)=_ from hl) (show(some z).bind (ev env)=_ from hh) (show(some u).bind (ev env)=_ from hm) rfl rfl rfl λw=>by
  have he:=U5 ht
  rw[run_sliceAt_slice _ _ _ _ _ _ (by rw[he];exact ht),run_slice_lhm _ _ _ _ _ (by rw[he];exact ht) kl kh km l h m h0 h1 h2 h3,he,H_ hs]
  simp only[Result.andThen_ok,QH e1 e2 hA]
theorem Z9{A A':Option Addr}{len cap sz len' cap':Nat}{kl kh:IntKind}{l h:Int}{e:TypeId}(hx:ev env x=some (.slice A len cap))(hl:ev env y=some (.int kl l))(hh:ev env z=some (.int kh h))(ht:P.underlying t=some (.slice e))(hs:FN P e=some sz)
  (h0:0<=l) (h1:l<=h) (h2:h<=cap) (e1:h.toNat - l.toNat=len') (e2:cap - l.toNat=cap') (hA:XJ A sz l.toNat cap=A'):Pv P n env ⟨some d,.slice t x (some y) (some z) none,ty,pos,Ew,g⟩ (.slice A' len' cap') :=
 lD hx (lo':=some (.int kl l)) (hi':=some (.int kh h)) (mx':=none) (show(some y).bind (ev env)=_ from hl) (show(some z).bind (ev env)=_ from hh) rfl rfl rfl rfl λw=>by
  have he:=U5 ht
  rw[run_sliceAt_slice _ _ _ _ _ _ (by rw[he];exact ht),run_slice_lh _ _ _ _ _ (by rw[he];exact ht) kl kh l h h0 h1 h2,he,H_ hs]
  simp only[Result.andThen_ok,QH e1 e2 hA]
theorem Ux{A A':Option Addr}{len cap sz len' cap':Nat}{kh:IntKind}{h:Int}{e:TypeId}(hx:ev env x=some (.slice A len cap))(hh:ev env z=some (.int kh h))(ht:P.underlying t=some (.slice e))(hs:FN P e=some sz)
  (h0:0<=h) (h2:h<=cap) (e1:h.toNat - 0=len') (e2:cap - 0=cap') (hA:XJ A sz 0 cap=A'):Pv P n env ⟨some d,.slice t x none (some z) none,ty,pos,Ew,g⟩ (.slice A' len' cap') :=
 lD hx (lo':=none) (hi':=some (.int kh h)) (mx':=none) rfl (show(some z).bind (ev env)=_ from hh) rfl rfl rfl rfl λw=>by
  have he:=U5 ht
  rw[run_sliceAt_slice _ _ _ _ _ _ (by rw[he];exact ht),run_slice_h _ _ _ _ _ (by rw[he];exact ht) kh h h0 h2,he,H_ hs]
  simp only[Result.andThen_ok,QH e1 e2 hA]
theorem Uw{A A':Option Addr}{len cap sz len' cap':Nat}{kl:IntKind}{l:Int}{e:TypeId}(hx:ev env x=some (.slice A len cap))(hl:ev env y=some (.int kl l))(ht:P.underlying t=some (.slice e))(hs:FN P e=some sz)
  (h0:0<=l) (h1:l<=len) (e1:len - l.toNat=len') (e2:cap - l.toNat=cap') (hA:XJ A sz l.toNat cap=A'):Pv P n env ⟨some d,.slice t x (some y) none none,ty,pos,Ew,g⟩ (.slice A' len' cap') :=
 lD hx (lo':=some (.int kl l)) (hi':=none) (mx':=none) (show(some y).bind (ev env)=_ from hl) rfl rfl rfl rfl rfl λw=>by
  have he:=U5 ht
  rw[run_sliceAt_slice _ _ _ _ _ _ (by rw[he];exact ht),run_slice_l _ _ _ _ _ (by rw[he];exact ht) kl l h0 h1,he,H_ hs]
  simp only[Result.andThen_ok,QH e1 e2 hA]
theorem Um{b o sz l m:Nat}(h:l<m):XJ (some ⟨b,o,none⟩) sz l m=some ⟨b,o+l * sz,none⟩:=by
 unfold XJ
 rw[if_neg (by omega)]
 simp[add_lit]
theorem Oh{α:Type}{kd:Kd α}{A:Option Addr}{xs:List α}{S:Blocks}{l h m:Nat}(hr:(D7.row kd A xs).h w S)(hh:h<=xs.length)(hm:h<=m):(D7.row kd (XJ A kd.sz l m) (seg xs l h)).h w S:=by
 by_cases hl:l<h
 ·rcases hr with rfl|⟨p,rfl,h1,h2,h3⟩
  ·simp at hh;omega
  ·right
   refine⟨p.add (l * kd.sz),?_,by rw[add_block];exact h1,by rw[add_block];exact h2,λi x hx=>?_⟩
   ·unfold XJ;rw[if_neg (by omega)];rfl
   ·have hx2:xs[l+i]?=some x:=by
     unfold seg at hx
     rw[List.getElem?_drop,List.getElem?_take] at hx
     split at hx
     ·exact hx
     ·cases hx
    obtain⟨cs,h4,h5⟩:=h3 _ _ hx2
    refine⟨cs,h4,?_⟩
    rw[add_add]
    rw[Nat.add_mul] at h5
    exact h5
 ·left
  unfold seg
  apply List.drop_of_length_le
  simp;omega
theorem blk_sub{α:Type}{enc:α->Value}{h1:∀x,(enc x).oneCell'=true}{b l h:Nat}{e:TypeId}{xs:List α}{S:Blocks}(ho:(Own.cells b (xs.map enc) e).holds w)(hS:S b):(D7.row (DI enc h1) (some ⟨b,l,none⟩) (seg xs l h)).h w S:=by
 right
 have hb:w.heap[b]?=some (.cells (xs.map enc).toArray e (0,0)):=ho
 refine⟨_,rfl,hS,(Array.getElem?_eq_some_iff.1 hb).1,λi x hx=>⟨[enc x],⟨(),trivial,rfl,λq hq=>by cases hq⟩,?_⟩⟩
 have hx2:xs[l+i]?=some x:=by
  unfold seg at hx
  rw[List.getElem?_drop,List.getElem?_take] at hx
  split at hx
  ·exact hx
  ·cases hx
 rw[show(i * (DI enc h1).sz)=i from Nat.mul_one i,add_lit]
 refine Jj hb λj u hj=>?_
 match j,hj with
 |0,hj=>simp at hj;subst hj;simp[hx2]
 |j+1,hj=>simp at hj
theorem XK{dT sT ty e:TypeId}{p:Addr}{A:Option Addr}{dLen dCap sCap:Nat}{w:World}(hu:P.underlying dT=some (.slice e))(hs:FN P e=some 1) :
  (Builtin.copy_ #[dT,sT] ty #[.slice (some p) dLen dCap,.slice A 0 sCap]).run P w=.ok (goInt 0) w:=by
 obtain⟨i,hi,hs'⟩:=Option.map_eq_some_iff.1 hs
 cases A with
 |none=>simp[Builtin.copy_,run_underlying hu,Builtin.lenOf,Builtin.firstCells,sizeOf,typeInfo,hi,storeCells]
 |some q=>simp[Builtin.copy_,run_underlying hu,Builtin.lenOf,Builtin.firstCells,sizeOf,typeInfo,hi,storeCells,loadCells,loadCellsFrom]
theorem t_copyB{α:Type}{enc:α->Value}{h1:∀x,(enc x).oneCell'=true}{xs:List α}{i k b o dLen dCap sCap:Nat}{l l':List Value}{e e':TypeId}{A:Option Addr}{sT:TypeId}
  (hd:Nat.blt d n=true) (hi:FB G i=some (.cells b l e')) (hk:FB Q k=some (D7.row (DI enc h1) A xs)) (hx:ev env x=some (.slice (some ⟨b,o,none⟩) dLen dCap)) (hy:ev env y=some (.slice A xs.length sCap))
  (ht:P.underlying t=some (.slice e)) (hs:FN P e=some 1) (hlen:xs.length<=dLen) (hfit:o+xs.length<=l.length) (hl':laid l o (xs.map enc)=l') (hr:Io G i (.cells b l' e')=some G') :
  Tr P ⟨some d,.call { callee:=.builtin .copy,args:=#[x,y],argTypes:=#[t,sT] },ty,pos,Ew,g⟩ (St c n env G Q) (St c n ((d,.int .i64 (xs.length:Int))::env) G' Q):=by
 intro a w hst K R hk2
 have he:=hst.en
 have hb:w.heap[b]?=some (.cells l.toArray e' (0,0)):=hst.own hi
 obtain⟨S,hp⟩:=hst.per hk
 have hrun0:(Builtin.copy_ #[t,sT] ty #[.slice (some ⟨b,o,none⟩) dLen dCap,.slice A xs.length sCap]).run P w=.ok (.int .i64 (xs.length:Int)) (w.setRow b l'.toArray):=by
  rcases Qv hp with h0|⟨p,rfl,_,_,hc⟩
  ·subst h0
   have:l'=l:=by rw[<-hl'];simp[laid]
   rw[this,setRow_self w b l.toArray e' (0,0) hb]
   exact XK ht hs
  ·have:=run_copy_row P w t sT ty e b o dLen dCap p xs.length sCap l.toArray e' (xs.map enc) ht hs hb (by rw[List.length_map];exact(Nat.min_eq_left hlen).symm) hc (by simpa using hfit) (by intro v hv;obtain⟨x,_,rfl⟩:=List.mem_map.1 hv;exact h1 x)
   rw[this]
   simp only[List.length_map]
   rw[<-hl']
   simp[laid,goInt]
 have hop:(execOp a.eval ⟨some d,.call { callee:=.builtin .copy,args:=#[x,y],argTypes:=#[t,sT] },ty,pos,Ew,g⟩).run P w=.ok (.value (.int .i64 (xs.length:Int))) (w.setRow b l'.toArray):=by
  simp only[execOp,resolve,invoke,builtin,Sem.run_bind,Sem.run_pure,Result.andThen_ok,List.map_toArray,List.map_cons,List.map_nil,he.eval hx,he.eval hy,hrun0]
 unfold Oper.wp
 rw[hop]
 exact hk2 _ _ (hst.write hi hr (Fr.setRow w b _) (setRow_heap w b _ _ _ _ hb) (λk hk=>.inl hk) (by simp[Own.keys]) (he.put hd _))
end
end Go.Sx
namespace Go.Sx
open Go
section
variable {P:Program}{c:Cx}{n:Nat}{env env':List (Nat×Value)}{G G' Gr:List Own}{Q Q':List D7}{d:Nat}{ty:TypeId}{pos:String}{Ew:Array Edge}{g:Option (Nat×Bool)}{x y z u:Operand}{t:TypeId}{a a':Act}{w w':World}
variable {ops:Array Oper}{R:Exit->Gz}{rest:List Oper}{A B:Gz}{cd:Code}
theorem Me{α:Type}{d:Kd α}{w:World}{S:Blocks}:∀{xs:List α} {cs:List Value},JO d w S xs cs->∀{i:Nat} {x:α},xs[i]?=some x->∃c1 c c2,cs=c1++(c++c2)/\c1.length=i * d.sz/\d.K w S x c/\JO d w S (xs.take i) c1/\JO d w S (xs.drop (i+1)) c2
 |[],_,_,i,x,hx=>by simp at hx
 |y::r,_,⟨c,t,e,hk,h⟩,0,x,hx=>by
  simp at hx;subst hx
  exact⟨[],c,t,by simpa using e,by simp,hk,rfl,by simpa using h⟩
 |y::r,_,⟨c,t,e,hk,h⟩,i+1,x,hx=>by
  obtain⟨c1,c',c2,rfl,h1,h2,h3,h4⟩:=Me h (i:=i) (x:=x) (by simpa using hx)
  refine⟨c++c1,c',c2,by simp[e],?_,h2,⟨c,c1,rfl,hk,h3⟩,by simpa using h4⟩
  rw[List.length_append,h1,DK hk,Nat.add_mul];omega
theorem nth_app{l1 l2:List Value}{k:Nat}{v:Value}(h:nth l1 k=some v):nth (l1++l2) k=some v:=by
 rw[JG] at h ⊢
 rw[List.getElem?_append_left (List.getElem?_eq_some_iff.1 h).1]
 exact h
theorem GC.aU{α:Type}{kd:Kd α}{j:Nat}{m:Int}{xs:List α}{cs:List Value}{z:α}(sp:List Value)(hj:FB Q j=some (A_ kd xs cs))(h0:0<=m)(hz:xs[m.toNat]?=some z)
  (kk:∀r,kd.ok z r->(∀q v,nth (kd.cells z r) q=some v->nth (cs++sp) (0+m.toNat * kd.sz+q)=some v)->GC P R cd (St c n env G (kd.pers z r++Q))):GC P R cd (St c n env G Q):=λa w h=>by
 obtain⟨S,he,hh,hrel⟩:=h
 obtain⟨c1,cc,c2,rfl,h1,⟨r,hok,rfl,Td⟩,_,_⟩:=Me (hh.per _ (FI hj)) hz
 refine kk r hok (λq v hq=>?_) a w ⟨S,he,⟨hh.own,hh.Oj,hh.out,λq hq=>?_⟩,hrel⟩
 ·rw[JG] at hq ⊢
  have hlt:=(List.getElem?_eq_some_iff.1 hq).1
  rw[List.append_assoc,Nat.zero_add,<-h1,List.getElem?_append_right (by omega),Nat.add_sub_cancel_left,List.append_assoc,List.getElem?_append_left hlt]
  exact hq
 ·rcases List.mem_append.1 hq with hq|hq
  ·exact Td q hq
  ·exact hh.per q hq
theorem GL.aU{α:Type}{kd:Kd α}{j:Nat}{m:Int}{xs:List α}{cs:List Value}{z:α}(sp:List Value)(hj:FB Q j=some (A_ kd xs cs))(h0:0<=m)(hz:xs[m.toNat]?=some z)
  (kk:∀r,kd.ok z r->(∀q v,nth (kd.cells z r) q=some v->nth (cs++sp) (0+m.toNat * kd.sz+q)=some v)->GL P ops R rest (St c n env G (kd.pers z r++Q))):GL P ops R rest (St c n env G Q):=λa w h=>by
 obtain⟨S,he,hh,hrel⟩:=h
 obtain⟨c1,cc,c2,rfl,h1,⟨r,hok,rfl,Td⟩,_,_⟩:=Me (hh.per _ (FI hj)) hz
 refine kk r hok (λq v hq=>?_) a w ⟨S,he,⟨hh.own,hh.Oj,hh.out,λq hq=>?_⟩,hrel⟩
 ·rw[JG] at hq ⊢
  have hlt:=(List.getElem?_eq_some_iff.1 hq).1
  rw[List.append_assoc,Nat.zero_add,<-h1,List.getElem?_append_right (by omega),Nat.add_sub_cancel_left,List.append_assoc,List.getElem?_append_left hlt]
  exact hq
 ·rcases List.mem_append.1 hq with hq|hq
  ·exact Td q hq
  ·exact hh.per q hq
theorem laid_app{l sp vs:List Value}{o:Nat}(h:o+vs.length<=l.length):laid (l++sp) o vs=laid l o vs++sp:=by
 unfold laid
 rw[List.take_append_of_le_length (by omega),List.drop_append_of_le_length (by omega)]
 simp
theorem ZR{cs sp vs:List Value}{o:Nat}(h:0+o+vs.length<=cs.length):upd (cs++sp) (0+o) vs=some (laid cs o vs++sp):=by
 rw[Qs _ _ _ (by simp;omega),<-laid_app (by omega),Nat.zero_add]
 rfl
theorem St.dw{α:Type}{kd:Kd α}{j:Nat}{js:List Nat}{m:Nat}{xs:List α}{cs:List Value}{z z':α}{r:kd.Y}(h:St c n env G Q a w)(hj:FB Q j=some (A_ kd xs cs))(hz:m<xs.length)(hq:Eu Q js=some (kd.pers z' r))(hok:kd.ok z' r) :
  St c n env G (A_ kd (xs.set m z') (laid cs (m * kd.sz) (kd.cells z' r))::Q) a w :=
 h.know λw S hp=>by
  obtain⟨c1,cc,c2,rfl,h1,hk,h3,h4⟩:=Me (hp _ (FI hj)) (List.getElem?_eq_getElem hz)
  have hl:=DK hk
  have e:laid (c1++(cc++c2)) (m * kd.sz) (kd.cells z' r)=c1++(kd.cells z' r++c2):=by
   unfold laid
   rw[<-h1,List.take_left,List.drop_append,List.drop_of_length_le (by omega),show c1.length+(kd.cells z' r).length - c1.length=cc.length by rw[hl,kd.len];omega,List.drop_left]
   simp
  rw[e,List.set_eq_take_append_cons_drop,if_pos hz]
  exact JO.append (show JO kd w S (z'::xs.drop (m+1)) (kd.cells z' r++c2) from⟨_,_,rfl,⟨r,hok,rfl,λq hq'=>hp _ (Gv hq q hq')⟩,h4⟩) h3
theorem GL.dw{α:Type}{kd:Kd α}{j:Nat}{js:List Nat}{m:Nat}{xs:List α}{cs:List Value}(z':α)(r:kd.Y)(hj:FB Q j=some (A_ kd xs cs))(hz:m<xs.length)(hq:Eu Q js=some (kd.pers z' r))(hok:kd.ok z' r)
  (k:GL P ops R rest (St c n env G (A_ kd (xs.set m z') (laid cs (m * kd.sz) (kd.cells z' r))::Q))):GL P ops R rest (St c n env G Q):=GL.imp (λa w h=>h.dw (z:=z') hj hz hq hok) k
theorem DX{o:Oper}{q:D7}{F:Gz}(h:Tr P o F (St c n env G Q))(hq:∀w S,(∀p∈Q,p.h w S)->q.h w S):Tr P o F (St c n env G (q::Q)):=h.mono (λa w h=>h) λa w h=>h.know hq
theorem PW{α:Type}{kd:Kd α}{j cap:Nat}{A:Option Addr}{xs:List α}{kl kh:IntKind}{l h:Int}{e:TypeId}(hd:Nat.blt d n=true)(hj:FB Q j=some (D7.row kd A xs))(hx:ev env x=some (.slice A xs.length cap))(hl:ev env y=some (.int kl l))(hh:ev env z=some (.int kh h))
  (ht:P.underlying t=some (.slice e)) (hs:FN P e=some kd.sz) (h0:0<=l) (h1:l<=h) (h2:h<=xs.length) (hc:xs.length<=cap) :
  Tr P ⟨some d,.slice t x (some y) (some z) none,ty,pos,Ew,g⟩ (St c n env G Q) (St c n ((d,.slice (XJ A kd.sz l.toNat cap) (seg xs l.toNat h.toNat).length (cap - l.toNat))::env) G (D7.row kd (XJ A kd.sz l.toNat cap) (seg xs l.toNat h.toNat)::Q)) :=
 DX (Tr.val hd (Z9 hx hl hh ht hs h0 h1 (by omega) (seg_length (by omega)).symm rfl rfl)) λw S hp=>Oh (hp _ (FI hj)) (by omega) (by omega)
theorem QE{α:Type}{kd:Kd α}{j cap:Nat}{A:Option Addr}{xs:List α}{kh:IntKind}{h:Int}{e:TypeId}(hd:Nat.blt d n=true)(hj:FB Q j=some (D7.row kd A xs))(hx:ev env x=some (.slice A xs.length cap))(hh:ev env z=some (.int kh h))
  (ht:P.underlying t=some (.slice e)) (hs:FN P e=some kd.sz) (h1:0<=h) (h2:h<=xs.length) (hc:xs.length<=cap) :
  Tr P ⟨some d,.slice t x none (some z) none,ty,pos,Ew,g⟩ (St c n env G Q) (St c n ((d,.slice (XJ A kd.sz 0 cap) (seg xs 0 h.toNat).length (cap - 0))::env) G (D7.row kd (XJ A kd.sz 0 cap) (seg xs 0 h.toNat)::Q)) :=
 DX (Tr.val hd (Ux hx hh ht hs h1 (by omega) (seg_length (by omega)).symm rfl rfl)) λw S hp=>Oh (hp _ (FI hj)) (by omega) (by omega)
theorem Jk{α:Type}{kd:Kd α}{j cap:Nat}{A:Option Addr}{xs:List α}{kl:IntKind}{l:Int}{e:TypeId}(hd:Nat.blt d n=true)(hj:FB Q j=some (D7.row kd A xs))(hx:ev env x=some (.slice A xs.length cap))(hl:ev env y=some (.int kl l))
  (ht:P.underlying t=some (.slice e)) (hs:FN P e=some kd.sz) (h0:0<=l) (h1:l<=xs.length) (hc:xs.length<=cap) :
  Tr P ⟨some d,.slice t x (some y) none none,ty,pos,Ew,g⟩ (St c n env G Q) (St c n ((d,.slice (XJ A kd.sz l.toNat cap) (seg xs l.toNat xs.length).length (cap - l.toNat))::env) G (D7.row kd (XJ A kd.sz l.toNat cap) (seg xs l.toNat xs.length)::Q)) :=
 DX (Tr.val hd (Uw hx hl ht hs h0 h1 (seg_length (Nat.le_refl _)).symm rfl rfl)) λw S hp=>Oh (hp _ (FI hj)) (by omega) (by omega)
end
end Go.Sx
namespace Go.Sx
open Go
theorem RS{α:Type}(xs:List α):seg xs 0 xs.length=xs:=by simp[seg]
end Go.Sx
namespace Go.Sx
open Go
section
variable {P:Program}{c:Cx}{n:Nat}{env env':List (Nat×Value)}{G G' Gr:List Own}{Q Q':List D7}{d:Nat}{ty:TypeId}{pos:String}{Ew:Array Edge}{g:Option (Nat×Bool)}{x y z u:Operand}{t:TypeId}{a a':Act}{w w':World}
variable {ops:Array Oper}{R:Exit->Gz}{rest:List Oper}{A B:Gz}{cd:Code}{M:Gz}{I:World->Prop}{fuel:Nat}{listed:Array Bool}
theorem GA.shape{i e sz m:Nat}{v:Value}{cs:List Value}(hi:FB G i=some (.row v e sz m cs))(k:∀A cp,v=.slice A m cp->m<=cp->cp<=9223372036854775807->GA P ops M I fuel listed (St c n env G Q)):GA P ops M I fuel listed (St c n env G Q):=λa w h=>by
 obtain⟨A,cp,h1,h2,h3⟩:=h.shape hi
 exact k A cp h1 h2 h3 a w h
theorem GA.know{q:D7}(hq:∀w S,(∀p∈Q,p.h w S)->q.h w S)(k:GA P ops M I fuel listed (St c n env G (q::Q))):GA P ops M I fuel listed (St c n env G Q):=GA.imp (λa w h=>h.know hq) k
theorem St.FD{α:Type}{enc:α->Value}{h1:∀x,(enc x).oneCell'=true}{i b e:Nat}{xs:List α}(h:St c n env G Q a w)(ht:I7 G i=some (.cells b (xs.map enc) e,G')):St c n env G' (D7.row (DI enc h1) (some ⟨b,0,none⟩) xs::Q) a w :=
 h.freeze (QN:=[D7.row (DI enc h1) (some ⟨b,0,none⟩) xs]) ht λw S ho hS hq q hq'=>by
  rw[List.mem_singleton.1 hq']
  have:=blk_sub (h1:=h1) (l:=0) (h:=xs.length) (S:=S) ho (hS b (by simp[Own.keys]))
  rwa [RS] at this
theorem GL.FD{α:Type}{enc:α->Value}{h1:∀x,(enc x).oneCell'=true}{i b e:Nat}{xs:List α}(ht:I7 G i=some (.cells b (xs.map enc) e,G'))(k:GL P ops R rest (St c n env G' (D7.row (DI enc h1) (some ⟨b,0,none⟩) xs::Q))):GL P ops R rest (St c n env G Q):=GL.imp (λa w h=>h.FD ht) k
theorem GC.FD{α:Type}{enc:α->Value}{h1:∀x,(enc x).oneCell'=true}{i b e:Nat}{xs:List α}(ht:I7 G i=some (.cells b (xs.map enc) e,G'))(k:GC P R cd (St c n env G' (D7.row (DI enc h1) (some ⟨b,0,none⟩) xs::Q))):GC P R cd (St c n env G Q):=GC.imp (λa w h=>h.FD ht) k
theorem GA.FD{α:Type}{enc:α->Value}{h1:∀x,(enc x).oneCell'=true}{i b e:Nat}{xs:List α}(ht:I7 G i=some (.cells b (xs.map enc) e,G'))(k:GA P ops M I fuel listed (St c n env G' (D7.row (DI enc h1) (some ⟨b,0,none⟩) xs::Q))):GA P ops M I fuel listed (St c n env G Q):=GA.imp (λa w h=>h.FD ht) k
theorem CY{α:Type}{kd:Kd α}{j:Nat}{xs:List α}{cs:List Value}(hj:FB Q j=some (A_ kd xs cs))(k:cs.length=xs.length * kd.sz->GC P R cd (St c n env G Q)):GC P R cd (St c n env G Q):=λa w h=>by
 obtain⟨S,hp⟩:=h.per hj
 exact k (JO.length hp) a w h
theorem GA.aU{α:Type}{kd:Kd α}{j:Nat}{m:Int}{xs:List α}{cs:List Value}{z:α}(sp:List Value)(hj:FB Q j=some (A_ kd xs cs))(h0:0<=m)(hz:xs[m.toNat]?=some z)
  (kk:∀r,kd.ok z r->(∀q v,nth (kd.cells z r) q=some v->nth (cs++sp) (0+m.toNat * kd.sz+q)=some v)->GA P ops M I fuel listed (St c n env G (kd.pers z r++Q))):GA P ops M I fuel listed (St c n env G Q):=λa w h=>by
 obtain⟨S,he,hh,hrel⟩:=h
 obtain⟨c1,cc,c2,rfl,h1,⟨r,hok,rfl,Td⟩,_,_⟩:=Me (hh.per _ (FI hj)) hz
 refine kk r hok (λq v hq=>?_) a w ⟨S,he,⟨hh.own,hh.Oj,hh.out,λq hq=>?_⟩,hrel⟩
 ·rw[JG] at hq ⊢
  have hlt:=(List.getElem?_eq_some_iff.1 hq).1
  rw[List.append_assoc,Nat.zero_add,<-h1,List.getElem?_append_right (by omega),Nat.add_sub_cancel_left,List.append_assoc,List.getElem?_append_left hlt]
  exact hq
 ·rcases List.mem_append.1 hq with hq|hq
  ·exact Td q hq
  ·exact hh.per q hq
theorem GA.dw{α:Type}{kd:Kd α}{j:Nat}{js:List Nat}{m:Nat}{xs:List α}{cs:List Value}(z':α)(r:kd.Y)(hj:FB Q j=some (A_ kd xs cs))(hz:m<xs.length)(hq:Eu Q js=some (kd.pers z' r))(hok:kd.ok z' r)
  (k:GA P ops M I fuel listed (St c n env G (A_ kd (xs.set m z') (laid cs (m * kd.sz) (kd.cells z' r))::Q))):GA P ops M I fuel listed (St c n env G Q):=GA.imp (λa w h=>h.dw (z:=z') hj hz hq hok) k
theorem GC.dw{α:Type}{kd:Kd α}{j:Nat}{js:List Nat}{m:Nat}{xs:List α}{cs:List Value}(z':α)(r:kd.Y)(hj:FB Q j=some (A_ kd xs cs))(hz:m<xs.length)(hq:Eu Q js=some (kd.pers z' r))(hok:kd.ok z' r)
  (k:GC P R cd (St c n env G (A_ kd (xs.set m z') (laid cs (m * kd.sz) (kd.cells z' r))::Q))):GC P R cd (St c n env G Q):=GC.imp (λa w h=>h.dw (z:=z') hj hz hq hok) k
theorem Rn{α:Type}[Inhabited α](enc:α->Value){xs:List α}{sp:List Value}{i:Int}(h0:0<=i)(h:i<(xs.length:Int)):nth (xs.map enc++sp) (0+i.toNat * 1)=some (enc (gt xs i)):=nth_app (nth_map enc h0 h)
theorem VF{α:Type}(enc:α->Value){xs:List α}{sp:List Value}{i:Int}{x:α}(h0:0<=i)(h:i<(xs.length:Int)):upd (xs.map enc++sp) (0+i.toNat * 1) [enc x]=some ((xs.set i.toNat x).map enc++sp):=by
 rw[ZR (by simp;omega)]
 have:=jv enc (xs:=xs) (x:=x) h0 h
 rw[Qs _ _ _ (by simp;omega)] at this
 simp only[Option.some.injEq] at this
 rw[<-this]
 simp[laid]
end
end Go.Sx
namespace Go.Sx
open Go
abbrev w32(x:BitVec 32):Value:=.int .u32 (x.toNat:Int)
theorem wrap32(x:BitVec 32):IntKind.u32.wrap (x.toNat:Int)=(x.toNat:Int):=by
 have:=x.isLt
 simp[IntKind.wrap,IntKind.bits,IntKind.signed]
 omega
theorem ofInt32(x:BitVec 32):BitVec.ofInt 32 (x.toNat:Int)=x:=by
 apply BitVec.eq_of_toNat_eq
 have:=x.isLt
 rw[BitVec.toNat_ofInt]
 omega
theorem xor32(a b:BitVec 32):IntKind.u32.wrap ((BitVec.ofInt IntKind.u32.bits (a.toNat:Int) ^^^ BitVec.ofInt IntKind.u32.bits (b.toNat:Int)).toNat:Int)=((a ^^^ b).toNat:Int):=by
 show IntKind.u32.wrap ((BitVec.ofInt 32 (a.toNat:Int) ^^^ BitVec.ofInt 32 (b.toNat:Int)).toNat:Int)=_
 rw[ofInt32,ofInt32,wrap32]
theorem and32(a b:BitVec 32):IntKind.u32.wrap ((BitVec.ofInt IntKind.u32.bits (a.toNat:Int) &&& BitVec.ofInt IntKind.u32.bits (b.toNat:Int)).toNat:Int)=((a &&& b).toNat:Int):=by
 show IntKind.u32.wrap ((BitVec.ofInt 32 (a.toNat:Int) &&& BitVec.ofInt 32 (b.toNat:Int)).toNat:Int)=_
 rw[ofInt32,ofInt32,wrap32]
theorem com32(a:BitVec 32):IntKind.u32.wrap ((BitVec.ofInt IntKind.u32.bits IntKind.u32.max ^^^ BitVec.ofInt IntKind.u32.bits (a.toNat:Int)).toNat:Int)=((~~~ a).toNat:Int):=by
 show IntKind.u32.wrap ((BitVec.ofInt 32 IntKind.u32.max ^^^ BitVec.ofInt 32 (a.toNat:Int)).toNat:Int)=_
 rw[ofInt32,show BitVec.ofInt 32 IntKind.u32.max=BitVec.allOnes 32 by decide,BitVec.allOnes_xor,wrap32]
end Go.Sx
namespace Go.Sx
open Go
section
variable {P:Program}{c:Cx}{n:Nat}{env:List (Nat×Value)}{d:Nat}{ty:TypeId}{pos:String}{Ew:Array Edge}{g:Option (Nat×Bool)}{x y:Operand}{t u:TypeId}
theorem Rh{a b:BitVec 32}(hx:ev env x=some (w32 a))(hy:ev env y=some (w32 b)):Pv P n env ⟨some d,.binOp .xor t x y u,ty,pos,Ew,g⟩ (w32 (a ^^^ b)):=by
 have:=p_xor (P:=P) (n:=n) (d:=d) (ty:=ty) (pos:=pos) (Ew:=Ew) (g:=g) (t:=t) (u:=u) hx hy
 rw[xor32] at this
 exact this
theorem lG{a b:BitVec 32}(hx:ev env x=some (w32 a))(hy:ev env y=some (w32 b)):Pv P n env ⟨some d,.binOp .and t x y u,ty,pos,Ew,g⟩ (w32 (a &&& b)):=by
 have:=p_and (P:=P) (n:=n) (d:=d) (ty:=ty) (pos:=pos) (Ew:=Ew) (g:=g) (t:=t) (u:=u) hx hy
 rw[and32] at this
 exact this
theorem kZ{a:BitVec 32}{yk:IntKind}(k:Nat)(hk:k<=32)(hx:ev env x=some (w32 a))(hy:ev env y=some (.int yk (k:Int))):Pv P n env ⟨some d,.binOp .shr t x y u,ty,pos,Ew,g⟩ (w32 (a >>> k)):=by
 have:=p_shr (P:=P) (n:=n) (d:=d) (ty:=ty) (pos:=pos) (Ew:=Ew) (g:=g) (t:=t) (u:=u) hx hy (by omega)
 have e:(a.toNat:Int).fdiv (2 ^ (min ((k:Int)).toNat IntKind.u32.bits))=((a >>> k).toNat:Int):=by
  have h1:min ((k:Int)).toNat IntKind.u32.bits=k:=by show min k 32=k;omega
  rw[h1,Int.fdiv_eq_ediv_of_nonneg _ (by exact Int.pow_nonneg (by decide)),BitVec.toNat_ushiftRight,Nat.shiftRight_eq_div_pow]
  simp
 rw[e] at this
 exact this
theorem Uy{a:BitVec 32}(hx:ev env x=some (w32 a)):Pv P n env ⟨some d,.unOp .xor t x,ty,pos,Ew,g⟩ (w32 (~~~ a)):=λact w he=>by
 have e:=com32 a
 simp only[execOp,he.eval hx,Op.unary,Op.intBits,Sem.run_bind,Sem.run_pure,Result.andThen_ok]
 rw[if_neg (show ¬IntKind.u32.signed=true by decide)]
 exact congrArg (λz=>Result.ok (Next.value (Value.int .u32 z)) w) e
theorem lF{b:UInt8}(ht:P.underlying t≠none)(hu:P.underlying u=some (.int .u32))(hx:ev env x=some (.int .u8 (b.toNat:Int))):Pv P n env ⟨some d,.convert t u x,ty,pos,Ew,g⟩ (w32 (b.toBitVec.zeroExtend 32)):=by
 have:=NH (P:=P) (n:=n) (d:=d) (ty:=ty) (pos:=pos) (Ew:=Ew) (g:=g) (t:=t) (u:=u) ht hu hx
 have e:IntKind.u32.wrap (b.toNat:Int)=((b.toBitVec.zeroExtend 32).toNat:Int):=by
  have hb:=b.toNat_lt
  have h2:(b.toBitVec.zeroExtend 32).toNat=b.toNat:=by
   simp
  rw[<-wrap32,h2]
 rw[e] at this
 exact this
theorem Z8{a:BitVec 32}(hx:ev env x=some (w32 a))(hy:ev env y=some (.int .u32 2)):Pv P n env ⟨some d,.binOp .quo t x y u,ty,pos,Ew,g⟩ (w32 (a >>> 1)) :=
 O8 hx hy (by decide) (by
  have e:(a.toNat:Int).tdiv 2=((a >>> 1).toNat:Int):=by
   rw[BitVec.toNat_ushiftRight,Nat.shiftRight_eq_div_pow,Int.tdiv_eq_ediv_of_nonneg (by omega)]
   simp
  rw[e,wrap32])
theorem odd32(a:BitVec 32):((a.toNat:Int).tmod 2=1)↔a.getLsbD 0=true:=by
 rw[Int.tmod_eq_emod_of_nonneg (by omega),<-BitVec.testBit_toNat,Nat.testBit_zero,decide_eq_true_eq]
 omega
theorem p_buildA{len sz:Nat}{e:TypeId}{ps:List (Nat×Operand)}{z l:List Value}{parts:List (Nat×Value)}(ht:P.underlying t=some (.array len e))(hs:FN P e=some sz)(hz:F7 P t=some z)(hp:evP env ps=some parts)(hf:WZ (λi=>some (i * sz,sz)) z parts=some l) :
  Pv P n env ⟨some d,.build t ps.toArray,ty,pos,Ew,g⟩ (.agg l.toArray):=λa w he=>by
 have hpm:(ps.toArray.map fun(p:Nat×Operand)=>(p.1,a.eval p.2))=parts.toArray:=by rw[List.map_toArray,he.evPs hp]
 obtain⟨zv,hzv,hzz⟩:=Option.map_eq_some_iff.1 hz
 have hcells:zv.cells=z.toArray:=by rw[<-hzz,<-JQ]
 have WI:=Ox (λi=>some (i * sz,sz)) parts z l hf
 simp only[execOp,hpm,Instr.build,Sem.run_bind,Kw hzv,Result.andThen_ok,run_underlying ht,H_ hs,hcells,WI,Sem.run_pure]
theorem p_indexV{len sz:Nat}{e:TypeId}{k:IntKind}{m:Int}{l:List Value}{v:Value}(hx:ev env x=some (.agg l.toArray))(hy:ev env y=some (.int k m))(ht:P.underlying t=some (.array len e))(hs:FN P e=some sz)(hg:IY P e=some false)(h0:0<=m)(h1:m<len)(hv:nth l (m.toNat * sz)=some v) :
  Pv P n env ⟨some d,.index t x y,ty,pos,Ew,g⟩ v:=λa w he=>by
 simp only[execOp,he.eval hx,he.eval hy,Instr.index,asIntOf,Sem.run_bind,Sem.run_pure,Result.andThen_ok,run_underlying ht,if_pos (show 0<=m/\m<(len:Int) from⟨h0,h1⟩),H_ hs,Rf hg hv]
end
end Go.Sx
namespace Go.Sx
open Go
def kept(env:List (Nat×Value)):List Nat->Option (List (Nat×Value))
 |[]=>some []
 |i::is=>match look env i,kept env is with
  |some v,some r=>some ((i,v)::r)
  |_,_=>none
theorem aW{env:List (Nat×Value)}:∀{is:List Nat} {e:List (Nat×Value)},kept env is=some e->sub env e
 |[],e,h=>by simp only[kept,Option.some.injEq] at h;subst h;trivial
 |i::is,e,h=>by
  simp only[kept] at h
  split at h
  ·rename_i v r h1 h2
   simp only[Option.some.injEq] at h
   subst h
   exact⟨h1,aW h2⟩
  ·cases h
theorem kE{env:List (Nat×Value)}:∀{a b:List (Nat×Value)},sub env a->sub env b->sub env (a++b)
 |[],b,_,h=>h
 |(i,v)::r,b,⟨h1,h2⟩,h=>⟨h1,kE h2 h⟩
end Go.Sx
namespace Go.Sx
open Go
section
variable {P:Program}{c:Cx}{n:Nat}{env env' IG E:List (Nat×Value)}{G G' Gr GK:List Own}{Q Q' QK:List D7}{a:Act}{w:World}
theorem St.Hf{is js ks:List Nat}(h:St c n env G Q a w)(hs:Sx.sub env E)(hk:kept env ks=some IG)(hsel:sel G is=some (G',Gr))(hq:Eu Q js=some Q'):St c n (E++IG) G' Q' a w :=
 h.cut (kE hs (aW hk)) hsel hq
theorem BF{R:Exit->Gz}{id m:Nat}{l:List Oper}{is js:List Nat}{GI:List Own}{QI:List D7}(hm:P.follows .mixedOrders=true)(hsz:l.length=m)(hsel:sel G is=some (GI,Gr))(hq:Eu Q js=some QI)(h:GA P l.toArray (R .normal) (Mem c GI QI) m (Array.replicate m false) (St c n env G Q)):GC P R (.region id l.toArray true) (St c n env G Q) :=
 CS hm hsz hsel hq h λ_ _ h=>h
theorem GA.retL{ops:Array Oper}{M:Gz}{I:World->Prop}{fuel:Nat}{listed:Array Bool}{F:Value->List Own->List D7->Prop}{Z:Value->List Own->Gz}(k:∀v G2,F v G2 []->GA P ops M I fuel listed (Z v G2)):GA P ops M I fuel listed (λa w=>∃v G2,F v G2 []/\Z v G2 a w):=λa w ⟨v,G2,hF,hZ⟩=>k v G2 hF a w hZ
theorem BM{α:Type}{kd:Kd α}{R:Exit->Gz}{cd:Code}{y:Operand}{j:Nat}{k:IntKind}{m:Int}{A:Option Addr}{xs:List α}{z:α}(hy:ev env y=some (.int k m))(hj:FB Q j=some (D7.row kd A xs))(h0:0<=m)(hz:xs[m.toNat]?=some z)
  (kk:∀p r,A=some p->kd.ok z r->GC P R cd (St c n env G (D7.at (p.add (m.toNat * kd.sz)) (kd.cells z r)::(kd.pers z r++Q)))):GC P R cd (St c n env G Q) :=
 Di (x:=.const (.slice A xs.length 0)) (y:=y) rfl hy hj h0 hz kk
end
end Go.Sx
namespace Go.Sx
open Go
section
variable {P:Program}{c:Cx}{n:Nat}{env env' IG E:List (Nat×Value)}{G G' Gr GK:List Own}{Q Q' QK:List D7}{a:Act}{w:World}
section
variable {ops:Array Oper}{M A B:Gz}{I:World->Prop}{fuel:Nat}{listed:Array Bool}
theorem GA.st(h:∀a w,St c n env G Q a w->St c n env' G' Q' a w)(k:GA P ops M I fuel listed (St c n env' G' Q')):GA P ops M I fuel listed (St c n env G Q):=GA.imp h k
theorem GA.snoc{α:Type}{kd:Kd α}{xs:List α}{cs:List Value}{j:Nat}{js:List Nat}(z:α)(r:kd.Y)(hj:FB Q j=some (A_ kd xs cs))(hq:Eu Q js=some (kd.pers z r))(hok:kd.ok z r)
  (k:GA P ops M I fuel listed (St c n env G (A_ kd (xs++[z]) (cs++kd.cells z r)::Q))):GA P ops M I fuel listed (St c n env G Q):=GA.imp (λa w h=>h.snoc hj hq hok) k
theorem GA.IQ{α:Type}{kd:Kd α}{i j e m cp:Nat}{A:Option Addr}{xs:List α}{cs:List Value}(ht:I7 G i=some (.row (.slice A m cp) e kd.sz m cs,G'))(hj:FB Q j=some (A_ kd xs cs))(hp:0<kd.sz)
  (k:GA P ops M I fuel listed (St c n env G' (D7.row kd A xs::Q))):GA P ops M I fuel listed (St c n env G Q):=GA.imp (λa w h=>h.IQ ht hj hp) k
end
end
end Go.Sx
namespace Go.Sx
open Go
section
variable {P:Program}{c:Cx}{n:Nat}{env env' IG E:List (Nat×Value)}{G G' Gr GK:List Own}{Q Q' QK:List D7}{a:Act}{w:World}
theorem GC.post{x:Code}{R R':Exit->Gz}{A:Gz}(h:GC P R x A)(hr:∀e a w,R e a w->R' e a w):GC P R' x A:=λa w ha=>Code.wp_mono (λe a w he=>hr e a w he) (h a w ha)
theorem CG{M M':Gz}{R:Exit->Gz}(h:∀a w,M a w->M' a w):∀e a w,Exit.then M R e a w->Exit.then M' R e a w:=by
 intro e a w he
 cases e<;>first|exact h a w he|exact he
end
end Go.Sx
namespace Go.Sx
open Go
section
variable {P:Program}{c:Cx}{n:Nat}{env env' IG E:List (Nat×Value)}{G G' Gr GK:List Own}{Q Q' QK:List D7}{a:Act}{w:World}
section
variable {α β γ δ ε ζ η θ:Type}{x:Code}{R:Exit->Gz}{ks is js:List Nat}
theorem Bd(φ:α->Prop)(F:α->List (Nat×Value))(GF:α->List Own)(QF:α->List D7)(μ:α->Nat)(y:α)(hK:kept env ks=some IG)(hG:Eu G is=some GK)(hQ:Eu Q js=some QK)
  (h0:∀a w,St c n env G Q a w->φ y/\St c n (F y++IG) (GF y++GK) (QF y++QK) a w)
  (h:∀y,φ y->GC P (Exit.then (λa w=>∃z,μ z<μ y/\φ z/\St c n (F z++IG) (GF z++GK) (QF z++QK) a w) R) x (St c n (F y++IG) (GF y++GK) (QF y++QK))):GC P R (.loop x) (St c n env G Q) :=
 GC.imp h0 (GC.loop (λy a w=>φ y/\St c n (F y++IG) (GF y++GK) (QF y++QK) a w) μ y λy=>GC.and λhy=>h y hy)
theorem CV(φ:α->β->Prop)(F:α->β->List (Nat×Value))(GF:α->β->List Own)(QF:α->β->List D7)(μ:α->β->Nat)(y1:α)(y2:β)(hK:kept env ks=some IG)(hG:Eu G is=some GK)(hQ:Eu Q js=some QK)
  (h0:∀a w,St c n env G Q a w->φ y1 y2/\St c n (F y1 y2++IG) (GF y1 y2++GK) (QF y1 y2++QK) a w)
  (h:∀y1 y2,φ y1 y2->GC P (Exit.then (λa w=>∃z1 z2,μ z1 z2<μ y1 y2/\φ z1 z2/\St c n (F z1 z2++IG) (GF z1 z2++GK) (QF z1 z2++QK) a w) R) x (St c n (F y1 y2++IG) (GF y1 y2++GK) (QF y1 y2++QK))):GC P R (.loop x) (St c n env G Q) :=
 Bd (λy:α×β=>φ y.1 y.2) (λy=>F y.1 y.2) (λy=>GF y.1 y.2) (λy=>QF y.1 y.2) (λy=>μ y.1 y.2) (y1,y2) hK hG hQ h0 λy hy=>GC.post (h y.1 y.2 hy) (CG λa w ⟨z1,z2,hz⟩=>⟨(z1,z2),hz⟩)
theorem Bv(φ:α->β->γ->Prop)(F:α->β->γ->List (Nat×Value))(GF:α->β->γ->List Own)(QF:α->β->γ->List D7)(μ:α->β->γ->Nat)(y1:α)(y2:β)(y3:γ)(hK:kept env ks=some IG)(hG:Eu G is=some GK)(hQ:Eu Q js=some QK)
  (h0:∀a w,St c n env G Q a w->φ y1 y2 y3/\St c n (F y1 y2 y3++IG) (GF y1 y2 y3++GK) (QF y1 y2 y3++QK) a w)
  (h:∀y1 y2 y3,φ y1 y2 y3->GC P (Exit.then (λa w=>∃z1 z2 z3,μ z1 z2 z3<μ y1 y2 y3/\φ z1 z2 z3/\St c n (F z1 z2 z3++IG) (GF z1 z2 z3++GK) (QF z1 z2 z3++QK) a w) R) x (St c n (F y1 y2 y3++IG) (GF y1 y2 y3++GK) (QF y1 y2 y3++QK))):GC P R (.loop x) (St c n env G Q) :=
 CV (fun(y:α×β) z=>φ y.1 y.2 z) (λy=>F y.1 y.2) (λy=>GF y.1 y.2) (λy=>QF y.1 y.2) (λy=>μ y.1 y.2) (y1,y2) y3 hK hG hQ h0 λy y3 hy=>GC.post (h y.1 y.2 y3 hy) (CG λa w ⟨z1,z2,z3,hz⟩=>⟨(z1,z2),z3,hz⟩)
theorem Dp(φ:α->β->γ->δ->Prop)(F:α->β->γ->δ->List (Nat×Value))(GF:α->β->γ->δ->List Own)(QF:α->β->γ->δ->List D7)(μ:α->β->γ->δ->Nat)(y1:α)(y2:β)(y3:γ)(y4:δ)(hK:kept env ks=some IG)(hG:Eu G is=some GK)(hQ:Eu Q js=some QK)
  (h0:∀a w,St c n env G Q a w->φ y1 y2 y3 y4/\St c n (F y1 y2 y3 y4++IG) (GF y1 y2 y3 y4++GK) (QF y1 y2 y3 y4++QK) a w)
  (h:∀y1 y2 y3 y4,φ y1 y2 y3 y4->GC P (Exit.then (λa w=>∃z1 z2 z3 z4,μ z1 z2 z3 z4<μ y1 y2 y3 y4/\φ z1 z2 z3 z4/\St c n (F z1 z2 z3 z4++IG) (GF z1 z2 z3 z4++GK) (QF z1 z2 z3 z4++QK) a w) R) x (St c n (F y1 y2 y3 y4++IG) (GF y1 y2 y3 y4++GK) (QF y1 y2 y3 y4++QK))):GC P R (.loop x) (St c n env G Q) :=
 Bv (fun(y:α×β) z=>φ y.1 y.2 z) (λy=>F y.1 y.2) (λy=>GF y.1 y.2) (λy=>QF y.1 y.2) (λy=>μ y.1 y.2) (y1,y2) y3 y4 hK hG hQ h0 λy y3 y4 hy=>GC.post (h y.1 y.2 y3 y4 hy) (CG λa w ⟨z1,z2,z3,z4,hz⟩=>⟨(z1,z2),z3,z4,hz⟩)
theorem DT(φ:α->β->γ->δ->ε->Prop)(F:α->β->γ->δ->ε->List (Nat×Value))(GF:α->β->γ->δ->ε->List Own)(QF:α->β->γ->δ->ε->List D7)(μ:α->β->γ->δ->ε->Nat)(y1:α)(y2:β)(y3:γ)(y4:δ)(y5:ε)(hK:kept env ks=some IG)(hG:Eu G is=some GK)(hQ:Eu Q js=some QK)
  (h0:∀a w,St c n env G Q a w->φ y1 y2 y3 y4 y5/\St c n (F y1 y2 y3 y4 y5++IG) (GF y1 y2 y3 y4 y5++GK) (QF y1 y2 y3 y4 y5++QK) a w)
  (h:∀y1 y2 y3 y4 y5,φ y1 y2 y3 y4 y5->GC P (Exit.then (λa w=>∃z1 z2 z3 z4 z5,μ z1 z2 z3 z4 z5<μ y1 y2 y3 y4 y5/\φ z1 z2 z3 z4 z5/\St c n (F z1 z2 z3 z4 z5++IG) (GF z1 z2 z3 z4 z5++GK) (QF z1 z2 z3 z4 z5++QK) a w) R) x (St c n (F y1 y2 y3 y4 y5++IG) (GF y1 y2 y3 y4 y5++GK) (QF y1 y2 y3 y4 y5++QK))):GC P R (.loop x) (St c n env G Q) :=
 Dp (fun(y:α×β) z=>φ y.1 y.2 z) (λy=>F y.1 y.2) (λy=>GF y.1 y.2) (λy=>QF y.1 y.2) (λy=>μ y.1 y.2) (y1,y2) y3 y4 y5 hK hG hQ h0 λy y3 y4 y5 hy=>GC.post (h y.1 y.2 y3 y4 y5 hy) (CG λa w ⟨z1,z2,z3,z4,z5,hz⟩=>⟨(z1,z2),z3,z4,z5,hz⟩)
theorem Dc(φ:α->β->γ->δ->ε->ζ->Prop)(F:α->β->γ->δ->ε->ζ->List (Nat×Value))(GF:α->β->γ->δ->ε->ζ->List Own)(QF:α->β->γ->δ->ε->ζ->List D7)(μ:α->β->γ->δ->ε->ζ->Nat)(y1:α)(y2:β)(y3:γ)(y4:δ)(y5:ε)(y6:ζ)(hK:kept env ks=some IG)(hG:Eu G is=some GK)(hQ:Eu Q js=some QK)
  (h0:∀a w,St c n env G Q a w->φ y1 y2 y3 y4 y5 y6/\St c n (F y1 y2 y3 y4 y5 y6++IG) (GF y1 y2 y3 y4 y5 y6++GK) (QF y1 y2 y3 y4 y5 y6++QK) a w)
  (h:∀y1 y2 y3 y4 y5 y6,φ y1 y2 y3 y4 y5 y6->GC P (Exit.then (λa w=>∃z1 z2 z3 z4 z5 z6,μ z1 z2 z3 z4 z5 z6<μ y1 y2 y3 y4 y5 y6/\φ z1 z2 z3 z4 z5 z6/\St c n (F z1 z2 z3 z4 z5 z6++IG) (GF z1 z2 z3 z4 z5 z6++GK) (QF z1 z2 z3 z4 z5 z6++QK) a w) R) x (St c n (F y1 y2 y3 y4 y5 y6++IG) (GF y1 y2 y3 y4 y5 y6++GK) (QF y1 y2 y3 y4 y5 y6++QK))):GC P R (.loop x) (St c n env G Q) :=
 DT (fun(y:α×β)=>φ y.1 y.2) (λy=>F y.1 y.2) (λy=>GF y.1 y.2) (λy=>QF y.1 y.2) (λy=>μ y.1 y.2) (y1,y2) y3 y4 y5 y6 hK hG hQ h0 λy y3 y4 y5 y6 hy=>GC.post (h y.1 y.2 y3 y4 y5 y6 hy) (CG λa w ⟨z1,z2,z3,z4,z5,z6,hz⟩=>⟨(z1,z2),z3,z4,z5,z6,hz⟩)
theorem Dn(φ:α->β->γ->δ->ε->ζ->η->Prop)(F:α->β->γ->δ->ε->ζ->η->List (Nat×Value))(GF:α->β->γ->δ->ε->ζ->η->List Own)(QF:α->β->γ->δ->ε->ζ->η->List D7)(μ:α->β->γ->δ->ε->ζ->η->Nat)(y1:α)(y2:β)(y3:γ)(y4:δ)(y5:ε)(y6:ζ)(y7:η)(hK:kept env ks=some IG)(hG:Eu G is=some GK)(hQ:Eu Q js=some QK)
  (h0:∀a w,St c n env G Q a w->φ y1 y2 y3 y4 y5 y6 y7/\St c n (F y1 y2 y3 y4 y5 y6 y7++IG) (GF y1 y2 y3 y4 y5 y6 y7++GK) (QF y1 y2 y3 y4 y5 y6 y7++QK) a w)
  (h:∀y1 y2 y3 y4 y5 y6 y7,φ y1 y2 y3 y4 y5 y6 y7->GC P (Exit.then (λa w=>∃z1 z2 z3 z4 z5 z6 z7,μ z1 z2 z3 z4 z5 z6 z7<μ y1 y2 y3 y4 y5 y6 y7/\φ z1 z2 z3 z4 z5 z6 z7/\St c n (F z1 z2 z3 z4 z5 z6 z7++IG) (GF z1 z2 z3 z4 z5 z6 z7++GK) (QF z1 z2 z3 z4 z5 z6 z7++QK) a w) R) x (St c n (F y1 y2 y3 y4 y5 y6 y7++IG) (GF y1 y2 y3 y4 y5 y6 y7++GK) (QF y1 y2 y3 y4 y5 y6 y7++QK))):GC P R (.loop x) (St c n env G Q) :=
 Dc (fun(y:α×β)=>φ y.1 y.2) (λy=>F y.1 y.2) (λy=>GF y.1 y.2) (λy=>QF y.1 y.2) (λy=>μ y.1 y.2) (y1,y2) y3 y4 y5 y6 y7 hK hG hQ h0 λy y3 y4 y5 y6 y7 hy=>GC.post (h y.1 y.2 y3 y4 y5 y6 y7 hy) (CG λa w ⟨z1,z2,z3,z4,z5,z6,z7,hz⟩=>⟨(z1,z2),z3,z4,z5,z6,z7,hz⟩)
theorem GC.loopK8(φ:α->β->γ->δ->ε->ζ->η->θ->Prop)(F:α->β->γ->δ->ε->ζ->η->θ->List (Nat×Value))(GF:α->β->γ->δ->ε->ζ->η->θ->List Own)(QF:α->β->γ->δ->ε->ζ->η->θ->List D7)(μ:α->β->γ->δ->ε->ζ->η->θ->Nat)(y1:α)(y2:β)(y3:γ)(y4:δ)(y5:ε)(y6:ζ)(y7:η)(y8:θ)(hK:kept env ks=some IG)(hG:Eu G is=some GK)(hQ:Eu Q js=some QK)
  (h0:∀a w,St c n env G Q a w->φ y1 y2 y3 y4 y5 y6 y7 y8/\St c n (F y1 y2 y3 y4 y5 y6 y7 y8++IG) (GF y1 y2 y3 y4 y5 y6 y7 y8++GK) (QF y1 y2 y3 y4 y5 y6 y7 y8++QK) a w)
  (h:∀y1 y2 y3 y4 y5 y6 y7 y8,φ y1 y2 y3 y4 y5 y6 y7 y8->GC P (Exit.then (λa w=>∃z1 z2 z3 z4 z5 z6 z7 z8,μ z1 z2 z3 z4 z5 z6 z7 z8<μ y1 y2 y3 y4 y5 y6 y7 y8/\φ z1 z2 z3 z4 z5 z6 z7 z8/\St c n (F z1 z2 z3 z4 z5 z6 z7 z8++IG) (GF z1 z2 z3 z4 z5 z6 z7 z8++GK) (QF z1 z2 z3 z4 z5 z6 z7 z8++QK) a w) R) x (St c n (F y1 y2 y3 y4 y5 y6 y7 y8++IG) (GF y1 y2 y3 y4 y5 y6 y7 y8++GK) (QF y1 y2 y3 y4 y5 y6 y7 y8++QK))):GC P R (.loop x) (St c n env G Q) :=
 Dn (fun(y:α×β)=>φ y.1 y.2) (λy=>F y.1 y.2) (λy=>GF y.1 y.2) (λy=>QF y.1 y.2) (λy=>μ y.1 y.2) (y1,y2) y3 y4 y5 y6 y7 y8 hK hG hQ h0 λy y3 y4 y5 y6 y7 y8 hy=>GC.post (h y.1 y.2 y3 y4 y5 y6 y7 y8 hy) (CG λa w ⟨z1,z2,z3,z4,z5,z6,z7,z8,hz⟩=>⟨(z1,z2),z3,z4,z5,z6,z7,z8,hz⟩)
end
end
end Go.Sx
namespace Go.Sx
open Go
def rem{α:Type}(T:List (Int×α))(es:List MapEntry)(seen:Array Nat):List (Int×α):=((T.zip es).filter λp=>!seen.contains p.2.born).map (·.1)
def dK(E:Value->Prop)(L:List Nat)(w w':World)(e:Ending):Prop:=∃v,e=.panicked [{ v:=v,recovered:=false }]/\E v/\Fr L w w'
def PK(P:Program)(f:FuncId)(args:List Value)(G:List Own)(Q:List D7)(R:Value->List Own->List D7->Prop)(E:Value->Prop):Prop :=
 ∀w S,Heap S G Q w->Calls P f args.toArray w λe w'=>(∃v G' Q' S',e=.returned v/\R v G' Q'/\Heap S' G' Q' w'/\Fr (keysOf G) w w' /\
  (∀k,k<w.heap.size->k ∉ keysOf G->(S' k↔S k))/\(∀k∈keysOf G',k∈keysOf G\/w.heap.size<=k))\/dK E (keysOf G) w w' e
theorem PK.mono{P:Program}{f:FuncId}{args:List Value}{G:List Own}{Q:List D7}{R R':Value->List Own->List D7->Prop}{E E':Value->Prop}(h:PK P f args G Q R E)(hr:∀v G' Q',R v G' Q'->R' v G' Q')(he:∀v,E v->E' v):PK P f args G Q R' E' :=
 λw S hh=>(h w S hh).mono λe w' h=>h.imp (fun⟨v,G',Q',S',h1,h2,h3⟩=>⟨v,G',Q',S',h1,hr _ _ _ h2,h3⟩) (fun⟨v,h1,h2,h3⟩=>⟨v,h1,he _ h2,h3⟩)
end Go.Sx
namespace Go.Sx
open Go
section
variable {P:Program}{c:Cx}{n:Nat}{env env':List (Nat×Value)}{G G' Gr:List Own}{Q Q':List D7}{d:Nat}{ty:TypeId}{pos:String}{Ew:Array Edge}{g:Option (Nat×Bool)}{x y:Operand}{t:TypeId}{a a':Act}{w w':World}
def Iu(P:Program)(fn:Func)(c:Cx)(R:Value->List Own->List D7->Prop)(E:Value->Prop):Exit->Gz:=λe a w=>c.D=[]->bodyPost P fn (λe w'=>Qn c R e w'\/dK E c.L0 c.w0 w' e) e a w
theorem PK.intro{f:FuncId}{fn:Func}{code:Code}{args:List Value}{R:Value->List Own->List D7->Prop}{E:Value->Prop}(hf:P.funcs[f]?=some fn)(hb:fn.body=some code)(hn:fn.ntmps=n)(hl:Nat.ble args.length n=true)
  (h:∀c:Cx,c.L0=keysOf G->GC P (Iu P fn c R E) code (St c n (enum 0 args) G Q)):PK P f args G Q R E:=by
 intro w S hh
 refine calls_of_wp hf hb ?_
 have hl:=Nat.le_of_ble_eq_true hl
 let c:Cx:=⟨w,S,keysOf G,[]⟩
 refine Code.wp_mono ?_ (h c rfl _ w ⟨S,?_,hh,?_⟩)
 ·intro e a w' he
  exact he rfl
 ·refine⟨⟨by simp[hn];omega,λi v hi=>?_⟩,rfl⟩
  obtain⟨k,rfl,hk⟩:=MR args 0 i v hi
  rw[Nat.zero_add]
  have hlt:k<args.length:=(List.getElem?_eq_some_iff.1 hk).1
  simp only[List.size_toArray]
  rw[Array.getElem?_append_left (by simpa using hlt)]
  simpa using hk
 ·exact⟨Fr.refl _ _,λ_ _ _=>Iff.rfl,λk hk=>.inl hk⟩
theorem Iu.of{fn:Func}{R:Value->List Own->List D7->Prop}{E:Value->Prop}(h:Fin P fn c R .ret a w):Iu P fn c R E .ret a w:=λhD =>
 let ⟨h1,v,h2,h3⟩:=h hD
 ⟨h1,v,h2,.inl h3⟩
theorem D5{fn:Func}{rs:List ResultVar}{vs:List Value}{is js:List Nat}{R:Value->List Own->List D7->Prop}{E:Value->Prop}(hr:fn.results=rs.toArray)(hv:resV P env G rs vs)(hsel:sel G is=some (G',Gr))(hq:Eu Q js=some Q')(hR:R (RQ vs) G' Q')(h:St c n env G Q a w):Iu P fn c R E .ret a w :=
 Iu.of (Bf hr hv hsel hq hR h)
theorem DV{fn:Func}{is js:List Nat}{R:Value->List Own->List D7->Prop}{E:Value->Prop}(hr:fn.results=#[])(hsel:sel G is=some (G',Gr))(hq:Eu Q js=some Q')(hR:R (.tuple #[]) G' Q')(h:St c n env G Q a w):Iu P fn c R E .normal a w :=
 Iu.of (Bf (rs:=[]) (vs:=[]) (by rw[hr]) trivial hsel hq hR h)
theorem Iu.panic{fn:Func}{R:Value->List Own->List D7->Prop}{E:Value->Prop}{v:Value}(he:E v)(h:St c n env G Q a w):Iu P fn c R E (.panic [{ v:=v,recovered:=false }]) a w:=λhD=>by
 obtain⟨S,hen,hh,hrel⟩:=h
 exact⟨hen.defers.trans hD,.inr ⟨v,rfl,he,hrel.fr⟩⟩
theorem St.lost{S:Blocks}{G1:List Own}(he:Nc c.D n env a)(hh:Heap S (G1++Gr) Q w)(hrel:Rel c S (G1++Gr) w)(hf:Fr (keysOf G1) w w'):St c n env Gr Q a w':=by
 have h2:Heap S [] [] w':=⟨λo ho=>(by cases ho),List.nodup_nil,λk hk=>(by cases hk),λq hq=>(by cases hq)⟩
 exact CU (Gr:=Gr) (G2:=[]) (Q2:=[]) hh hrel h2 hf (λ_ _ _=>Iff.rfl) (λk hk=>by cases hk) he
theorem Bc{ops:Array Oper}{X:Exit->Gz}{rest:List Oper}{f:FuncId}{xs:List Operand}{vs:List Value}{ts:Array TypeId}{is js:List Nat}{G1:List Own}{Q1:List D7}{R:Value->List Own->List D7->Prop}{E:Value->Prop}(hd:Nat.blt d n=true)(hf:oG P f)(hx:evs env xs=some vs)
  (hsel:sel G is=some (G1,Gr)) (hq:Eu Q js=some Q1) (h:PK P f vs G1 Q1 R E) (hp:∀v a w,E v->St c n env Gr Q a w->X (.panic [{ v:=v,recovered:=false }]) a w)
  (k:GL P ops X rest (λa w=>∃v G2 Q2,R v G2 Q2/\St c n ((d,v)::env) (G2++Gr) (Q2++Q) a w)) :
  GL P ops X (⟨some d,.call { callee:=.value (.func f),args:=xs.toArray,argTypes:=ts },ty,pos,Ew,none⟩::rest) (St c n env G Q):=by
 rintro a w ⟨S,he,hh,hrel⟩
 refine wpList_plain rfl λK hK=>?_
 have hp':=Ho hsel
 have hh1:=hh.perm hp'
 have Ik:=hrel.perm hp'
 have hin:Heap S G1 Q1 w:=hh1.sub (List.sublist_append_left _ _) (Gv hq)
 unfold Oper.wp
 rw[OQ hf hx a w he.toEnv]
 rw[Oper.upon_enter]
 refine(h w S hin).mono ?_
 rintro e w' (⟨v,G2,Q2,S',rfl,hR,h',hfr,hS,hkk⟩|⟨v,rfl,hE,hfr⟩)
 ·exact hK _ _ (k _ _ ⟨v,G2,Q2,hR,CU hh1 Ik h' hfr hS hkk (he.put hd v)⟩)
 ·exact hp v a w' hE (St.lost he hh1 Ik hfr)
theorem J_{v:Value}{ut:TypeDesc}(hu:P.underlying t=some ut)(hn:∀m,ut≠.interface m)(hx:ev env x=some v):Pv P n env ⟨some d,.makeInterface t x,ty,pos,Ew,g⟩ (.iface t v):=λa w he=>by
 simp only[execOp,he.eval hx,Instr.makeInterface,Sem.run_bind,run_underlying hu,Result.andThen_ok]
 cases ut<;>first|rfl|exact absurd rfl (hn _)
theorem GL.panic{ops:Array Oper}{X:Exit->Gz}{rest:List Oper}{k:TypeId}{u:Value}(hx:ev env x=some (.iface k u))(hp:∀a w,St c n env G Q a w->X (.panic [{ v:=.iface k u,recovered:=false }]) a w) :
  GL P ops X (⟨some d,.panic x,ty,pos,Ew,none⟩::rest) (St c n env G Q):=by
 intro a w h
 refine wpList_plain rfl λK hK=>?_
 unfold Oper.wp
 have:(execOp a.eval ⟨some d,.panic x,ty,pos,Ew,none⟩).run P w=.halt (.panic (.iface k u)) w:=by
  simp only[execOp,h.en.eval hx];rfl
 rw[this]
 exact hp a w h
end
end Go.Sx
namespace Go.Sx
open Go
section
variable {P:Program}{c:Cx}{n:Nat}{env env':List (Nat×Value)}{G G' Gr:List Own}{Q Q':List D7}{d:Nat}{ty:TypeId}{pos:String}{Ew:Array Edge}{x y:Operand}{a a':Act}{w w':World}
abbrev Cx.def_(c:Cx)(f:FuncId)(us:List Value):Cx:=⟨c.w0,c.S0,c.L0,[⟨.fn (.func f) us.toArray,#[]⟩]⟩
def UD(P:Program)(fn:Func)(c:Cx)(R:Value->List Own->List D7->Prop):Exit->Gz:=bodyPostD P fn (Qn c R)
theorem Ct.WA{f:FuncId}{fn:Func}{code:Code}{args:List Value}{R:Value->List Own->List D7->Prop}(hf:P.funcs[f]?=some fn)(hb:fn.body=some code)(hn:fn.ntmps=n)(hl:Nat.ble args.length n=true)
  (h:∀c:Cx,c.L0=keysOf G->c.D=[]->GC P (UD P fn c R) code (St c n (enum 0 args) G Q)):Ct P f args G Q R:=by
 intro w S hh
 refine calls_of_wp_defers hf hb ?_
 have hl:=Nat.le_of_ble_eq_true hl
 let c:Cx:=⟨w,S,keysOf G,[]⟩
 refine Code.wp_mono ?_ (h c rfl rfl _ w ⟨S,?_,hh,?_⟩)
 ·intro e a w' he
  exact he
 ·refine⟨⟨by simp[hn];omega,λi v hi=>?_⟩,rfl⟩
  obtain⟨k,rfl,hk⟩:=MR args 0 i v hi
  rw[Nat.zero_add]
  have hlt:k<args.length:=(List.getElem?_eq_some_iff.1 hk).1
  simp only[List.size_toArray]
  rw[Array.getElem?_append_left (by simpa using hlt)]
  simpa using hk
 ·exact⟨Fr.refl _ _,λ_ _ _=>Iff.rfl,λk hk=>.inl hk⟩
theorem UD.of{fn:Func}{R:Value->List Own->List D7->Prop}(hD:c.D=[])(h:Fin P fn c R .ret a w):UD P fn c R .ret a w:=by
 obtain⟨h1,h2⟩:=h hD
 show Leaves P fn a.tmps (Qn c R) a.defers .returning w
 rw[h1]
 exact h2
theorem DU(hD:c.D=[]){fn:Func}{rs:List ResultVar}{vs:List Value}{is js:List Nat}{R:Value->List Own->List D7->Prop}(hr:fn.results=rs.toArray)(hv:resV P env G rs vs)(hsel:sel G is=some (G',Gr))(hq:Eu Q js=some Q')(hR:R (RQ vs) G' Q')(h:St c n env G Q a w):UD P fn c R .ret a w :=
 UD.of hD (Bf hr hv hsel hq hR h)
theorem GL.defer{ops:Array Oper}{X:Exit->Gz}{rest:List Oper}{f:FuncId}{us:List Value}{ts:Array TypeId}(hD:c.D=[])(hx:ev env x=some (.func (.func f) #[] us.toArray))
  (k:GL P ops X rest (St (c.def_ f us) n env G Q)):GL P ops X (⟨none,.defer { callee:=.value x,args:=#[],argTypes:=ts },ty,pos,Ew,none⟩::rest) (St c n env G Q):=by
 intro a w h
 refine wpList_plain rfl λK hK=>?_
 unfold Oper.wp
 obtain⟨S,he,hh,hrel⟩:=h
 have hrun:(execOp a.eval ⟨none,.defer { callee:=.value x,args:=#[],argTypes:=ts },ty,pos,Ew,none⟩).run P w=.ok (.defer ⟨.fn (.func f) us.toArray,#[]⟩) w:=by
  simp[execOp,resolve,he.eval hx,Deferred.ofValue]
 rw[hrun,Oper.upon_defer]
 refine hK _ _ (k _ w ⟨S,⟨⟨he.size,he.has⟩,?_⟩,hh,⟨hrel.fr,hrel.old,hrel.key⟩⟩)
 show _::a.defers=_
 rw[he.defers,hD]
theorem CZ{f:FuncId}{us:List Value}(hf:oG P f)(hi:∀w,CallsD P f us.toArray .returning w λe u' w'=>e=.returned (.tuple #[])/\u'=.returning/\w'=w){fn:Func}{rs:List ResultVar}{vs:List Value}{is js:List Nat}{R:Value->List Own->List D7->Prop}(hr:fn.results=rs.toArray)(hv:resV P env G rs vs)(hsel:sel G is=some (G',Gr))(hq:Eu Q js=some Q')(hR:R (RQ vs) G' Q')(h:St (c.def_ f us) n env G Q a w):UD P fn c R .ret a w:=by
 obtain⟨S,he,hh,hrel⟩:=h
 have h0:St ⟨c.w0,c.S0,c.L0,[]⟩ n env G Q { a with defers:=[] } w:=⟨S,⟨⟨he.size,he.has⟩,rfl⟩,hh,⟨hrel.fr,hrel.old,hrel.key⟩⟩
 obtain⟨_,v,hrun,hret⟩:=Bf hr hv hsel hq hR h0 rfl
 show Leaves P fn a.tmps (Qn c R) a.defers .returning w
 have hd:a.defers=[⟨.fn (.func f) us.toArray,#[]⟩]:=he.defers
 rw[hd]
 refine⟨by simp,.func f,us.toArray,f,us.toArray,rfl,?_,?_⟩
 ·have:=hf us.toArray w
  simp only[invoke,Array.empty_append,this]
 ·refine(hi w).mono ?_
  rintro e u' w' ⟨rfl,rfl,rfl⟩
  exact⟨v,hrun,hret⟩
end
end Go.Sx
namespace Go.Sx
open Go
section
variable {P:Program}{c:Cx}{n:Nat}{env:List (Nat×Value)}{G G':List Own}{Q:List D7}{R:Exit->Gz}{cd:Code}{ops:Array Oper}{rest:List Oper}{a:Act}{w:World}
theorem St.rowIs{i m m' e sz:Nat}{v:Value}{cs cs':List Value}(h:St c n env G Q a w)(hi:FB G i=some (.row v e sz m cs))(hm:m=m')(hc:cs=cs')(hr:Io G i (.row v e sz m' cs')=some G'):St c n env G' Q a w :=
 h.Qw hi hr rfl (λw h=>by subst hm hc;exact h)
theorem GL.rowIs{i m m' e sz:Nat}{v:Value}{cs cs':List Value}(hi:FB G i=some (.row v e sz m cs))(hm:m=m')(hc:cs=cs')(hr:Io G i (.row v e sz m' cs')=some G')(k:GL P ops R rest (St c n env G' Q)):GL P ops R rest (St c n env G Q):=GL.imp (λa w h=>h.rowIs hi hm hc hr) k
theorem GC.rowIs{i m m' e sz:Nat}{v:Value}{cs cs':List Value}(hi:FB G i=some (.row v e sz m cs))(hm:m=m')(hc:cs=cs')(hr:Io G i (.row v e sz m' cs')=some G')(k:GC P R cd (St c n env G' Q)):GC P R cd (St c n env G Q):=GC.imp (λa w h=>h.rowIs hi hm hc hr) k
theorem GA.rowIs{M:Gz}{I:World->Prop}{fuel:Nat}{listed:Array Bool}{i m m' e sz:Nat}{v:Value}{cs cs':List Value}(hi:FB G i=some (.row v e sz m cs))(hm:m=m')(hc:cs=cs')(hr:Io G i (.row v e sz m' cs')=some G')(k:GA P ops M I fuel listed (St c n env G' Q)):GA P ops M I fuel listed (St c n env G Q):=GA.st (λa w h=>h.rowIs hi hm hc hr) k
end
end Go.Sx
namespace Go.Sx
open Go
section
variable {P:Program}{c:Cx}{n:Nat}{env:List (Nat×Value)}{G G':List Own}{Q:List D7}{d:Nat}{ty:TypeId}{pos:String}{Ew:Array Edge}{g:Option (Nat×Bool)}{x y:Operand}{t u:TypeId}
theorem xor8(a b:UInt8):IntKind.u8.wrap ((BitVec.ofInt IntKind.u8.bits (a.toNat:Int) ^^^ BitVec.ofInt IntKind.u8.bits (b.toNat:Int)).toNat:Int)=((a ^^^ b).toNat:Int):=by
 have e:∀x:UInt8,BitVec.ofInt 8 (x.toNat:Int)=x.toBitVec:=λx=>by
  apply BitVec.eq_of_toNat_eq
  have:=x.toNat_lt
  rw[BitVec.toNat_ofInt]
  show _=x.toNat
  omega
 show IntKind.u8.wrap ((BitVec.ofInt 8 (a.toNat:Int) ^^^ BitVec.ofInt 8 (b.toNat:Int)).toNat:Int)=_
 rw[e,e,<-UInt8.toBitVec_xor]
 have:=(a ^^^ b).toNat_lt
 show IntKind.u8.wrap ((a ^^^ b).toNat:Int)=_
 generalize (a ^^^ b).toNat=q at this ⊢
 simp only[IntKind.wrap,IntKind.bits,IntKind.signed]
 simp
 omega
theorem p_xor8{a b:UInt8}(hx:ev env x=some (.int .u8 (a.toNat:Int)))(hy:ev env y=some (.int .u8 (b.toNat:Int))):Pv P n env ⟨some d,.binOp .xor t x y u,ty,pos,Ew,g⟩ (.int .u8 ((a ^^^ b).toNat:Int)):=by
 have:=p_xor (P:=P) (n:=n) (d:=d) (ty:=ty) (pos:=pos) (Ew:=Ew) (g:=g) (t:=t) (u:=u) hx hy
 rw[xor8] at this
 exact this
end
end Go.Sx
namespace Go.Sx
open Go
theorem Jw{w:World}{A:Option Addr}{n cp e sz:Nat}{cs:List Value}(h:(Own.row (.slice A n cp) e sz n cs).holds w)(hn:n≠0):∃b sp,A=some ⟨b,0,none⟩/\(cs++sp).length=cp * sz/\n<=cp/\cp<=9223372036854775807/\(Own.cells b (cs++sp) e).holds w:=by
 obtain⟨hl,h⟩:=h
 rcases h with⟨_,h0⟩|⟨b,cap,cur,hv,_,hb,h1,h2,h3,h4⟩
 ·exact absurd h0 hn
 ·cases hv
  refine⟨b,cur.toList.drop (n * sz),rfl,?_,h1,by simpa[maxLen] using h2,?_⟩
  ·rw[<-h4,List.take_append_drop];simpa using h3
  ·show w.heap[b]?=_
   rw[hb,<-h4,List.take_append_drop]
end Go.Sx
namespace Go.Sx
open Go
section
variable {P:Program}{c:Cx}{n:Nat}{env:List (Nat×Value)}{G G':List Own}{Q:List D7}{R:Exit->Gz}{cd:Code}{ops:Array Oper}{rest:List Oper}{a:Act}{w:World}
theorem St.kM{i:Nat}{o o':Own}(h:St c n env G Q a w)(hi:FB G i=some o)(hr:Io G i o'=some G')(hk:o'.keys=o.keys)(ho:o.holds w->o'.holds w):St c n env G' Q a w:=by
 obtain⟨S,he,hh,hrel⟩:=h
 have hn:o'.keys.Nodup:=by
  rw[hk]
  obtain⟨x,y,rfl,_⟩:=M_ hi hr
  have:=hh.Oj
  simp only[keysOf,List.flatMap_append,List.flatMap_cons,List.nodup_append] at this
  exact this.2.1.1
 exact St.write ⟨S,he,hh,hrel⟩ hi hr (Fr.refl _ _) (ho (hh.own o (FI hi))) (λk hkk=>.inl (hk▸hkk)) hn he
theorem GL.Ql{i m cp e sz:Nat}{A:Option Addr}{cs:List Value}{F:Nat->List Value->List Own}(hi:FB G i=some (.row (.slice A m cp) e sz m cs))(hm:m≠0)(hr:∀b sp,Io G i (.cells b (cs++sp) e)=some (F b sp))
  (k:∀b sp,A=some ⟨b,0,none⟩->(cs++sp).length=cp * sz->m<=cp->cp<=9223372036854775807->GL P ops R rest (St c n env (F b sp) Q)):GL P ops R rest (St c n env G Q):=λa w h=>by
 obtain⟨b,sp,hA,g1,g2,g3,g4⟩:=Jw (h.own hi) hm
 exact k b sp hA g1 g2 g3 a w (h.kM hi (hr b sp) (by rw[hA];rfl) (λ_=>g4))
theorem GC.Ql{i m cp e sz:Nat}{A:Option Addr}{cs:List Value}{F:Nat->List Value->List Own}(hi:FB G i=some (.row (.slice A m cp) e sz m cs))(hm:m≠0)(hr:∀b sp,Io G i (.cells b (cs++sp) e)=some (F b sp))
  (k:∀b sp,A=some ⟨b,0,none⟩->(cs++sp).length=cp * sz->m<=cp->cp<=9223372036854775807->GC P R cd (St c n env (F b sp) Q)):GC P R cd (St c n env G Q):=λa w h=>by
 obtain⟨b,sp,hA,g1,g2,g3,g4⟩:=Jw (h.own hi) hm
 exact k b sp hA g1 g2 g3 a w (h.kM hi (hr b sp) (by rw[hA];rfl) (λ_=>g4))
theorem St.LQ{i e m cp:Nat}{A:Option Addr}{xs:List Int}(h:St c n env G Q a w)(ht:I7 G i=some (.row (.slice A m cp) e 1 m (xs.map (Value.int .i64)),G')):St c n env G' (D7.row (Kd.int .i64) A xs::Q) a w :=
 h.freeze (QN:=[D7.row (Kd.int .i64) A xs]) ht λw S ho hS hq q hq'=>by
  rw[List.mem_singleton.1 hq']
  exact PZ (kd:=Kd.int .i64) ho hS (LV xs) (by decide)
theorem GL.LQ{i e m cp:Nat}{A:Option Addr}{xs:List Int}(ht:I7 G i=some (.row (.slice A m cp) e 1 m (xs.map (Value.int .i64)),G'))(k:GL P ops R rest (St c n env G' (D7.row (Kd.int .i64) A xs::Q))):GL P ops R rest (St c n env G Q):=GL.imp (λa w h=>h.LQ ht) k
theorem GC.LQ{i e m cp:Nat}{A:Option Addr}{xs:List Int}(ht:I7 G i=some (.row (.slice A m cp) e 1 m (xs.map (Value.int .i64)),G'))(k:GC P R cd (St c n env G' (D7.row (Kd.int .i64) A xs::Q))):GC P R cd (St c n env G Q):=GC.imp (λa w h=>h.LQ ht) k
end
end Go.Sx
namespace Go.Sx
open Go
section
variable {P:Program}{c:Cx}{n:Nat}{env env':List (Nat×Value)}{G G' Gr:List Own}{Q Q':List D7}{d:Nat}{ty:TypeId}{pos:String}{Ew:Array Edge}{g:Option (Nat×Bool)}{x y:Operand}{t:TypeId}{a a':Act}{w w':World}
def aB(c:Cx)(E:Value->Prop)(M:Gz):Exit->Gz
 |.normal=>M
 |.panic ch=>λa w=>a.defers=c.D/\dK E c.L0 c.w0 w (.panicked ch)
 |_=>λ_ _=>False
def GX(P:Program)(ops:Array Oper)(c:Cx)(E:Value->Prop)(M:Gz)(I:World->Prop)(fuel:Nat)(listed:Array Bool)(A:Gz):Prop:=∀a w,A a w->wpAnyH P .any ops (aB c E M) I fuel listed a w
theorem Df{R:Exit->Gz}{E:Value->Prop}{id m:Nat}{l:List Oper}{is js:List Nat}{GI:List Own}{QI:List D7}(hm:P.follows .mixedOrders=true)(hsz:l.length=m)(hsel:sel G is=some (GI,Gr))(hq:Eu Q js=some QI)
  (hR:∀ch a w,a.defers=c.D->dK E c.L0 c.w0 w (.panicked ch)->R (.panic ch) a w) (h:GX P l.toArray c E (R .normal) (Mem c GI QI) m (Array.replicate m false) (St c n env G Q)):GC P R (.region id l.toArray true) (St c n env G Q):=λa w ha=>by
 refine Code.wp_mono (λe a w he=>?_) (wp_region_held (Q:=aB c E (R .normal)) (S:=Mem c GI QI) hm ?_)
 ·cases e<;>first|exact hR _ _ _ he.1 he.2|exact he|exact he.elim
 ·subst hsz
  have:=h a _ (St.drew ha)
  simpa using this
theorem Cc{R:Exit->Gz}{E:Value->Prop}{M:Gz}{id m:Nat}{l:List Oper}{is js:List Nat}{GI:List Own}{QI:List D7}(hm:P.follows .mixedOrders=true)(hsz:l.length=m)(hsel:sel G is=some (GI,Gr))(hq:Eu Q js=some QI)
  (hR:∀ch a w,a.defers=c.D->dK E c.L0 c.w0 w (.panicked ch)->R (.panic ch) a w) (h:GX P l.toArray c E M (Mem c GI QI) m (Array.replicate m false) (St c n env G Q)) (k:∀a w,M a w->R .normal a w):GC P R (.region id l.toArray true) (St c n env G Q):=λa w ha=>by
 refine Code.wp_mono (λe a w he=>?_) (wp_region_held (Q:=aB c E M) (S:=Mem c GI QI) hm ?_)
 ·cases e<;>first|exact hR _ _ _ he.1 he.2|exact k _ _ he|exact he.elim
 ·subst hsz
  have:=h a _ (St.drew ha)
  simpa using this
end
end Go.Sx
namespace Go.Sx
open Go
section
variable {P:Program}{c:Cx}{n:Nat}{env env':List (Nat×Value)}{G G' Gr:List Own}{Q Q':List D7}{d:Nat}{ty:TypeId}{pos:String}{Ew:Array Edge}{g:Option (Nat×Bool)}{x y:Operand}{t:TypeId}{a a':Act}{w w':World}
variable {ops:Array Oper}{E:Value->Prop}{M A B:Gz}{I:World->Prop}{fuel:Nat}{listed:Array Bool}
theorem B_(hr:Region.ready .any ops listed=[])(h:∀a w,A a w->M a w):GX P ops c E M I fuel listed A:=λa w ha=>wpAnyH_done hr (h a w ha) fuel
theorem Bj{α:Type}{F:α->Gz}(k:∀x,GX P ops c E M I fuel listed (F x)):GX P ops c E M I fuel listed (λa w=>∃x,F x a w):=λa w ⟨x,hx⟩=>k x a w hx
theorem GX.imp(h:∀a w,A a w->B a w)(k:GX P ops c E M I fuel listed B):GX P ops c E M I fuel listed A:=λa w ha=>k a w (h a w ha)
theorem GX.ret{F:Value->List Own->List D7->Prop}{Z:Value->List Own->List D7->Gz}(k:∀v G2 Q2,F v G2 Q2->GX P ops c E M I fuel listed (Z v G2 Q2)):GX P ops c E M I fuel listed (λa w=>∃v G2 Q2,F v G2 Q2/\Z v G2 Q2 a w):=λa w ⟨v,G2,Q2,hF,hZ⟩=>k v G2 Q2 hF a w hZ
theorem GX.split{i:Nat}{b:Bool}(hi:look env i=some (.bool b))(ht:b=true->GX P ops c E M I fuel listed (St c n ((i,.bool true)::env) G Q))(hf:b=false->GX P ops c E M I fuel listed (St c n ((i,.bool false)::env) G Q)):GX P ops c E M I fuel listed (St c n env G Q):=by
 rintro a w ⟨S,he,hh,hrel⟩
 cases b
 ·exact hf rfl a w ⟨S,he.over hi,hh,hrel⟩
 ·exact ht rfl a w ⟨S,he.over hi,hh,hrel⟩
theorem GX.take{op:Op}{v:Value}(i:Nat)(hi:ops[i]?=some ⟨some d,op,ty,pos,Ew,none⟩)(hs:Region.noSelect ops=true)(hf:Region.free .any ops listed i=true)(hr:(Region.ready .any ops listed).contains i=true)(hd:Nat.blt d n=true)(hI:∀a w,St c n env G Q a w->I w)
  (h:Pi P n I env ⟨some d,op,ty,pos,Ew,none⟩ v) (k:GX P ops c E M I fuel (listed.setIfInBounds i true) (St c n ((d,v)::env) G Q)):GX P ops c E M I (fuel+1) listed (St c n env G Q):=λa w ha =>
 wpAnyH_take hi hs hf hr (λ_ _ _ h=>h) (.inl ⟨by simp[Region.wanted],λw' hw'=>h a w' ha.en.toEnv hw'⟩) (hI a w ha) (k _ w (ha.keep (Fr.refl _ _) (ha.en.put hd v)))
def IZ(P:Program)(ops:Array Oper)(c:Cx)(E:Value->Prop)(M:Gz)(I:World->Prop)(fuel:Nat)(listed:Array Bool)(A:Gz)(rs:List Nat):Prop :=
 ∀i∈rs,∀a w,A a w->wpOp P ops (aB c E M) i (λa' w'=>I w'/\wpAnyH P .any ops (aB c E M) I fuel (listed.setIfInBounds i true) a' w') a w
theorem GX.all{rs:List Nat}(hr:Region.ready .any ops listed=rs)(hne:rs≠[])(h:IZ P ops c E M I fuel listed A rs):GX P ops c E M I (fuel+1) listed A:=λa w ha=>wpAnyH_all hr hne λi hi=>h i hi a w ha
theorem Aq:IZ P ops c E M I fuel listed A []:=λi hi=>by cases hi
theorem IZ.cons{o:Oper}{i:Nat}{rs:List Nat}(hi:ops[i]?=some o)(hg:o.guard=none)(h:Tr P o A B)(hI:∀a w,B a w->I w)(k:GX P ops c E M I fuel (listed.setIfInBounds i true) B)(r:IZ P ops c E M I fuel listed A rs):IZ P ops c E M I fuel listed A (i::rs):=by
 intro j hj a w ha
 rcases List.mem_cons.1 hj with rfl|hj
 ·unfold wpOp
  rw[hi]
  simp only[Region.wanted,hg,if_true]
  exact .inl (h a w ha _ _ λa' w' hb=>⟨hI _ _ hb,k a' w' hb⟩)
 ·exact r j hj a w ha
theorem BD{i:Nat}{rs:List Nat}{f:FuncId}{xs:List Operand}{vs:List Value}{ts:Array TypeId}{is js:List Nat}{G1:List Own}{Q1:List D7}{R:Value->List Own->List D7->Prop}(hi:ops[i]?=some ⟨some d,.call { callee:=.value (.func f),args:=xs.toArray,argTypes:=ts },ty,pos,Ew,none⟩)(hd:Nat.blt d n=true)(hf:oG P f)(hx:evs env xs=some vs)
  (hsel:sel G is=some (G1,Gr)) (hq:Eu Q js=some Q1) (h:PK P f vs G1 Q1 R E) (hI:∀a w,(∃v G2 Q2,R v G2 Q2/\St c n ((d,v)::env) (G2++Gr) (Q2++Q) a w)->I w)
  (k:GX P ops c E M I fuel (listed.setIfInBounds i true) (λa w=>∃v G2 Q2,R v G2 Q2/\St c n ((d,v)::env) (G2++Gr) (Q2++Q) a w)) (r:IZ P ops c E M I fuel listed (St c n env G Q) rs):IZ P ops c E M I fuel listed (St c n env G Q) (i::rs):=by
 intro j hj a w ha
 rcases List.mem_cons.1 hj with rfl|hj
 ·unfold wpOp
  rw[hi]
  simp only[Region.wanted,if_true]
  left
  obtain⟨S,he,hh,hrel⟩:=ha
  have hp':=Ho hsel
  have hh1:=hh.perm hp'
  have Ik:=hrel.perm hp'
  have hin:Heap S G1 Q1 w:=hh1.sub (List.sublist_append_left _ _) (Gv hq)
  unfold Oper.wp
  rw[OQ hf hx a w he.toEnv,Oper.upon_enter]
  refine(h w S hin).mono ?_
  rintro e w' (⟨v,G2,Q2,S',rfl,hR,h',hfr,hS,hkk⟩|⟨v,rfl,hE,hfr⟩)
  ·have hs:=CU hh1 Ik h' hfr hS hkk (he.put hd v)
   exact⟨hI _ _ ⟨v,G2,Q2,hR,hs⟩,k _ _ ⟨v,G2,Q2,hR,hs⟩⟩
  ·obtain⟨S2,he2,hh2,hrel2⟩:=St.lost he hh1 Ik hfr
   exact⟨he2.defers,v,rfl,hE,hrel2.fr⟩
 ·exact r j hj a w ha
theorem Cb{X:Exit->Gz}{rest:List Oper}{k:TypeId}{u:Value}(hx:ev env x=some (.iface k u))(hp:∀a w,St c n env G Q a w->X (.panic [{ v:=.iface k u,recovered:=false }]) a w) :
  GL P ops X (⟨none,.panic x,ty,pos,Ew,none⟩::rest) (St c n env G Q):=by
 intro a w h
 refine wpList_plain rfl λK hK=>?_
 unfold Oper.wp
 have:(execOp a.eval ⟨none,.panic x,ty,pos,Ew,none⟩).run P w=.halt (.panic (.iface k u)) w:=by
  simp only[execOp,h.en.eval hx];rfl
 rw[this]
 exact hp a w h
theorem GX.st(h:∀a w,St c n env G Q a w->St c n env' G' Q' a w)(k:GX P ops c E M I fuel listed (St c n env' G' Q')):GX P ops c E M I fuel listed (St c n env G Q):=GX.imp h k
theorem GX.shape{i e sz m:Nat}{v:Value}{cs:List Value}(hi:FB G i=some (.row v e sz m cs))(k:∀A cp,v=.slice A m cp->m<=cp->cp<=9223372036854775807->GX P ops c E M I fuel listed (St c n env G Q)):GX P ops c E M I fuel listed (St c n env G Q):=λa w h=>by
 obtain⟨A,cp,h1,h2,h3⟩:=h.shape hi
 exact k A cp h1 h2 h3 a w h
theorem GX.know{q:D7}(hq:∀w S,(∀p∈Q,p.h w S)->q.h w S)(k:GX P ops c E M I fuel listed (St c n env G (q::Q))):GX P ops c E M I fuel listed (St c n env G Q):=GX.imp (λa w h=>h.know hq) k
theorem GX.VH{i b e m sz:Nat}{l:List Value}(hi:FB G i=some (.cells b l e))(hl:l.length=m * sz)(hm:m<=9223372036854775807)(hr:Io G i (.row (.slice (some ⟨b,0,none⟩) m m) e sz m l)=some G')(k:GX P ops c E M I fuel listed (St c n env G' Q)):GX P ops c E M I fuel listed (St c n env G Q) :=
 GX.imp (λa w h=>h.Qw hi hr rfl (OY hl hm)) k
theorem GX.Hu(e:TypeId)(sz:Nat)(k:GX P ops c E M I fuel listed (St c n env (.row (.slice none 0 0) e sz 0 []::G) Q)):GX P ops c E M I fuel listed (St c n env G Q):=GX.imp (λa w h=>h.Hu e sz) k
theorem GX.EN{i e m cp:Nat}{A:Option Addr}{xs:List UInt8}(ht:I7 G i=some (.row (.slice A m cp) e 1 m (xs.map λb=>Value.int .u8 (b.toNat:Int)),G'))(k:GX P ops c E M I fuel listed (St c n env G' (D7.row Kd.u8 A xs::Q))):GX P ops c E M I fuel listed (St c n env G Q):=GX.imp (λa w h=>h.EN ht) k
theorem GX.and{p:Prop}(k:p->GX P ops c E M I fuel listed A):GX P ops c E M I fuel listed (λa w=>p/\A a w):=λa w ⟨hp,ha⟩=>k hp a w ha
theorem GX.rowIs{i m m' e sz:Nat}{v:Value}{cs cs':List Value}(hi:FB G i=some (.row v e sz m cs))(hm:m=m')(hc:cs=cs')(hr:Io G i (.row v e sz m' cs')=some G')(k:GX P ops c E M I fuel listed (St c n env G' Q)):GX P ops c E M I fuel listed (St c n env G Q):=GX.st (λa w h=>h.rowIs hi hm hc hr) k
theorem GX.snoc{α:Type}{kd:Kd α}{xs:List α}{cs:List Value}{j:Nat}{js:List Nat}(z:α)(r:kd.Y)(hj:FB Q j=some (A_ kd xs cs))(hq:Eu Q js=some (kd.pers z r))(hok:kd.ok z r)
  (k:GX P ops c E M I fuel listed (St c n env G (A_ kd (xs++[z]) (cs++kd.cells z r)::Q))):GX P ops c E M I fuel listed (St c n env G Q):=GX.imp (λa w h=>h.snoc hj hq hok) k
theorem GX.IQ{α:Type}{kd:Kd α}{i j e m cp:Nat}{A:Option Addr}{xs:List α}{cs:List Value}(ht:I7 G i=some (.row (.slice A m cp) e kd.sz m cs,G'))(hj:FB Q j=some (A_ kd xs cs))(hp:0<kd.sz)
  (k:GX P ops c E M I fuel listed (St c n env G' (D7.row kd A xs::Q))):GX P ops c E M I fuel listed (St c n env G Q):=GX.imp (λa w h=>h.IQ ht hj hp) k
def CtR(P:Program)(f:FuncId)(us:List Value)(G:List Own)(Q:List D7)(v:Value)(R:Value->List Own->List D7->Prop):Prop :=
 ∀w S,Heap S G Q w->CallsD P f us.toArray (.panicking [{ v:=v,recovered:=false }]) w λe u' w'=>Qn ⟨w,S,keysOf G,[]⟩ R e w'/\u'=.panicking [{ v:=v,recovered:=true }]
theorem CtR.intro{f:FuncId}{fn:Func}{us:List Value}{v:Value}{rest:Code}{id d1 d2:Nat}{ty1 ty2:TypeId}{pos1 pos2:String}{aft1 aft2:Array Edge}{ts:Array TypeId}{R:Value->List Own->List D7->Prop}(hf:P.funcs[f]?=some fn)
  (hb:fn.body=some (.seq (.region id #[⟨some d1,.call { callee:=.builtin .recover,args:=#[],argTypes:=ts },ty1,pos1,aft1,none⟩,⟨some d2,.assign (.tmp d1),ty2,pos2,aft2,none⟩] false) rest)) (hn:fn.ntmps=n) (hl:Nat.ble us.length n=true) (h1:Nat.blt d1 n=true) (h2:Nat.blt d2 n=true)
  (h:∀c:Cx,c.L0=keysOf G->GC P (Fin P fn c R) rest (St c n ((d2,v)::(d1,v)::enum 0 us) G Q)):CtR P f us G Q v R:=by
 intro w S hh
 have hl:=Nat.le_of_ble_eq_true hl
 let c:Cx:=⟨w,S,keysOf G,[]⟩
 have h0:Nc c.D n (enum 0 us) { tmps:=us.toArray++Array.replicate (fn.ntmps - us.toArray.size) undef,defers:=[] }:=by
  refine⟨⟨by simp[hn];omega,λi v hi=>?_⟩,rfl⟩
  obtain⟨k,rfl,hk⟩:=MR us 0 i v hi
  rw[Nat.zero_add]
  have hlt:k<us.length:=(List.getElem?_eq_some_iff.1 hk).1
  simp only[List.size_toArray]
  rw[Array.getElem?_append_left (by simpa using hlt)]
  simpa using hk
 have he1:=h0.put h1 v
 have he2:=he1.put h2 v
 refine callsD_of_wpS hf hb λc₀ cs hu=>?_
 apply wpS_seq
 apply wpS_region
 have hev:(Act.put { tmps:=us.toArray++Array.replicate (fn.ntmps - us.toArray.size) undef,defers:=[] } (some d1) v).eval (.tmp d1)=v:=he1.toEnv.eval (x:=.tmp d1) (v:=v) (by simp[ev,look])
 have key:rest.wpS P (bodyPostS P fn c₀ cs λe u' w'=>Qn ⟨w,S,keysOf G,[]⟩ R e w'/\u'=.panicking [{ v:=v,recovered:=true }]) (Act.put (Act.put { tmps:=us.toArray++Array.replicate (fn.ntmps - us.toArray.size) undef,defers:=[] } (some d1) v) (some d2) v) ({ c₀ with mode:=.panicking [{ v:=v,recovered:=true }] }::cs) w:=by
  refine wpS_of_wp (Code.wp_mono (λe a w' he=>?_) (h c rfl _ w ⟨S,he2,hh,⟨Fr.refl _ _,λ_ _ _=>Iff.rfl,λk hk=>.inl hk⟩⟩))
  have hb':=he rfl
  cases e with
  |normal=>obtain⟨hd,u,hr,hR⟩:=hb';exact⟨hd,_,rfl,u,hr,hR,rfl⟩
  |ret=>obtain⟨hd,u,hr,hR⟩:=hb';exact⟨hd,_,rfl,u,hr,hR,rfl⟩
  |panic ch=>obtain⟨hd,hR⟩:=hb';exact⟨hd,_,rfl,hR,rfl⟩
  |exit id=>exact hb'.elim
  |goto l=>exact hb'.elim
  |outgrown=>exact⟨_,hb',rfl⟩
 have hlt:d1<us.length+(fn.ntmps - us.length):=by
  have h1':d1<n:=by simpa using h1
  omega
 simp[wpOpsS,go_sem,recoverD,hu,Exit.thenS,hlt]
 simpa[Act.put] using key
theorem Dj{f:FuncId}{us:List Value}(hf:oG P f){fn:Func}{v:Value}{isC jsC:List Nat}{G1 Gr1:List Own}{Q1:List D7}{RC R:Value->List Own->List D7->Prop}(hC:CtR P f us G1 Q1 v RC)(hselC:sel G isC=some (G1,Gr1))(hqC:Eu Q jsC=some Q1)
  (hback:∀u G2 Q2 a w,RC u G2 Q2->St ⟨c.w0,c.S0,c.L0,[]⟩ n env (G2++Gr1) (Q2++Q) a w->Fin P fn ⟨c.w0,c.S0,c.L0,[]⟩ R .ret a w) (h:St (c.def_ f us) n env G Q a w):UD P fn c R (.panic [{ v:=v,recovered:=false }]) a w:=by
 obtain⟨S,he,hh,hrel⟩:=h
 show Leaves P fn a.tmps (Qn c R) a.defers (.panicking [{ v:=v,recovered:=false }]) w
 have hd:a.defers=[⟨.fn (.func f) us.toArray,#[]⟩]:=he.defers
 rw[hd]
 refine⟨by simp,.func f,us.toArray,f,us.toArray,rfl,?_,?_⟩
 ·have:=hf us.toArray w
  simp only[invoke,Array.empty_append,this]
 ·have hp':=Ho hselC
  have hh1:=hh.perm hp'
  have Ik:=hrel.perm hp'
  have hin:Heap S G1 Q1 w:=hh1.sub (List.sublist_append_left _ _) (Gv hqC)
  refine(hC w S hin).mono ?_
  rintro e u' w' ⟨⟨u,G2,Q2,S',rfl,hR,h',hfr,hS,hkk⟩,rfl⟩
  have he0:Nc [] n env { a with defers:=[] }:=⟨⟨he.size,he.has⟩,rfl⟩
  have hst:St ⟨c.w0,c.S0,c.L0,[]⟩ n env (G2++Gr1) (Q2++Q) { a with defers:=[] } w':=CU (c:=⟨c.w0,c.S0,c.L0,[]⟩) hh1 ⟨Ik.fr,Ik.old,Ik.key⟩ h' hfr hS hkk he0
  obtain⟨_,v',hrun,hret⟩:=hback u G2 Q2 _ w' hR hst rfl
  exact⟨v',hrun,hret⟩
end
end Go.Sx
namespace Go.Proofs.YtliacpkblicnhaaGreat
open Go Go.Sx Go.Proofs
section
variable {P:Program}{c:Cx}{n:Nat}{env env':List (Nat×Value)}{G G' Gr:List Own}{Q Q':List D7}{d:Nat}{ty:TypeId}{pos:String}{Ew:Array Edge}{g:Option (Nat×Bool)}{x:Operand}{t:TypeId}{a:Act}{w:World}{ops:Array Oper}{rest:List Oper}{R:Exit->Gz}{v:Value}{E:Value->Prop}{M:Gz}{fuel:Nat}{listed:Array Bool}
theorem DW{fn:Func}{F:Value->List Own->List D7->Prop}{G1:List Own}{Q1:List D7}(i:Nat)(is js:List Nat)(hR:F (RQ [v]) G1 Q1)(hr:fn.results=[ResultVar.tmp i].toArray:=by rfl)(hv:Sx.resV P env G [.tmp i] [v]:=by exact⟨rfl,trivial⟩)(hsel:sel G is=some (G1,Gr):=by rfl)(hq:Eu Q js=some Q1:=by rfl):∀(a:Act) (w:World),St c n env G Q a w->Iu P fn c F E .ret a w:=λa w h=>D5 hr hv hsel hq hR h
theorem DJ{b o e:Nat}{l vs:List Value}{fn:Func}{F:Value->List Own->List D7->Prop}{G1:List Own}{Q1:List D7}(a_ t_ gi k:Nat)(is js:List Nat)(hR:F (RQ [.agg vs.toArray]) G1 Q1)(hr:fn.results=[ResultVar.cell a_ t_].toArray:=by rfl)(hi:FB G gi=some (.cells b l e):=by rfl)(hl:Sx.look env a_=some (.pointer (some ⟨b,o,none⟩)):=by rfl)(hv:Lh l o k=some vs:=by rfl)(hg:IY P t_=some true:=by kernel_rfl)(hs:FN P t_=some k:=by kernel_rfl)(hsel:sel G is=some (G1,Gr):=by rfl)(hq:Eu Q js=some Q1:=by rfl):∀(a:Act) (w:World),St c n env G Q a w->Iu P fn c F E .ret a w:=λa w h=>D5 (rs:=[.cell a_ t_]) (vs:=[.agg vs.toArray]) hr ⟨mM gi k hi hl hv hg hs,trivial⟩ hsel hq hR h
theorem BH(rs:List Nat){I:World->Prop}{A:Gz}(h:IZ P ops c E M I fuel listed A rs)(hr:Region.ready .any ops listed=rs:=by kernel_rfl)(hne:rs≠[]:=by simp):GX P ops c E M I (fuel+1) listed A:=GX.all hr hne h
theorem Bq{op:Op}{G1:List Own}{Q1:List D7}(i:Nat)(hi:ops[i]?=some ⟨some d,op,ty,pos,Ew,none⟩)(is js:List Nat)(h:Pi P n (Mem c G1 Q1) env ⟨some d,op,ty,pos,Ew,none⟩ v)(k:GX P ops c E M (Mem c G1 Q1) fuel (listed.setIfInBounds i true) (St c n ((d,v)::env) G Q))
    (hs:Region.noSelect ops=true:=by kernel_rfl) (hf:Region.free .any ops listed i=true:=by kernel_rfl) (hr:(Region.ready .any ops listed).contains i=true:=by kernel_rfl) (hd:Nat.blt d n=true:=by rfl) (hsel:sel G is=some (G1,Gr):=by rfl) (hq:Eu Q js=some Q1:=by rfl):GX P ops c E M (Mem c G1 Q1) (fuel+1) listed (St c n env G Q) :=
  GX.take i hi hs hf hr hd (λ_ _ h=>h.mem hsel hq) h k
theorem BK{op:Op}{G1:List Own}{Q1:List D7}(i:Nat)(is js:List Nat)(k:GX P ops c E M (Mem c G1 Q1) fuel (listed.setIfInBounds i true) (St c n ((d,v)::env) G Q))(hi:ops[i]?=some ⟨some d,op,ty,pos,Ew,none⟩:=by rfl)(h:Pi P n (Mem c G1 Q1) env ⟨some d,op,ty,pos,Ew,none⟩ v:=by exact EK (Ph WV VN rfl))
    (hs:Region.noSelect ops=true:=by kernel_rfl) (hf:Region.free .any ops listed i=true:=by kernel_rfl) (hr:(Region.ready .any ops listed).contains i=true:=by kernel_rfl) (hd:Nat.blt d n=true:=by rfl) (hsel:sel G is=some (G1,Gr):=by rfl) (hq:Eu Q js=some Q1:=by rfl):GX P ops c E M (Mem c G1 Q1) (fuel+1) listed (St c n env G Q) :=
  GX.take i hi hs hf hr hd (λ_ _ h=>h.mem hsel hq) h k
end
end Go.Proofs.YtliacpkblicnhaaGreat
namespace Go.Sx
open Go
def XW(P:Program)(f:FuncId)(args:List Value)(G:List Own)(Q:List D7)(R:Value->List Own->List D7->Prop):Prop :=
 ∀w S,Heap S G Q w->∃v w' G' Q' S',(callFunc f args.toArray).run P w=.ok (.value v) w'/\R v G' Q'/\Heap S' G' Q' w'/\Fr (keysOf G) w w' /\
  (∀k,k<w.heap.size->k ∉ keysOf G->(S' k↔S k))/\(∀k∈keysOf G',k∈keysOf G\/w.heap.size<=k)
end Go.Sx
namespace Go.Sx
open Go
section
variable {P:Program}{c:Cx}{n:Nat}{env env':List (Nat×Value)}{G G' Gr:List Own}{Q Q':List D7}{d:Nat}{ty:TypeId}{pos:String}{Ew:Array Edge}{g:Option (Nat×Bool)}{x y:Operand}{t:TypeId}{a a':Act}{w w':World}
theorem MX{f:FuncId}{xs:List Operand}{vs:List Value}{ts:Array TypeId}{is js:List Nat}{G1:List Own}{Q1:List D7}{R:Value->List Own->List D7->Prop}(hd:Nat.blt d n=true)(hx:evs env xs=some vs)
  (hsel:sel G is=some (G1,Gr)) (hq:Eu Q js=some Q1) (h:XW P f vs G1 Q1 R) :
  Tr P ⟨some d,.call { callee:=.value (.func f),args:=xs.toArray,argTypes:=ts },ty,pos,Ew,g⟩ (St c n env G Q) (λa w=>∃v G2 Q2,R v G2 Q2/\St c n ((d,v)::env) (G2++Gr) (Q2++Q) a w):=by
 rintro a w ⟨S,he,hh,hrel⟩ K Q' hk
 have hp:=Ho hsel
 have hh1:=hh.perm hp
 have Ik:=hrel.perm hp
 have hin:Heap S G1 Q1 w:=hh1.sub (List.sublist_append_left _ _) (Gv hq)
 obtain⟨v,w',G2,Q2,S',hrun,hR,h',hf,hS,hkk⟩:=h w S hin
 have hm:xs.toArray.map a.eval=vs.toArray:=by rw[List.map_toArray,he.toEnv.Wh hx]
 have hr:(execOp a.eval ⟨some d,.call { callee:=.value (.func f),args:=xs.toArray,argTypes:=ts },ty,pos,Ew,g⟩).run P w=.ok (.value v) w':=by
  simp only[execOp,resolve,Deferred.ofValue,invoke,hm,Act.eval,Sem.run_bind,Sem.run_pure,Result.andThen_ok,Array.empty_append,Array.append_empty,hrun]
 unfold Oper.wp
 rw[hr]
 exact hk _ _ ⟨v,G2,Q2,hR,CU hh1 Ik h' hf hS hkk (he.put hd v)⟩
theorem Dv{f:FuncId}{vs:List Value}{u:Value}(h:∀w,(∀o∈G,o.holds w)->(callFunc f vs.toArray).run P w=.ok (.value u) w):XW P f vs G [] (λv G' Q'=>v=u/\G'=G/\Q'=[]) :=
 λw S hh=>⟨u,w,G,[],S,h w hh.own,⟨rfl,rfl,rfl⟩,hh,Fr.refl _ _,λ_ _ _=>Iff.rfl,λk hk=>.inl hk⟩
theorem jw{l l':List Value}{o:Nat}{v:Value}(h:upd l o [v]=some l'):l'=l.set o v/\o<l.length:=by
 obtain⟨h1,h2⟩:=VG h
 have hlt:o<l.length:=h2
 refine⟨?_,hlt⟩
 rw[h1,List.set_eq_take_append_cons_drop,if_pos hlt]
 simp
theorem Za{b o:Nat}{l l':List Value}{e:TypeId}{v:Value}(hb:w.heap[b]?=some (.cells l.toArray e (0,0)))(hl:l'=l.set o v):w.setCell ⟨b,o,none⟩ v=w.setRow b l'.toArray:=by
 subst hl
 unfold World.setCell World.setRow
 congr 1
 apply Array.ext_getElem?
 intro i
 rw[Array.getElem?_modify,Array.getElem?_modify]
 by_cases hi:b=i
 ·subst hi
  simp[hb]
 ·simp[hi]
theorem Du{f:FuncId}{vs:List Value}{b o:Nat}{l l':List Value}{e:TypeId}{u v:Value}(hu:upd l o [v]=some l')
  (h:∀w,w.cell? ⟨b,o,none⟩=l[o]?->w.frozen? ⟨b,o,none⟩=false->(callFunc f vs.toArray).run P w=.ok (.value u) (w.setCell ⟨b,o,none⟩ v)):XW P f vs [.cells b l e] [] (λv G' Q'=>v=u/\G'=[.cells b l' e]/\Q'=[]):=by
 intro w S hh
 have hb:w.heap[b]?=some (.cells l.toArray e (0,0)):=hh.own _ (List.mem_singleton.2 rfl)
 obtain⟨rfl,hlt⟩:=jw hu
 have hr:=h w (by simp[World.cell?,hb]) (by simp[World.frozen?,hb])
 rw[Za hb rfl] at hr
 refine⟨u,_,[.cells b (l.set o v) e],[],S,hr,⟨rfl,rfl,rfl⟩,⟨λx hx=>?_,hh.Oj,hh.out,λq hq=>by cases hq⟩,Fr.setRow w b _,λ_ _ _=>Iff.rfl,λk hk=>.inl hk⟩
 rcases List.mem_singleton.1 hx with rfl
 exact setRow_heap w b _ _ _ _ hb
theorem jo{f:FuncId}{fn:Func}(hf:P.funcs[f]?=some fn)(hname:(fn.name == "runtime.NumGoroutine")=false)(hb:fn.body.isNone=true)(hn:Extern.findNext fn=none)(m:Mark)
  (he:Extern.find fn=some (λ_=>do mark m;pure Extern.Race.none_)):XW P f [] [] [] (λv G' Q'=>v=.tuple #[]/\G'=[]/\Q'=[]) :=
 Dv λw _=>run_call_mark0 hf hname hb hn m he w
theorem ZO{f:FuncId}{fn:Func}(hf:P.funcs[f]?=some fn)(hname:(fn.name == "runtime.NumGoroutine")=false)(hb:fn.body.isNone=true)(hn:Extern.findNext fn=none)(m:Addr->Mark)
  (he:Extern.find fn=some (Extern.Race.marked m)) (p:Addr):XW P f [.pointer (some p)] [] [] (λv G' Q'=>v=.tuple #[]/\G'=[]/\Q'=[]) :=
 Dv λw _=>run_call_marked hf hname hb hn m he p w
theorem YE{f:FuncId}{fn:Func}(hf:P.funcs[f]?=some fn)(hname:(fn.name == "runtime.NumGoroutine")=false)(hb:fn.body.isNone=true)(hn:Extern.findNext fn=none)(k:IntKind)
  (he:Extern.find fn=some (Extern.Atomic.loadT (.int k))) {b o:Nat} {l:List Value} {e:TypeId} {z:Int} (hz:nth l o=some (.int k z)):XW P f [.pointer (some ⟨b,o,none⟩)] [.cells b l e] [] (λv G' Q'=>v=.int k z/\G'=[.cells b l e]/\Q'=[]) :=
 Dv λw h=>run_call_load hf hname hb hn k he (by
  have hb:w.heap[b]?=some (.cells l.toArray e (0,0)):=h _ (List.mem_singleton.2 rfl)
  rw[JG] at hz
  simp[World.cell?,hb,hz])
theorem x_astore{f:FuncId}{fn:Func}(hf:P.funcs[f]?=some fn)(hname:(fn.name == "runtime.NumGoroutine")=false)(hb:fn.body.isNone=true)(hn:Extern.findNext fn=none)(k:IntKind)
  (he:Extern.find fn=some Extern.Atomic.storeT) {b o:Nat} {l l':List Value} {e:TypeId} {z:Int} (hu:upd l o [.int k z]=some l'):XW P f [.pointer (some ⟨b,o,none⟩),.int k z] [.cells b l e] [] (λv G' Q'=>v=.tuple #[]/\G'=[.cells b l' e]/\Q'=[]) :=
 Du hu λw hc hz=>by
  have hlt:=(jw hu).2
  rw[List.getElem?_eq_getElem hlt] at hc
  exact run_call_store hf hname hb hn he hc hz
theorem dU{f:FuncId}{fn:Func}(hf:P.funcs[f]?=some fn)(hname:(fn.name == "runtime.NumGoroutine")=false)(hb:fn.body.isNone=true)(hn:Extern.findNext fn=none)(k:IntKind)
  (he:Extern.find fn=some (Extern.Atomic.update (Op.intArith .add) k true)) {b o:Nat} {l l':List Value} {e:TypeId} {z y s:Int} (hc:nth l o=some (.int k z)) (hs:∀w,(Op.intArith .add k z y).run P w=.ok (.int k s) w) (hu:upd l o [.int k s]=some l'):XW P f [.pointer (some ⟨b,o,none⟩),.int k y] [.cells b l e] [] (λv G' Q'=>v=.int k s/\G'=[.cells b l' e]/\Q'=[]) :=
 Du hu λw hc' hz=>by
  rw[JG] at hc
  rw[hc] at hc'
  exact run_call_add hf hname hb hn k he hc' hz (hs w)
theorem x_cas{f:FuncId}{fn:Func}(hf:P.funcs[f]?=some fn)(hname:(fn.name == "runtime.NumGoroutine")=false)(hb:fn.body.isNone=true)(hn:Extern.findNext fn=none)(k:IntKind)
  (he:Extern.find fn=some (Extern.Atomic.casT (.int k))) {b o:Nat} {l l':List Value} {e:TypeId} {z y:Int} (hc:nth l o=some (.int k z)) (hu:upd l o [.int k y]=some l'):XW P f [.pointer (some ⟨b,o,none⟩),.int k z,.int k y] [.cells b l e] [] (λv G' Q'=>v=.bool true/\G'=[.cells b l' e]/\Q'=[]) :=
 Du hu λw hc' hz=>by
  rw[JG] at hc
  rw[hc] at hc'
  exact run_call_cas_hit hf hname hb hn k he hc' hz
def CtD(P:Program)(f:FuncId)(us:List Value)(G:List Own)(Q:List D7)(R:Value->List Own->List D7->Prop):Prop :=
 ∀w S,Heap S G Q w->CallsD P f us.toArray .returning w λe u' w'=>u'=.returning/\Qn ⟨w,S,keysOf G,[]⟩ R e w'
theorem CtD.intro{f:FuncId}{fn:Func}{code:Code}{args:List Value}{R:Value->List Own->List D7->Prop}(hf:P.funcs[f]?=some fn)(hb:fn.body=some code)(hn:fn.ntmps=n)(hl:Nat.ble args.length n=true)
  (h:∀c:Cx,c.L0=keysOf G->GC P (Fin P fn c R) code (St c n (enum 0 args) G Q)):CtD P f args G Q R:=by
 intro w S hh
 refine callsD_of_wp hf hb ?_
 have hl:=Nat.le_of_ble_eq_true hl
 let c:Cx:=⟨w,S,keysOf G,[]⟩
 refine Code.wp_mono ?_ (h c rfl _ w ⟨S,?_,hh,?_⟩)
 ·intro e a w' he
  exact he rfl
 ·refine⟨⟨by simp[hn];omega,λi v hi=>?_⟩,rfl⟩
  obtain⟨k,rfl,hk⟩:=MR args 0 i v hi
  rw[Nat.zero_add]
  have hlt:k<args.length:=(List.getElem?_eq_some_iff.1 hk).1
  simp only[List.size_toArray]
  rw[Array.getElem?_append_left (by simpa using hlt)]
  simpa using hk
 ·exact⟨Fr.refl _ _,λ_ _ _=>Iff.rfl,λk hk=>.inl hk⟩
abbrev dcall(f:FuncId)(us:List Value):Deferred:=⟨.fn (.func f) #[],us.toArray⟩
theorem Dy{ops:Array Oper}{X:Exit->Gz}{rest:List Oper}{f:FuncId}{xs:List Operand}{us:List Value}{ts:Array TypeId}(hx:evs env xs=some us)
  (k:GL P ops X rest (St ⟨c.w0,c.S0,c.L0,dcall f us::c.D⟩ n env G Q)):GL P ops X (⟨none,.defer { callee:=.value (.func f),args:=xs.toArray,argTypes:=ts },ty,pos,Ew,none⟩::rest) (St c n env G Q):=by
 intro a w h
 refine wpList_plain rfl λK hK=>?_
 unfold Oper.wp
 obtain⟨S,he,hh,hrel⟩:=h
 have hm:xs.toArray.map a.eval=us.toArray:=by rw[List.map_toArray,he.toEnv.Wh hx]
 have hrun:(execOp a.eval ⟨none,.defer { callee:=.value (.func f),args:=xs.toArray,argTypes:=ts },ty,pos,Ew,none⟩).run P w=.ok (.defer (dcall f us)) w:=by
  simp[execOp,resolve,Act.eval,Deferred.ofValue,hm]
 rw[hrun,Oper.upon_defer]
 refine hK _ _ (k _ w ⟨S,⟨⟨he.size,he.has⟩,?_⟩,hh,⟨hrel.fr,hrel.old,hrel.key⟩⟩)
 show _::a.defers=_
 rw[he.defers]
theorem UD.pop{f:FuncId}{us:List Value}{D:List Deferred}(hf:oG P f){fn:Func}{R:Value->List Own->List D7->Prop}{is js:List Nat}{G1:List Own}{Q1:List D7}{RC:Value->List Own->List D7->Prop}(hD:c.D=dcall f us::D)(hC:CtD P f us G1 Q1 RC)(hsel:sel G is=some (G1,Gr))(hq:Eu Q js=some Q1)
  (k:∀u G2 Q2 a w,RC u G2 Q2->St ⟨c.w0,c.S0,c.L0,D⟩ n env (G2++Gr) (Q2++Q) a w->UD P fn ⟨c.w0,c.S0,c.L0,D⟩ R .ret a w) (h:St c n env G Q a w):UD P fn c R .ret a w:=by
 obtain⟨S,he,hh,hrel⟩:=h
 show Leaves P fn a.tmps (Qn c R) a.defers .returning w
 have hd:a.defers=dcall f us::D:=he.defers.trans hD
 rw[hd]
 refine⟨by simp,.func f,#[],f,us.toArray,rfl,?_,?_⟩
 ·have:=hf us.toArray w
  simp only[invoke,Array.append_empty,this]
 ·have hp':=Ho hsel
  have hh1:=hh.perm hp'
  have Ik:=hrel.perm hp'
  have hin:Heap S G1 Q1 w:=hh1.sub (List.sublist_append_left _ _) (Gv hq)
  refine(hC w S hin).mono ?_
  rintro e u' w' ⟨rfl,u,G2,Q2,S',rfl,hR,h',hfr,hS,hkk⟩
  have he0:Nc D n env { a with defers:=D }:=⟨⟨he.size,he.has⟩,rfl⟩
  have hst:St ⟨c.w0,c.S0,c.L0,D⟩ n env (G2++Gr) (Q2++Q) { a with defers:=D } w':=CU (c:=⟨c.w0,c.S0,c.L0,D⟩) hh1 ⟨Ik.fr,Ik.old,Ik.key⟩ h' hfr hS hkk he0
  exact k u G2 Q2 _ w' hR hst
theorem ZU{src dst:TypeId}{i b o:Nat}{l:List Value}{e:TypeId}{u:Value}(hd:Nat.blt d n=true)(hi:FB G i=some (.cells b l e))(hx:ev env x=some (.pointer (some ⟨b,o,none⟩)))(hn:nth l o=some u)(hs:P.underlying src=some (.pointer t))(hdst:P.underlying dst=some .unsafePointer)(hsz:(P.info? t).map (λi=>decide (i.size=0))=some false) :
  Tr P ⟨some d,.convert src dst x,ty,pos,Ew,g⟩ (St c n env G Q) (St c n ((d,.pointer (some ⟨b,o,none⟩))::env) G Q):=by
 intro a w h K R hk
 have hb:w.heap[b]?=some (.cells l.toArray e (0,0)):=h.own hi
 rw[JG] at hn
 have hrun:(execOp a.eval ⟨some d,.convert src dst x,ty,pos,Ew,g⟩).run P w=.ok (.value (.pointer (some ⟨b,o,none⟩))) w:=by
  have:=run_convert_to_unsafe (P:=P) hs hdst hsz (a:=⟨b,o,none⟩) (v:=u) (w:=w) (by simp[World.cell?,hb,hn])
  simp only[execOp,h.en.eval hx,this,Sem.run_bind,Result.andThen_ok,Sem.run_pure]
 unfold Oper.wp
 rw[hrun]
 exact hk _ _ (h.keep (Fr.refl _ _) (h.en.put hd _))
end
end Go.Sx
namespace Go.Sx
open Go
abbrev Yp(p:Int×Int):Value:=.agg #[.int .i64 p.1,.int .i64 p.2]
structure Qe(P:Program)(kt:TypeId):Prop where
 wide:(match P.underlying kt with|some (.array _ _)|some (.struct _)=>true|_=>false)=true
 check:∀(em:Bool) (p:Int×Int) (w:World),(Instr.checkKey em 10000 kt (Yp p)).run P w=.ok () w
 eq:∀(p q:Int×Int) (w:World),(Op.equal kt (Yp p) (Yp q)).run P w=.ok (decide (p=q)) w
def NV:List (Int×Int)->List MapEntry->Prop
 |[],[]=>True
 |p::T,e::es=>e.key=Yp p/\e.val=.agg #[]/\NV T es
 |_,_=>False
theorem NV.snoc{p:Int×Int}{b:Nat}:∀{T:List (Int×Int)} {es:List MapEntry},NV T es->NV (T++[p]) (es++[{ key:=Yp p,val:=.agg #[],born:=b }])
 |[],[],_=>⟨rfl,rfl,trivial⟩
 |q::T,e::es,⟨h1,h2,h3⟩=>⟨h1,h2,NV.snoc h3⟩
 |[],_::_,h=>h.elim
 |_::_,[],h=>h.elim
theorem NV.get{j:Nat}{p:Int×Int}:∀{T:List (Int×Int)} {es:List MapEntry} {j:Nat},NV T es->T[j]?=some p->∃e,es[j]?=some e/\e.key=Yp p
 |[],[],_,_,h=>by simp at h
 |q::T,e::es,0,⟨h1,h2,h3⟩,h=>by simp only[List.getElem?_cons_zero,Option.some.injEq] at h;subst h;exact⟨e,rfl,h1⟩
 |q::T,e::es,j+1,⟨h1,h2,h3⟩,h=>by
  obtain⟨e',h4,h5⟩:=NV.get (j:=j) h3 (by simpa using h)
  exact⟨e',by simpa using h4,h5⟩
 |[],_::_,_,h,_=>h.elim
 |_::_,[],_,h,_=>h.elim
theorem NV.same{p:Int×Int}:∀{T:List (Int×Int)} {es:List MapEntry} {j:Nat},NV T es->T[j]?=some p->NV T (es.modify j λe=>{ e with key:=Yp p,val:=.agg #[] })
 |[],[],_,_,h=>by simp at h
 |q::T,e::es,0,⟨h1,h2,h3⟩,h=>by simp only[List.getElem?_cons_zero,Option.some.injEq] at h;subst h;exact⟨rfl,rfl,h3⟩
 |q::T,e::es,j+1,⟨h1,h2,h3⟩,h=>⟨h1,h2,NV.same (j:=j) h3 (by simpa using h)⟩
 |[],_::_,_,h,_=>h.elim
 |_::_,[],_,h,_=>h.elim
theorem NV.less:∀{T:List (Int×Int)} {es:List MapEntry} (j:Nat),NV T es->NV (T.eraseIdx j) (es.eraseIdx j)
 |[],[],_,_=>trivial
 |q::T,e::es,0,⟨h1,h2,h3⟩=>h3
 |q::T,e::es,j+1,⟨h1,h2,h3⟩=>⟨h1,h2,NV.less j h3⟩
 |[],_::_,_,h=>h.elim
 |_::_,[],_,h=>h.elim
theorem NV.len:∀{T:List (Int×Int)} {es:List MapEntry},NV T es->T.length=es.length
 |[],[],_=>rfl
 |q::T,e::es,⟨_,_,h⟩=>by simp[NV.len h]
 |[],_::_,h=>h.elim
 |_::_,[],h=>h.elim
theorem Nl{P:Program}{kt:TypeId}(K:Qe P kt)(p:Int×Int)(w:World):∀{T:List (Int×Int)} {es:List MapEntry} (i:Nat),NV T es ->
  (Instr.findAsking kt (Yp p) es i).run P w=.ok (if p∈T then some (i+T.idxOf p,.agg #[]) else none) w
 |[],[],i,_=>by simp[Instr.findAsking]
 |q::T,e::es,i,⟨h1,h2,h3⟩=>by
  simp only[Instr.findAsking,Sem.run_bind,h1,K.eq,Result.andThen_ok]
  by_cases h:p=q
  ·subst h
   simp[h2]
  ·have hqp:¬q=p:=λe=>h e.symm
   have ih:=Nl K p w (i+1) h3
   simp only[h,decide_false,Bool.false_eq_true,if_false,ih,List.mem_cons,false_or]
   by_cases hm:p∈T
   ·simp only[hm,if_true,List.idxOf_cons,beq_iff_eq,hqp,cond_false]
    have:(q == p)=false:=by simpa using hqp
    rw[this]
    simp only[cond_false]
    congr 3
    omega
   ·simp[hm]
 |[],_::_,_,h=>h.elim
 |_::_,[],_,h=>h.elim
theorem Md{P:Program}{kt:TypeId}(K:Qe P kt)(p:Int×Int)(w:World){T:List (Int×Int)}{es:List MapEntry}(h:NV T es) :
  (Instr.findKey kt (Yp p) es).run P w=.ok (if p∈T then some (T.idxOf p,.agg #[]) else none) w:=by
 rw[run_findKey_eq w K.wide,Nl K p w 0 h]
 simp
def O9(T:List (Int×Int))(p:Int×Int):List (Int×Int):=if p∈T then T else T++[p]
end Go.Sx
namespace Go.Sx
open Go
section
variable {P:Program}{c:Cx}{n:Nat}{env env':List (Nat×Value)}{G G' Gr:List Own}{Q Q':List D7}{d:Nat}{ty:TypeId}{pos:String}{Ew:Array Edge}{g:Option (Nat×Bool)}{x y z:Operand}{t kt et:TypeId}{a a':Act}{w w':World}
theorem Xj{i m ck:Nat}{es:Array MapEntry}{T:List (Int×Int)}{p:Int×Int}(K:Qe P kt)(hd:Nat.blt d n=true)(hi:FB G i=some (.blk m (.map es ck)))(hT:NV T es.toList)(hx:ev env x=some (.map (some m)))(hy:ev env y=some (Yp p))
  (ht:P.underlying t=some (.map kt et)) (hz:UF P et=some (.agg #[])) :
  Tr P ⟨some d,.lookup t x y true,ty,pos,Ew,g⟩ (St c n env G Q) (St c n ((d,.tuple #[.agg #[],.bool (decide (p∈T))])::env) G Q):=by
 intro a w h K' R hk'
 have hblk:w.heap[m]?=some (.map es ck):=h.own hi
 have hf:=Md (P:=P) K p w hT
 have hrun:(execOp a.eval ⟨some d,.lookup t x y true,ty,pos,Ew,g⟩).run P w=.ok (.value (.tuple #[.agg #[],.bool (decide (p∈T))])) w:=by
  by_cases hm:p∈T
  ·rw[if_pos hm] at hf
   simp only[execOp,h.en.eval hx,h.en.eval hy,Instr.lookup,Sem.run_bind,run_underlying ht,Result.andThen_ok,IW hblk,Sem.run_pure,K.check,hf,if_true,hm,decide_true]
  ·rw[if_neg hm] at hf
   simp only[execOp,h.en.eval hx,h.en.eval hy,Instr.lookup,Sem.run_bind,run_underlying ht,Result.andThen_ok,IW hblk,Sem.run_pure,K.check,hf,if_true,hm,decide_false,Kw hz]
 unfold Oper.wp
 rw[hrun]
 exact hk' _ _ (h.keep (Fr.refl _ _) (h.en.put hd _))
theorem Xh{i m ck:Nat}{es:Array MapEntry}{T:List (Int×Int)}{p:Int×Int}{GN:Array MapEntry->Nat->List Own}(K:Qe P kt)(hi:FB G i=some (.blk m (.map es ck)))(hT:NV T es.toList)(hx:ev env x=some (.map (some m)))(hy:ev env y=some (Yp p))(hv:ev env z=some (.agg #[]))
  (ht:P.underlying t=some (.map kt et)) (hr:∀es' Nv,Io G i (.blk m (.map es' Nv))=some (GN es' Nv)) :
  Tr P ⟨none,.mapUpdate t x y z,ty,pos,Ew,g⟩ (St c n env G Q) (λa w=>∃es' Nv,NV (O9 T p) es'.toList/\St c n env (GN es' Nv) Q a w):=by
 intro a w h K' R hk'
 have hblk:w.heap[m]?=some (.map es ck):=h.own hi
 have hlt:m<w.heap.size:=(Array.getElem?_eq_some_iff.1 hblk).1
 have hf:=Md (P:=P) K p w hT
 have fin:∀es' Nv,NV (O9 T p) es'.toList->(execOp a.eval ⟨none,.mapUpdate t x y z,ty,pos,Ew,g⟩).run P w=.ok .skip { w with heap:=w.heap.setIfInBounds m (.map es' Nv) }->Oper.wp P ⟨none,.mapUpdate t x y z,ty,pos,Ew,g⟩ a w K' R:=by
  intro es' Nv hm' hrun
  unfold Oper.wp
  rw[hrun]
  refine hk' _ _ ⟨es',Nv,hm',h.write hi (hr es' Nv) (Dt w) ?_ (λk hk=>.inl hk) (by simp[Own.keys]) h.en⟩
  show(w.heap.setIfInBounds m _)[m]?=_
  simp[hlt]
 by_cases hm:p∈T
 ·rw[if_pos hm] at hf
  have hj:T[T.idxOf p]?=some p:=by
   rw[List.getElem?_eq_getElem (List.idxOf_lt_length_of_mem hm)]
   simp
  obtain⟨e,he1,he2⟩:=NV.get (j:=0) hT hj
  refine fin (es.modify (T.idxOf p) λe=>{ e with key:=Yp p,val:=.agg #[] }) ck ?_ ?_
  ·simpa[O9,hm] using NV.same hT hj
  ·have hkey:((es[T.idxOf p]?).map (·.key)).getD (Yp p)=Yp p:=by
    rw[<-Array.getElem?_toList,he1]
    simp[he2]
   have hstay:(Instr.keyThatStays (Yp p) (Yp p)).run P w=.ok (Yp p) w:=by
    simp[Instr.keyThatStays,Instr.sameBits]
   simp only[execOp,h.en.eval hx,h.en.eval hy,h.en.eval hv,Instr.mapUpdate,Sem.run_bind,run_underlying ht,Result.andThen_ok,IW hblk,Sem.run_pure,K.check,hf,hkey,hstay,Ky hblk]
 ·rw[if_neg hm] at hf
  refine fin (es.push { key:=Yp p,val:=.agg #[],born:=ck }) (ck+1) ?_ ?_
  ·simpa[O9,hm] using NV.snoc (p:=p) (b:=ck) hT
  ·simp only[execOp,h.en.eval hx,h.en.eval hy,h.en.eval hv,Instr.mapUpdate,Sem.run_bind,run_underlying ht,Result.andThen_ok,IW hblk,Sem.run_pure,K.check,hf,Ky hblk]
theorem Xk{i m ck:Nat}{es:Array MapEntry}{T:List (Int×Int)}{p:Int×Int}{GN:Array MapEntry->Nat->List Own}(K:Qe P kt)(hi:FB G i=some (.blk m (.map es ck)))(hT:NV T es.toList)(hx:ev env x=some (.map (some m)))(hy:ev env y=some (Yp p))
  (ht:P.underlying t=some (.map kt et)) (hr:∀es' Nv,Io G i (.blk m (.map es' Nv))=some (GN es' Nv)) :
  Tr P ⟨none,.call { callee:=.builtin .delete,args:=#[x,y],argTypes:=#[t,kt] },ty,pos,Ew,g⟩ (St c n env G Q) (λa w=>∃es' Nv,NV (T.erase p) es'.toList/\St c n env (GN es' Nv) Q a w):=by
 intro a w h K' R hk'
 have hblk:w.heap[m]?=some (.map es ck):=h.own hi
 have hlt:m<w.heap.size:=(Array.getElem?_eq_some_iff.1 hblk).1
 have hf:=Md (P:=P) K p w hT
 have fin:∀es' Nv,NV (T.erase p) es'.toList->(execOp a.eval ⟨none,.call { callee:=.builtin .delete,args:=#[x,y],argTypes:=#[t,kt] },ty,pos,Ew,g⟩).run P w=.ok (.value (.tuple #[])) { w with heap:=w.heap.setIfInBounds m (.map es' Nv) }->Oper.wp P ⟨none,.call { callee:=.builtin .delete,args:=#[x,y],argTypes:=#[t,kt] },ty,pos,Ew,g⟩ a w K' R:=by
  intro es' Nv hm' hrun
  unfold Oper.wp
  rw[hrun]
  refine hk' _ _ ⟨es',Nv,hm',h.write hi (hr es' Nv) (Dt w) ?_ (λk hk=>.inl hk) (by simp[Own.keys]) h.en⟩
  show(w.heap.setIfInBounds m _)[m]?=_
  simp[hlt]
 by_cases hm:p∈T
 ·rw[if_pos hm] at hf
  refine fin (es.eraseIdxIfInBounds (T.idxOf p)) ck ?_ ?_
  ·have hl:=NV.len hT
   have hjs:T.idxOf p<es.size:=by have:=List.idxOf_lt_length_of_mem hm;rw[hl] at this;simpa using this
   have hsub:(es.eraseIdxIfInBounds (T.idxOf p)).toList=es.toList.eraseIdx (T.idxOf p):=by
    unfold Array.eraseIdxIfInBounds
    rw[dif_pos hjs]
    simp
   rw[hsub,List.erase_eq_eraseIdx_of_idxOf rfl]
   exact NV.less _ hT
  ·simp[execOp,resolve,invoke,builtin,Builtin.delete_,h.en.eval hx,h.en.eval hy,run_underlying ht,IW hblk,K.check,hf,Ky hblk,Result.andThen]
 ·rw[if_neg hm] at hf
  refine fin es ck ?_ ?_
  ·rw[List.erase_of_not_mem hm];exact hT
  ·simp[execOp,resolve,invoke,builtin,Builtin.delete_,h.en.eval hx,h.en.eval hy,run_underlying ht,IW hblk,K.check,hf,Ky hblk,Result.andThen]
end
end Go.Sx
namespace Go.Proofs.YtliacpkblicnhaaGreat
open Go Go.Sx Go.Proofs
abbrev netC(d s z:Int)(P M:Value)(a b:Int):List Value:=[.int .u32 d,.int .i32 s,.int .u32 z,P,M,.int .i64 a,.int .i64 b]
abbrev Ey(p:Nat)(d s z:Int)(P M:Value)(a b:Int):Own:=.cells p (netC d s z P M a b) 42
end Go.Proofs.YtliacpkblicnhaaGreat
namespace Go.Proofs.YtliacpkblicnhaaGreat
open Go Go.Sx Go.Proofs
section
variable (p:Nat)(d s z:Int)(P M:Value)(a b:Int)
theorem X6:XW Tryz.prog 197 [] [] [] (λv G Q=>v=.tuple #[]/\G=[]/\Q=[]):=jo Tryz.func197 (by kernel_rfl) (by kernel_rfl) (by kernel_rfl) .disable (by kernel_rfl)
theorem bT:XW Tryz.prog 199 [] [] [] (λv G Q=>v=.tuple #[]/\G=[]/\Q=[]):=jo Tryz.func199 (by kernel_rfl) (by kernel_rfl) (by kernel_rfl) .enable (by kernel_rfl)
theorem sN(q:Addr):XW Tryz.prog 200 [.pointer (some q)] [] [] (λv G Q=>v=.tuple #[]/\G=[]/\Q=[]):=ZO Tryz.func200 (by kernel_rfl) (by kernel_rfl) (by kernel_rfl) .acquire (by kernel_rfl) q
theorem qB(q:Addr):XW Tryz.prog 202 [.pointer (some q)] [] [] (λv G Q=>v=.tuple #[]/\G=[]/\Q=[]):=ZO Tryz.func202 (by kernel_rfl) (by kernel_rfl) (by kernel_rfl) .releaseMerge (by kernel_rfl) q
theorem ldu_x:XW Tryz.prog 104 [.pointer (some ⟨p,0,none⟩)] [Ey p d s z P M a b] [] (λv G Q=>v=.int .u32 d/\G=[Ey p d s z P M a b]/\Q=[]):=YE Tryz.func104 (by kernel_rfl) (by kernel_rfl) (by kernel_rfl) .u32 (by kernel_rfl) rfl
theorem stu_x(y:Int):XW Tryz.prog 160 [.pointer (some ⟨p,0,none⟩),.int .u32 y] [Ey p d s z P M a b] [] (λv G Q=>v=.tuple #[]/\G=[Ey p y s z P M a b]/\Q=[]):=x_astore Tryz.func160 (by kernel_rfl) (by kernel_rfl) (by kernel_rfl) .u32 (by kernel_rfl) rfl
theorem cas_x:XW Tryz.prog 198 [.pointer (some ⟨p,1,none⟩),.int .i32 s,.int .i32 1] [Ey p d s z P M a b] [] (λv G Q=>v=.bool true/\G=[Ey p d 1 z P M a b]/\Q=[]):=x_cas Tryz.func198 (by kernel_rfl) (by kernel_rfl) (by kernel_rfl) .i32 (by kernel_rfl) rfl rfl
theorem add32_x:XW Tryz.prog 203 [.pointer (some ⟨p,1,none⟩),.int .i32 (-1)] [Ey p d 1 z P M a b] [] (λv G Q=>v=.int .i32 0/\G=[Ey p d 0 z P M a b]/\Q=[]) :=
 dU Tryz.func203 (by kernel_rfl) (by kernel_rfl) (by kernel_rfl) .i32 (by kernel_rfl) rfl (λw=>by simp[go_sem];rfl) rfl
theorem addS_x(ha:-4611686018427387904<=a/\a<=4611686018427387904):XW Tryz.prog 46 [.pointer (some ⟨p,5,none⟩),.int .i64 1] [Ey p d s z P M a b] [] (λv G Q=>v=.int .i64 (a+1)/\G=[Ey p d s z P M (a+1) b]/\Q=[]) :=
 dU Tryz.func46 (by kernel_rfl) (by kernel_rfl) (by kernel_rfl) .i64 (by kernel_rfl) rfl (λw=>by simp[Op.intArith,Fh (show -9223372036854775808<=a+1 by omega) (by omega)]) rfl
theorem addL_x(hb:-4611686018427387904<=b/\b<=4611686018427387904):XW Tryz.prog 46 [.pointer (some ⟨p,6,none⟩),.int .i64 1] [Ey p d s z P M a b] [] (λv G Q=>v=.int .i64 (b+1)/\G=[Ey p d s z P M a (b+1)]/\Q=[]) :=
 dU Tryz.func46 (by kernel_rfl) (by kernel_rfl) (by kernel_rfl) .i64 (by kernel_rfl) rfl (λw=>by simp[Op.intArith,Fh (show -9223372036854775808<=b+1 by omega) (by omega)]) rfl
theorem ldS_x:XW Tryz.prog 54 [.pointer (some ⟨p,5,none⟩)] [Ey p d s z P M a b] [] (λv G Q=>v=.int .i64 a/\G=[Ey p d s z P M a b]/\Q=[]):=YE Tryz.func54 (by kernel_rfl) (by kernel_rfl) (by kernel_rfl) .i64 (by kernel_rfl) rfl
theorem ldL_x:XW Tryz.prog 54 [.pointer (some ⟨p,6,none⟩)] [Ey p d s z P M a b] [] (λv G Q=>v=.int .i64 b/\G=[Ey p d s z P M a b]/\Q=[]):=YE Tryz.func54 (by kernel_rfl) (by kernel_rfl) (by kernel_rfl) .i64 (by kernel_rfl) rfl
theorem Sj(ha:-4611686018427387904<=a/\a<=4611686018427387904):Ct Tryz.prog 23 [.pointer (some ⟨p,5,none⟩),.int .i64 1] [Ey p d s z P M a b] [] (λv G Q=>v=.int .i64 (a+1)/\G=[Ey p d s z P M (a+1) b]/\Q=[]):=by
 refine Ct.intro Tryz.func23 rfl rfl rfl (λc hc=>?_)
 refine AP 1 ?_;refine AV 4 ?_;refine GL.step rfl (MX (P:=Tryz.prog) (f:=46) rfl rfl (is:=[0]) (js:=[]) rfl rfl (by exact addS_x _ _ _ _ _ _ _ _ ha)) (GL.ret ?_)
 rintro _ _ _ ⟨rfl,rfl,rfl⟩
 refine AL 1 ?_;refine GC.ret (AQ 4 [0] [] ?_)
 exact⟨rfl,rfl,rfl⟩
theorem ZE(hb:-4611686018427387904<=b/\b<=4611686018427387904):Ct Tryz.prog 23 [.pointer (some ⟨p,6,none⟩),.int .i64 1] [Ey p d s z P M a b] [] (λv G Q=>v=.int .i64 (b+1)/\G=[Ey p d s z P M a (b+1)]/\Q=[]):=by
 refine Ct.intro Tryz.func23 rfl rfl rfl (λc hc=>?_)
 refine AP 1 ?_;refine AV 4 ?_;refine GL.step rfl (MX (P:=Tryz.prog) (f:=46) rfl rfl (is:=[0]) (js:=[]) rfl rfl (by exact addL_x _ _ _ _ _ _ _ _ hb)) (GL.ret ?_)
 rintro _ _ _ ⟨rfl,rfl,rfl⟩
 refine AL 1 ?_;refine GC.ret (AQ 4 [0] [] ?_)
 exact⟨rfl,rfl,rfl⟩
theorem ldS_ct:Ct Tryz.prog 33 [.pointer (some ⟨p,5,none⟩)] [Ey p d s z P M a b] [] (λv G Q=>v=.int .i64 a/\G=[Ey p d s z P M a b]/\Q=[]):=by
 refine Ct.intro Tryz.func33 rfl rfl rfl (λc hc=>?_)
 refine AP 1 ?_;refine AV 3 ?_;refine GL.step rfl (MX (P:=Tryz.prog) (f:=54) rfl rfl (is:=[0]) (js:=[]) rfl rfl (by exact ldS_x _ _ _ _ _ _ _ _)) (GL.ret ?_)
 rintro _ _ _ ⟨rfl,rfl,rfl⟩
 refine AL 1 ?_;refine GC.ret (AQ 2 [0] [] ?_)
 exact⟨rfl,rfl,rfl⟩
theorem ldL_ct:Ct Tryz.prog 33 [.pointer (some ⟨p,6,none⟩)] [Ey p d s z P M a b] [] (λv G Q=>v=.int .i64 b/\G=[Ey p d s z P M a b]/\Q=[]):=by
 refine Ct.intro Tryz.func33 rfl rfl rfl (λc hc=>?_)
 refine AP 1 ?_;refine AV 3 ?_;refine GL.step rfl (MX (P:=Tryz.prog) (f:=54) rfl rfl (is:=[0]) (js:=[]) rfl rfl (by exact ldL_x _ _ _ _ _ _ _ _)) (GL.ret ?_)
 rintro _ _ _ ⟨rfl,rfl,rfl⟩
 refine AL 1 ?_;refine GC.ret (AQ 2 [0] [] ?_)
 exact⟨rfl,rfl,rfl⟩
theorem nX:Ct Tryz.prog 70 [.pointer (some ⟨p,0,none⟩)] [Ey p 0 s z P M a b] [] (λv G Q=>v=.bool false/\G=[Ey p 0 s z P M a b]/\Q=[]):=by
 refine Ct.intro Tryz.func70 rfl rfl rfl (λc hc=>?_)
 refine AP 1 ?_;refine AV 3 ?_;refine GL.step rfl (MX (P:=Tryz.prog) (f:=104) rfl rfl (is:=[0]) (js:=[]) rfl rfl (by exact ldu_x _ _ _ _ _ _ _ _)) (GL.ret ?_)
 rintro _ _ _ ⟨rfl,rfl,rfl⟩
 refine AL 2 ?_;refine GC.ret (AQ 2 [0] [] ?_)
 exact⟨by first|rfl|decide,rfl,rfl⟩
theorem bld1_ct:Ct Tryz.prog 70 [.pointer (some ⟨p,0,none⟩)] [Ey p 1 s z P M a b] [] (λv G Q=>v=.bool true/\G=[Ey p 1 s z P M a b]/\Q=[]):=by
 refine Ct.intro Tryz.func70 rfl rfl rfl (λc hc=>?_)
 refine AP 1 ?_;refine AV 3 ?_;refine GL.step rfl (MX (P:=Tryz.prog) (f:=104) rfl rfl (is:=[0]) (js:=[]) rfl rfl (by exact ldu_x _ _ _ _ _ _ _ _)) (GL.ret ?_)
 rintro _ _ _ ⟨rfl,rfl,rfl⟩
 refine AL 2 ?_;refine GC.ret (AQ 2 [0] [] ?_)
 exact⟨by first|rfl|decide,rfl,rfl⟩
theorem ilock_ct:Ct Tryz.prog 158 [.pointer (some ⟨p,1,none⟩)] [Ey p d 0 z P M a b] [] (λv G Q=>v=.tuple #[]/\G=[Ey p d 1 z P M a b]/\Q=[]):=by
 refine Ct.intro Tryz.func158 rfl rfl rfl (λc hc=>?_)
 refine AX ?_;refine GL.step rfl (MX (P:=Tryz.prog) (f:=197) rfl rfl (is:=[]) (js:=[]) rfl rfl (by exact X6)) (GL.ret ?_)
 rintro _ _ _ ⟨rfl,rfl,rfl⟩
 refine Ap ?_;refine AB ?_;refine AV 3 ?_;refine GL.step rfl (MX (P:=Tryz.prog) (f:=198) rfl rfl (is:=[0]) (js:=[]) rfl rfl (by exact cas_x p d 0 z P M a b)) (GL.ret ?_)
 rintro _ _ _ ⟨rfl,rfl,rfl⟩
 refine Ap ?_;refine AU rfl ?_;refine AB ?_;refine AU rfl ?_;refine AX ?_;refine GL.step rfl (MX (P:=Tryz.prog) (f:=199) rfl rfl (is:=[]) (js:=[]) rfl rfl (by exact bT)) (GL.ret ?_)
 rintro _ _ _ ⟨rfl,rfl,rfl⟩
 refine Ap ?_;refine GC.region ?_;refine AA 1 ?_;refine GL.step rfl (ZU (i:=0) rfl rfl rfl rfl Tryz.underlying277 Tryz.underlying281 (by kernel_rfl)) ?_;refine GL.step rfl (MX (P:=Tryz.prog) (f:=200) rfl rfl (is:=[]) (js:=[]) rfl rfl (by exact sN _)) (GL.ret ?_)
 rintro _ _ _ ⟨rfl,rfl,rfl⟩
 refine Ac (?_:GC _ _ _ _)
 refine GC.ret ?_
 refine λa w h=>Bz rfl (is:=[0]) (js:=[]) rfl rfl ?_ h
 clear h
 exact⟨rfl,rfl,rfl⟩
theorem lock_ct:Ct Tryz.prog 105 [.pointer (some ⟨p,1,none⟩)] [Ey p d 0 z P M a b] [] (λv G Q=>v=.tuple #[]/\G=[Ey p d 1 z P M a b]/\Q=[]):=by
 refine Ct.intro Tryz.func105 rfl rfl rfl (λc hc=>?_)
 refine GC.region ?_;refine AA 3 ?_;refine Ah Tryz.call158 [0] [] rfl rfl rfl (by exact ilock_ct _ _ _ _ _ _ _) ?_
 rintro _ _ _ ⟨rfl,rfl,rfl⟩
 refine Ac ?_
 refine λa w h=>Bz rfl (is:=[0]) (js:=[]) rfl rfl ?_ h
 clear h
 exact⟨rfl,rfl,rfl⟩
theorem iH:Ct Tryz.prog 159 [.pointer (some ⟨p,1,none⟩)] [Ey p d 1 z P M a b] [] (λv G Q=>v=.tuple #[]/\G=[Ey p d 0 z P M a b]/\Q=[]):=by
 refine Ct.intro Tryz.func159 rfl rfl rfl (λc hc=>?_)
 refine AB ?_;refine AU rfl ?_;refine AV 3 ?_;refine Ad 0 ?_;refine BL 1 ?_;refine GL.step rfl (ZU (i:=0) rfl rfl rfl rfl Tryz.underlying277 Tryz.underlying281 (by kernel_rfl)) ?_;refine GL.step rfl (MX (P:=Tryz.prog) (f:=202) rfl rfl (is:=[]) (js:=[]) rfl rfl (by exact qB _)) (GL.ret ?_)
 rintro _ _ _ ⟨rfl,rfl,rfl⟩
 refine Ap ?_;refine GC.region ?_;refine GL.step rfl (MX (P:=Tryz.prog) (f:=197) rfl rfl (is:=[]) (js:=[]) rfl rfl (by exact X6)) (GL.ret ?_)
 rintro _ _ _ ⟨rfl,rfl,rfl⟩
 refine Ac (?_:GC _ _ _ _)
 refine AV 3 ?_;refine GL.step rfl (MX (P:=Tryz.prog) (f:=203) rfl rfl (is:=[0]) (js:=[]) rfl rfl (by exact add32_x p d z P M a b)) (GL.ret ?_)
 rintro _ _ _ ⟨rfl,rfl,rfl⟩
 refine AL 1 ?_;refine AB ?_;refine AP 2 ?_;refine AY rfl ?_
 refine GC.skip (?_:GC _ _ _ _)
 refine GC.region ?_;refine GL.step rfl (MX (P:=Tryz.prog) (f:=199) rfl rfl (is:=[]) (js:=[]) rfl rfl (by exact bT)) (GL.ret ?_)
 rintro _ _ _ ⟨rfl,rfl,rfl⟩
 refine Ac ?_
 refine λa w h=>Bz rfl (is:=[0]) (js:=[]) rfl rfl ?_ h
 clear h
 exact⟨rfl,rfl,rfl⟩
theorem b32_ct:Ct Tryz.prog 161 [.bool true] [] [] (λv G Q=>v=.int .u32 1/\G=[]/\Q=[]):=by
 refine Ct.intro Tryz.func161 rfl rfl rfl (λc hc=>?_)
 refine AP 1 ?_;refine AB ?_;refine AP 1 ?_;refine AU rfl ?_;refine AP 1 ?_;refine GC.ret (AQ 2 [] [] ?_)
 exact⟨rfl,rfl,rfl⟩
end
end Go.Proofs.YtliacpkblicnhaaGreat
