/- Lemmas for the proof of the law; no condition. -/
import Derived.Test.YtahcfjokgnjinaaGreatDoorVcA
import Derived.Sort.Grow
import Derived.Lib.SlicesCompact
import Derived.Lib.RowBridge
set_option linter.unusedVariables false
set_option linter.unusedSimpArgs false
open Nat renaming min_eq_left -> w4
open Array renaming ext' -> yE, getElem?_eq_some_iff -> yM, getElem?_modify -> yl, range -> xj, toList_map -> vR
open List renaming filter_cons_of_pos -> vb, getElem?_cons_zero -> yA, getElem?_mapIdx -> vo, getElem?_take -> vf, range -> qA, replicate -> qh, set_comm -> vy, set_eq_take_append_cons_drop -> yc, take_zero -> vK, zipWith -> zi
open Go.Value renaming int -> xq
open Go.IntKind renaming bits -> qk, i64 -> xx, signed -> va, u32 -> xz, u64 -> xA, u8 -> xy, wrap -> qc
open Go.Builtin renaming append_ -> qt, clear_ -> yw, copy_ -> yq, firstCells -> wH, nextslicecap -> vn, zeroCells -> yz
open Go.Instr renaming alloc -> qL, box -> qM, buildSlice -> qq, fill -> wC, makeSlice -> qF, storeAt -> qf
open Int renaming fdiv -> qX, fdiv_eq_ediv_of_nonneg -> yP, tmod -> wk
open Option renaming some -> zR
open UInt8 renaming lt_iff_toNat_lt -> zY, ofNat -> yK
open Prod renaming fst -> qI
open BitVec renaming ofInt -> qD, ofNat_toNat -> vD, setWidth_eq -> vE
set_option maxRecDepth 100000
open Option renaming some -> dB, none -> eH
open Bool renaming true -> eR, false -> eS
open Go renaming Value -> eX, Addr -> f7
open Go.Vc renaming cellOf -> f8, Heap -> f9
open List renaming length -> i1
namespace Go.Vc
open Go
section
variable {A B:Prop}
theorem aj{p:Prop}[Decidable p](b:p->A)(a:¬p->B):Br (decide p) A B:=by
 by_cases h:p
 ·rw[hU h];exact b h
 ·rw[ii h];exact a h
theorem ck{a b:Int}(d:a=b->A)(c:a≠b->B):Br (a==b) A B:=by
 by_cases h:a=b
 ·rw[beq_iff_eq.2 h];exact d h
 ·rw[beq_eq_false_iff_ne.2 h];exact c h
theorem bY{a b:Int}(d:a≠b->A)(c:a=b->B):Br (a !=b) A B:=by
 by_cases h:a=b
 ·rw[show(a !=b)=eS by simp[h]];exact c h
 ·rw[show(a !=b)=eR by simp[h]];exact d h
theorem bx{b:Bool}(c:b=eR->A)(a:b=eS->B):Br b A B:=by
 cases b
 ·exact a i4
 ·exact c i4
theorem bo{b:Bool}(c:b=eS->A)(a:b=eR->B):Br (!b) A B:=by
 cases b
 ·exact c i4
 ·exact a i4
theorem Hd{b:Bool}(h:b=eR)(a:A):Br b A B:=by subst h;exact a
theorem Ak{b:Bool}(h:b=eS)(a:B):Br b A B:=by subst h;exact a
end
theorem bi{σ:Type}{rest:σ->f9->Prop}{B:(σ->f9->Prop)->Prop}(h:B rest):bg rest B:=⟨rest,λ_ _ x=>x,h⟩
theorem bP{σ:Type}{rest:σ->f9->Prop}{B:(σ->f9->Prop)->Prop}(R:σ->f9->Prop)(b:B R)(a:∀s h,R s h->rest s h):bg rest B:=⟨R,a,b⟩
theorem aA{σ:Type}{B:σ->(σ->f9->Prop)->f9->Prop}{s:σ}{h:f9}{τ:Type}(V:τ->σ)(I:τ->f9->Prop)(μ:τ->Nat)(t0:τ)(e:s=V t0)(c:I t0 h)
  (b:∀t h,I t h->B (V t) (λd h'=>∃a,d=V a/\I a h'/\μ a<μ t) h):aL B s h:=⟨τ,V,I,μ,t0,e,c,b⟩
abbrev aC:=Nat->Prop
def bc(p:aC)(h h':f9):Prop:=h.size<=h'.size/\∀b,b<h.size->p b->h'[b]?=h[b]?
def Sl.on(s:Sl)(b:Nat):Prop:=∃o,s.ptr=dB ⟨b,o,eH⟩
section
variable {p q:aC} {h h' h'':f9}
theorem bc.refl(p:aC)(h:f9):bc p h h:=⟨qm _,λ_ _ _=>rfl⟩
theorem bc.trans(a:bc p h h')(b:bc p h' h''):bc p h h'':=⟨zd a.1 b.1,λk c d=>(b.2 k (qR c a.1) d).trans (a.2 k c d)⟩
theorem bc.then(a:bc p h h')(b:bc q h' h'')(e:∀k,k<h.size->p k->q k):bc p h h'':=⟨zd a.1 b.1,λk c d=>(b.2 k (qR c a.1) (e k c d)).trans (a.2 k c d)⟩
theorem bc.mono(a:bc p h h')(d:∀b,b<h.size->q b->p b):bc q h h':=⟨a.1,λk c e=>a.2 k c (d k c e)⟩
theorem bc.push(p:aC)(h:f9)(o:Obj):bc p h (h.push o):=⟨jj,λb a _=>by rw[Array.getElem?_push,g9 i5]⟩
theorem wn{a:f7}{v:eX}(b:f8 h a=dB v):a.block<h.size:=by
 unfold f8 at b;cases hb:h[a.block]? with
 |none=>rw[hb]at b;cases b
 |some o=>exact(yM.1 hb).1
theorem lt_of_block{b:Nat}{o:Obj}(a:h[b]?=dB o):b<h.size:=(yM.1 a).1
theorem bc.cell(a:bc p h h'){x:f7}{v:eX}(c:p x.block)(b:f8 h x=dB v):f8 h' x=dB v:=by have:=a.2 _ (wn b) c;unfold f8 at*;rw[this];exact b
theorem bc.block(a:bc p h h'){b:Nat}{o:Obj}(d:p b)(c:h[b]?=dB o):h'[b]?=dB o:=by rw[a.2 b (lt_of_block c) d];exact c
theorem bc.cells(a:bc p h h'){x:f7}(b:p x.block):∀{vs:bh} {i:Nat},aq h x i vs->aq h' x i vs
 |[],_,_=>trivial
 |v::r,i,hc=>⟨a.cell (by unfold Addr.add;split<;>exact b) hc.1,bc.cells a b hc.2⟩
end
theorem add_eq(b o n:Nat):(⟨b,o,eH⟩:f7).add n=⟨b,o+n,eH⟩:=by
 unfold Addr.add;split
 ·rename_i h;subst h;rfl
 ·rfl
theorem add_zero(a:f7):a.add 0=a:=rfl
theorem Ew{h:f9}{b o:Nat}{c:Array eX}{e:TypeId}{f:Nat×Nat}(a:h[b]?=dB (.cells c e f)):f8 h ⟨b,o,eH⟩=c[o]?:=by unfold f8;rw[a];rfl
theorem aeq{h:f9}{b o:Nat}{c:Array eX}{e:TypeId}(a:h[b]?=dB (.cells c e (0,0))):YC h ⟨b,o,eH⟩=eS:=by unfold YC;rw[a];simp
structure Seq {α:Type} (h:f9) (p:aC) (s:Sl) (k:Nat) (f:α->bh) (l:List α):Prop where
 len:s.len=i1 l
 elem:∀i x,l[i]?=dB x->∃b o,s.ptr=dB ⟨b,o,eH⟩/\p b/\aq h ⟨b,o+i*k,eH⟩ 0 (f x)
section
variable {α:Type} {h h':f9} {p q:aC} {s:Sl} {k:Nat} {f:α->bh} {l:List α}
theorem Seq.ai(c:Seq h p s k f l)(g:bc p h h'):Seq h' p s k f l:=⟨c.len,λi x d=>by
 obtain⟨b,o,e,a,h3⟩:=c.elem i x d;exact⟨b,o,e,a,g.cells a h3⟩⟩
theorem Seq.mono(a:Seq h p s k f l)(g:∀b,p b->q b):Seq h q s k f l:=⟨a.len,λi x d=>by
 obtain⟨b,o,e,c,h3⟩:=a.elem i x d;exact⟨b,o,e,g b c,h3⟩⟩
theorem Seq.nil(h:f9)(p:aC)(c:Nat)(b:aM)(k:Nat)(f:α->bh):Seq h p ⟨b,0,c⟩ k f []:=⟨i4,λi x a=>by simp at a⟩
theorem Seq.bG{X:Type}{g:X->eX}(c:Seq h p s 1 f l){i:Int}(n:Nat)(j:i=n)(e:n<i1 l)(x:X)(d:f l[n]=[g x]){K:X->Prop}(k:K x):
  ∃a:f7,(s.ptr=dB a/\0<=i/\i<((s.len:Nat):Int))/\∃x:X,f8 h (a.add (i.toNat*1))=dB (g x)/\K x:=by
 subst j;obtain⟨b,o,m,_,h3⟩:=c.elem n l[n] (qd e);refine⟨_,⟨m,i5,o5⟩,x,?_,k⟩;rw[d]at h3;have:=h3.1;rw[add_eq,wN]at this;rw[add_eq];simpa using this
theorem Seq.eC{X:Type}{g:X->bh}(c:Seq h p s k f l){i:Int}(n:Nat)(j:i=n)(e:n<i1 l)(x:X)(d:f l[n]=g x){K:X->Prop}(m:K x):
  ∃a:f7,(s.ptr=dB a/\0<=i/\i<((s.len:Nat):Int))/\∃x:X,aq h (a.add (i.toNat*k)) 0 (g x)/\K x:=by
 subst j;obtain⟨b,o,q,_,h3⟩:=c.elem n l[n] (qd e);refine⟨_,⟨q,i5,o5⟩,x,?_,m⟩;rw[add_eq];rw[d]at h3;simpa using h3
end
def av(n:Int):bh:=[xq xx n]
def aF(n:UInt8):bh:=[xq xy n.toNat]
def fh(b:Bool):bh:=[.bool b]
def bv(s:Sl):bh:=[.slice s.ptr s.len s.cap]
structure ia {α:Type} (h:f9) (p:aC) (s:Sl) (k:Nat) (f:α->bh) (ll:List (List α)) (rs:List Sl):Prop where
 top:Seq h p s 1 bv rs
 len:i1 rs=i1 ll
 row:∀(i:Nat) (r:Sl) (l:List α),rs[i]?=dB r->ll[i]?=dB l->Seq h p r k f l
section
variable {α:Type} {h h':f9} {p q:aC} {s:Sl} {k:Nat} {f:α->bh} {ll:List (List α)} {rs:List Sl}
theorem ia.ai(a:ia h p s k f ll rs)(b:bc p h h'):ia h' p s k f ll rs:=⟨a.top.ai b,a.len,λi r l d c=>(a.row i r l d c).ai b⟩
theorem ia.mono(a:ia h p s k f ll rs)(c:∀b,p b->q b):ia h q s k f ll rs:=⟨a.top.mono c,a.len,λi r l e d=>(a.row i r l e d).mono c⟩
theorem ia.Te(a:ia h p s k f ll rs):s.len=i1 ll:=by rw[a.top.len,a.len]
theorem ia.get(c:ia h p s k f ll rs){i:Int}(n:Nat)(g:i=n)(d:n<i1 ll){K:Sl->Prop}(j:∀r,Seq h p r k f ll[n]->rs[n]?=dB r->K r):
  ∃a:f7,(s.ptr=dB a/\0<=i/\i<((s.len:Nat):Int))/\∃x:Sl,f8 h (a.add (i.toNat*1))=dB (.slice x.ptr x.len x.cap)/\K x:=by
 have b:n<i1 rs:=by rw[c.len];exact d
 have e:rs[n]?=dB rs[n]:=qd b;exact c.top.bG n g b rs[n] i4 (j _ (c.row n _ _ e (qd d)) e)
end
structure Own {α:Type} (h:f9) (e:TypeId) (s:Sl) (k:Nat) (f:α->bh) (l:List α):Prop where
 len:s.len=i1 l
 head:(s.ptr=eH/\s.cap=0/\l=[])∨∃b rest,s.ptr=dB ⟨b,0,eH⟩/\h[b]?=dB (.cells (l.flatMap f++rest).toArray e (0,0))/\rest.length=(s.cap-s.len)*k/\s.len<=s.cap
theorem dK{α:Type}{k:Nat}{f:α->bh}(a:∀x,i1 (f x)=k):∀(l:List α),i1 (l.flatMap f)=i1 l*k
 |[]=>jj
 |x::r=>by rw[zk,qx,a,dK a r,zn,zT];omega
theorem Le{α:Type}{k:Nat}{f:α->bh}(a:∀x,i1 (f x)=k):∀(l:List α) (i:Nat) (x:α),l[i]?=dB x->∃pre post,l.flatMap f=pre++f x++post/\pre.length=i*k
 |y::r,0,x,h=>by simp at h;subst h;exact⟨[],r.flatMap f,jj,jj⟩
 |y::r,i+1,x,h=>by
  obtain⟨pre,post,c,b⟩:=Le a r i x j6;exact⟨f y++pre,post,o1,by rw[qx,a,b,zT];omega⟩
theorem CG{h:f9}{b o:Nat}{e:TypeId}{fr:Nat×Nat}:∀{vs pre post:bh} {i:Nat},h[b]?=dB (.cells (pre++vs++post).toArray e fr)->i1 pre=o+i->aq h ⟨b,o,eH⟩ i vs
 |[],_,_,_,_,_=>trivial
 |v::r,pre,post,i,hb,hl=>by
  refine⟨?_,CG (pre:=pre++[v]) (post:=post) (by simpa using hb) i9⟩;rw[add_eq,Ew hb,<-hl];simp
def ki(h:f9)(b:Nat)(o:Obj):f9:=h.setIfInBounds b o
theorem iS{h:f9}{b c:Nat}{o x:Obj}(a:h[b]?=dB x):(ki h b o)[c]?=if b=c then dB o else h[c]?:=by
 unfold ki;rw[Array.getElem?_setIfInBounds];split
 ·rename_i e;subst e;rw[g0 (lt_of_block a)]
 ·rfl
theorem abb{h:f9}{b o:Nat}{c:Array eX}{e:TypeId}{f:Nat×Nat}{v:eX}(a:h[b]?=dB (.cells c e f)):YD h ⟨b,o,eH⟩ v=ki h b (.cells (c.setIfInBounds o v) e f):=by
 apply yN;intro i;rw[iS a];simp only[YD,yl];split
 ·rename_i d;subst d;rw[a];rfl
 ·rfl
theorem abc(h:f9)(b:Nat)(o a:Obj):ki (ki h b o) b a=ki h b a:=by unfold ki;simp
theorem bc.ki{p:aC}{h:f9}{b:Nat}{o x:Obj}(a:h[b]?=dB x)(f:¬p b):bc p h (ki h b o):=⟨by simp[Go.Vc.ki],λc _ d=>by
 rw[iS a,g9 λe=>f (by rw[e];exact d)]⟩
theorem fC{P:Program}{b o:Nat}{e:TypeId}{K:Unit->f9->Prop}:∀{vs pre old post:bh} {i:Nat} {h:f9},h[b]?=dB (.cells (pre++old++post).toArray e (0,0))->i1 old=i1 vs->i1 pre=o+i->
  (∀v∈vs,v.oneCell'=eR)->K () (ki h b (.cells (pre++vs++post).toArray e (0,0)))->ag P (storeCells ⟨b,o,eH⟩ vs i) h K
 |[],pre,old,post,i,h,hb,hl,hp,hv,hk=>by
  have:old=[]:=za (by simpa using hl);subst this;refine ag.pure' ?_;have g:ki h b (.cells (pre++[]++post).toArray e (0,0))=h:=by
   apply yN;intro c;rw[iS hb];split
   ·rename_i d;subst d;exact hb.symm
   ·rfl
  rw[g]at hk;exact hk
 |v::r,pre,old,post,i,h,hb,hl,hp,hv,hk=>by
  cases old with
  |nil=>simp at hl
  |cons u old=>
   simp only[storeCells];refine ag.bind ?_;rw[add_eq];have d:f8 h ⟨b,o+i,eH⟩=dB u:=by rw[Ew hb,<-hp];simp
   refine ag.aip (hv v jj) d (aeq hb) ?_;rw[abb hb];have a:(pre++(u::old)++post).toArray.setIfInBounds (o+i) v=((pre++[v])++old++post).toArray:=by rw[<-hp];apply yE;simp
   rw[a];refine fC (e:=e) (pre:=pre++[v]) (old:=old) (post:=post) ?_ (by simpa using hl) i9 (λx f=>hv x n3) ?_
   ·rw[iS hb,g0 rfl]
   ·rw[abc];simpa using hk
theorem OU{P:Program}{h:f9}{a:f7}{vs:bh}{n:Nat}{K:Array eX->f9->Prop}(c:i1 vs=n)(e:aq h a 0 vs)(d:K vs.toArray h):ag P (loadCells a n) h K:=λw b=>by
 subst b;refine⟨vs.toArray,w,?_,dC.refl w,d⟩;have:=run_loadCells (P:=P) (w:=w) (a:=a) vs 0 #[] e;rw[c]at this;unfold loadCells;rw[this];simp
section
variable {α:Type} {h h':f9} {p:aC} {e:TypeId} {s:Sl} {k:Nat} {f:α->bh} {l:List α}
theorem Own.lt(c:Own h e s k f l){b:Nat}(a:s.on b):b<h.size:=by
 rcases c.head with⟨h1,_,_⟩|⟨b',rest,h1,h2,_,_⟩
 ·obtain⟨o,h0⟩:=a;rw[h1]at h0;cases h0
 ·obtain⟨o,h0⟩:=a;rw[h1]at h0;cases h0;exact lt_of_block h2
theorem Own.ai(c:Own h e s k f l)(d:bc p h h')(a:∀b,s.on b->p b):Own h' e s k f l:=⟨c.len,by
 rcases c.head with h1|⟨b,rest,h1,h2,h3,h4⟩
 ·exact .inl h1
 ·exact .inr ⟨b,rest,h1,d.block (a b ⟨0,h1⟩) h2,h3,h4⟩⟩
theorem Own.seq(d:Own h e s k f l)(g:∀x,i1 (f x)=k)(a:∀b,s.on b->p b):Seq h p s k f l:=⟨d.len,λi x c=>by
 rcases d.head with⟨_,_,h1⟩|⟨b,rest,h1,h2,h3,h4⟩
 ·subst h1;simp at c
 ·obtain⟨pre,post,j,m⟩:=Le g l i x c;refine⟨b,0,h1,a b ⟨0,h1⟩,CG (e:=e) (fr:=(0,0)) (pre:=pre) (post:=post++rest) ?_ i5⟩;rw[h2,j];simp⟩
theorem Own.nil(h:f9)(e:TypeId)(k:Nat)(f:α->bh):Own h e ⟨eH,0,0⟩ k f []:=⟨i4,.inl ⟨i4,i4,i4⟩⟩
theorem Own.cap(a:Own h e s k f l):s.len<=s.cap:=by
 rcases a.head with⟨h1,h2,h3⟩|⟨b,rest,h1,h2,h3,h4⟩
 ·have:=a.len;rw[h3]at this;simp at this;omega
 ·exact h4
end
theorem ag.always{α:Type}{P:Program}{s:Sem α}{v:α}{h:f9}{K:α->f9->Prop}(c:aP P s v)(b:K v h):ag P s h K:=λw a=>⟨v,w,c w,dC.refl w,by rw[a];exact b⟩
structure bZ (C:Dr) (t e k:Nat) (z:bh) (by_:Nat):Prop where
 ex:∃i j,C.T.get t=dB i/\i.cX=.slice e/\C.T.get e=dB j/\j.size=k/\j.zero=z/\j.bytes=by_
section
variable {C:Ctx} {t e k:Nat} {z:bh} {by_:Nat}
theorem bZ.under(b:bZ C.toDr t e k z by_)(d:C.Ok):C.P.underlying t=dB (.slice e):=by obtain⟨i,j,c,a,_⟩:=b.ex;have:=d.cX c;rw[a]at this;exact jQ this
theorem bZ.size(b:bZ C.toDr t e k z by_)(d:C.Ok):aP C.P (sizeOf e) k:=by obtain⟨i,j,_,_,c,a,_⟩:=b.ex;rw[<-a];exact dZ d.toOk c
theorem bZ.info(g:bZ C.toDr t e k z by_)(m:C.Ok):∃f,C.P.info? e=dB f/\f.size=k/\f.bytes=by_/\∃a,f.zero=dB a/\a.cells=z.toArray:=by obtain⟨i,j,_,_,p,c,h3,n⟩:=g.ex;obtain⟨f,o,l,h,a,b,d⟩:=m.info p;exact⟨f,o,l.trans c,h.trans n,a,b,by apply yE;rw[d,h3]⟩
end
def jf(z:bh):Nat->bh
 |0=>[]
 |n+1=>z++jf z n
theorem ph(z:bh):∀n,i1 (jf z n)=n*i1 z
 |0=>by simp[jf]
 |n+1=>by rw[jf,qx,ph z n,zT];omega
theorem Tf(z:bh):∀(n i:Nat),i<n*i1 z->(jf z n)[i]?=z[i%i1 z]?
 |0,i,h=>m9
 |n+1,i,h=>by
  have a:0<i1 z:=Nat.pos_of_ne_zero λe=>by rw[e]at h;simp at h
  rw[jf];by_cases b:i<i1 z
  ·rw[qo b,Nat.mod_eq_of_lt b]
  ·rw[qj i5,Tf z n (i-i1 z) (by rw[zT]at h;omega)];congr 1
   conv=>rhs;rw[show i=(i-i1 z)+i1 z by omega,Nat.add_mod_right]
theorem Tg(z:bh)(n m:Nat)(c:m=n*i1 z):((xj m).map λi=>z.toArray[i%z.toArray.size]!)=(jf z n).toArray:=by
 apply yN;intro i;subst c;simp only[Array.getElem?_map,Array.getElem?_range,zX];by_cases b:i<n*i1 z
 ·rw[Tf z n i b];have a:0<i1 z:=Nat.pos_of_ne_zero λe=>by rw[e]at b;simp at b
  have:=vm i a;simp[b,this]
 ·rw[qS (by rw[ph];omega)];simp[b]
theorem He(z:bh)(n:Nat):yz z.toArray n=(jf z n).toArray:=Tg z n _ jj
theorem XP(a:Nat):∀(r c:Nat),Builtin.growBy a r c<=(c+768)*2^r
 |0,c=>by simp[Builtin.growBy]
 |r+1,c=>by
  unfold Builtin.growBy;split
  ·exact zd (Nat.le_add_right c 768) (Nat.le_mul_of_pos_right _ (Nat.two_pow_pos _))
  ·refine zd (XP a r _) ?_;rw[Nat.pow_succ,Nat.mul_comm (2^r) 2,<-Nat.mul_assoc];exact zK _ i5
theorem ajU(o n:Nat)(h:o<n):(o+768)*2^4<=16*n+16*768:=i5
theorem XQ(a b:Nat)(h:b<a:=by omega):vn a b<=16*a+16*768:=by
 unfold vn;split
 ·omega
 ·split
  ·omega
  ·exact zd (XP a 4 b) (ajU _ _ h)
section
variable {C:Ctx} {t t2 e k:Nat} {z:bh} {by_:Nat} {α:Type} {h:f9} {p:aC} {s v:Sl} {f:α->bh} {l l2:List α}
theorem gP{P:Program}{K:Array eX->f9->Prop}(q:∀x,i1 (f x)=k)(g:Seq h p v k f l)(w:K (l.flatMap f).toArray h):
  ag P (wH k v.len (.slice v.ptr v.len v.cap)) h K:=by
 cases hp:v.ptr with
 |none=>
  have:l=[]:=by
   cases l with
   |nil=>rfl
   |cons x r=>obtain⟨b,o,c,_⟩:=g.elem 0 x jj;rw[hp]at c;cases c
  subst this;exact ag.pure' w
 |some a=>
  refine OU (by rw[dK q,<-g.len]) ?_ w;cases l with
  |nil=>trivial
  |cons t r0=>
   obtain⟨b,o,c,_,_⟩:=g.elem 0 t jj;rw[hp]at c;cases c;have j:∀(r:List α) (n:Nat),(∀i x,r[i]?=dB x->aq h ⟨b,o+(n+i)*k,eH⟩ 0 (f x))->aq h ⟨b,o,eH⟩ (n*k) (r.flatMap f):=by
    intro r
    induction r with
    |nil=>intro n _;trivial
    |cons x r ih=>
     intro n s;have h0:=s 0 x jj;have e:=ih (n+1) (λi y z=>by have:=s (i+1) y (by simpa using z);rw[show n+1+i=n+(i+1)by omega];exact this);rw[zk];have app:∀(us vs:bh) (i:Nat),aq h ⟨b,o,eH⟩ i us->aq h ⟨b,o,eH⟩ (i+i1 us) vs->aq h ⟨b,o,eH⟩ i (us++vs):=by
      intro us
      induction us with
      |nil=>intro vs i _ e;simpa using e
      |cons u us ih=>intro vs i c e;exact⟨c.1,ih vs (i+1) c.2 (by rw[show i+1+i1 us=i+(i1 us+1)by omega];exact e)⟩
     refine app _ _ _ ?_ (by rw[q,<-zT];exact e);have d:∀(us:bh) (i m:Nat),aq h ⟨b,o+m,eH⟩ i us->aq h ⟨b,o,eH⟩ (m+i) us:=by
      intro us
      induction us with
      |nil=>intros;trivial
      |cons u us ih=>
       intro i m c;refine⟨?_,ih (i+1) m c.2⟩;have:=c.1;rw[add_eq]at this⊢;rw[<-wX];exact this
     have:=d (f x) 0 ((n+0)*k) h0;simpa using this
   have:=j (t::r0) 0 (λi x A=>by
    obtain⟨B,D,c,_,h3⟩:=g.elem i x A;rw[hp]at c;cases c;simpa using h3)
   simpa using this
theorem YM(y:C.Ok)(J:bZ C.toDr t e k z by_)(h2:∃i e2,C.T.get t2=dB i/\i.cX=.slice e2)(hz:i1 z=k)(L:0<by_/\by_<=128)(m:∀x,i1 (f x)=k)
  (A:Own h e s k f l) (O:Seq h p v k f l2) (q:∀x,∀c∈f x,c.oneCell'=eR) (ab:i1 l+i1 l2<=2^32) {ty:Nat} {K:Sl->f9->Prop}
  (Q:∀B h',Own h' e B k f (l++l2)->bc (λb=>¬s.on b) h h'->(∀b,B.on b->s.on b∨h.size<=b)->K B h'):
  aB C.P (qt #[t,t2] ty #[.slice s.ptr s.len s.cap,.slice v.ptr v.len v.cap]) (.one (.sc .slc)) h K:=by
 obtain⟨i2,e2,V,X⟩:=h2;have D:C.P.underlying t2=dB (.slice e2):=by have:=y.cX V;rw[X]at this;exact jQ this
 obtain⟨M,w,x2,x3,zv,U,x5⟩:=J.info y;unfold aB qt;simp only[zX,yA,qw];refine ag.bind (ag.always (aW (J.under y)) ?_);refine ag.bind (ag.always (J.size y) ?_);refine ag.bind (ag.always (aW D) ?_);refine ag.bind (ag.pure' ?_);simp only[zj,if_false,ye,if_true];refine ag.bind (ag.pure' ?_);have r:=A.len;have E:=O.len;by_cases d:s.len+v.len<=s.cap
 ·rw[g0 d];refine ag.bind (gP m O ?_);rcases A.head with⟨p1,p2,p3⟩|⟨b,rest,p1,p2,p3,p4⟩
  ·rw[p1];have I:l2=[]:=za i5;subst I;refine ag.pure' ⟨⟨eH,s.len+v.len,s.cap⟩,i4,Q _ _ ⟨?_,.inl ⟨i4,p2,by simp[p3]⟩⟩ (bc.refl _ _) ?_⟩
   ·simp;omega
   ·rintro R ⟨o,g⟩;cases g
  ·rw[p1];refine ag.bind ?_;rw[add_eq,wo];have j:=dK m l;have a:=dK m l2;have F:i1 (l2.flatMap f)<=i1 rest:=by rw[a,p3];exact zK k i5
   refine fC (e:=e) (pre:=l.flatMap f) (old:=rest.take (l2.flatMap f).length) (post:=rest.drop (l2.flatMap f).length) ?_ ?_ ?_ ?_ ?_
   ·rw[qp,qE];exact p2
   ·rw[qY];exact w4 F
   ·rw[j,r];omega
   ·intro c W;obtain⟨x,_,N⟩:=zU.1 W;exact q x c N
   ·refine ag.pure' ⟨⟨dB ⟨b,0,eH⟩,s.len+v.len,s.cap⟩,i4,Q _ _ ⟨?_,.inr ⟨b,rest.drop (l2.flatMap f).length,i4,?_,?_,d⟩⟩ ?_ ?_⟩
    ·simp;omega
    ·rw[iS p2,g0 rfl];simp
    ·rw[ze,p3,a,<-Nat.sub_mul];show(s.cap-s.len-i1 l2)*k=(s.cap-(s.len+v.len))*k;congr 1;omega
    ·exact bc.ki p2 (λhn=>hn ⟨0,p1⟩)
    ·rintro R ⟨o,g⟩;cases g;exact .inl ⟨0,p1⟩
 ·rw[g9 d];have n:Seq h (λ_=>True) s k f l:=A.seq m λ_ _=>trivial;have S:=A.cap;refine ag.bind (ag.always (dt w) ?_);rw[g9 λhh=>by rcases hh.2 with h|h<;>first|exact h|(rw[x3]at h;omega)];refine ag.bind (ag.always (dt w) ?_);have Y:=XQ (s.len+v.len) s.cap;rw[g9 (by
   have:vn (s.len+v.len) s.cap*M.bytes<=(16*2^32+16*768)*128:=wv i5 (by rw[x3];exact L.2);omega)]
  refine ag.bind (ag.OQ ⟨λhf=>(by cases hf),λ_ Z=>?_⟩);refine ag.bind (ag.always (dt w) ?_);refine ag.bind (ag.KZ ?_);refine ag.bind (gP m n ?_);refine ag.bind (gP m O ?_);have G:aP C.P (zeroValue e) zv:=(dt w).bind (by rw[U];exact .pure);refine ag.bind (ag.always G ?_);rw[x5,He];unfold newRow;refine ag.bind (ag.bind (ag.sQ (ag.pure' (ag.pure' ?_))));generalize H:Question.cut (Question.appendCap (s.len+v.len) s.cap e) Z=cc;have u:s.len+v.len<=cc:=by rw[<-H];simp only[Question.cut];omega
  refine⟨⟨dB ⟨h.size,0,eH⟩,s.len+v.len,cc⟩,i4,Q _ _ ⟨?_,.inr ⟨h.size,jf z (cc-(s.len+v.len)),i4,?_,?_,u⟩⟩ (bc.push _ _ _) ?_⟩
  ·simp;omega
  ·simp
  ·rw[ph,hz]
  ·rintro R ⟨o,g⟩;cases g;exact .inr (qm _)
end
structure cx (h:f9) (a:f7) (e:TypeId) (cs:bh):Prop where
 off:a.off=0
 spot:a.spot=eH
 fY:h[a.block]?=dB (.cells cs.toArray e (0,0))
section
variable {h h':f9} {a:f7} {e:TypeId} {cs:bh} {p:aC}
theorem cx.addr(c:cx h a e cs):a=⟨a.block,0,eH⟩:=by
 obtain⟨b,o,s⟩:=a;have:=c.off;have:=c.spot
 simp_all
theorem cx.ai(b:cx h a e cs)(c:bc p h h')(d:p a.block):cx h' a e cs:=⟨b.off,b.spot,c.block d b.fY⟩
theorem cx.lt(b:cx h a e cs):a.block<h.size:=lt_of_block b.fY
theorem cx.cell(b:cx h a e cs){j:Nat}{v:eX}(c:cs[j]?=dB v):f8 h (a.add j)=dB v:=by rw[b.addr,add_eq,Ew b.fY];simpa using c
theorem cx.cell0(b:cx h a e cs){v:eX}(c:cs[0]?=dB v):f8 h a=dB v:=b.cell (j:=0) c
theorem cx.cells(c:cx h a e cs)(j:Nat)(vs:bh)(d:(cs.drop j).take vs.length=vs):aq h (a.add j) 0 vs:=by
 rw[c.addr,add_eq,wo];have b:i1 vs<=i1 (cs.drop j):=by have:=congrArg List.length d;rw[qY]at this;omega
 rcases Nat.lt_or_ge cs.length j with hj|hj
 ·rw[ze]at b;have:vs=[]:=za i5;subst this;trivial
 ·refine CG (e:=e) (fr:=(0,0)) (pre:=cs.take j) (post:=(cs.drop j).drop vs.length) ?_ i9;have:cs.take j++vs++(cs.drop j).drop vs.length=cs:=by
   conv=>lhs;rw[qp];arg 2;arg 1;rw[<-d]
   rw[qE,qE]
  rw[this];exact c.fY
theorem cx.aV(b:cx h a e cs)(vs:bh)(c:cs.take vs.length=vs):aq h a 0 vs:=b.cells 0 vs c
end
section
variable {C:Ctx} {t:Nat} {i:TI} {h:f9}
theorem BN(f:C.Ok)(c:C.T.get t=dB i){K:f7->f9->Prop}(d:∀a h',a.block=h.size->cx h' a t i.zero->bc (λ_=>True) h h'->h'.size=h.size+1->K a h'):
  aT C.P (qL t eR (.tuple #[])) h K:=by
 obtain⟨z,e,b⟩:=tJ f.toOk c;unfold aT qL;refine ag.bind (ag.always e ?_);refine ag.bind (ag.bind (ag.bind (ag.sQ (ag.pure' (ag.pure' (ag.pure' ?_))))));refine⟨⟨h.size,0,eH⟩,i4,d _ _ i4 ⟨i4,i4,?_⟩ (bc.push _ _ _) jj⟩;rw[<-b];simp
theorem XR{v:eX}{P:Program}{K:f7->f9->Prop}(b:∀a h',a.block=h.size->cx h' a t v.cells.toList->bc (λ_=>True) h h'->h'.size=h.size+1->K a h'):
  aT P (qM t v) h K:=by
 unfold aT qM;refine ag.bind (ag.bind (ag.bind (ag.sQ (ag.pure' (ag.pure' (ag.pure' ?_))))));refine⟨⟨h.size,0,eH⟩,i4,b _ _ i4 ⟨i4,i4,?_⟩ (bc.push _ _ _) jj⟩;simp
theorem run_store(k:C.Ok){a:f7}{e:TypeId}{b:bh}(c:cx h a e b)(j:C.T.get t=dB i)(off:Nat){v:eX}(vs:bh)(l:v.cells=vs.toArray)(f:i.size=i1 vs)
  (d:vs.all (·.oneCell')=eR) (g:off+i1 vs<=i1 b) {K:Unit->f9->Prop}
  (n:∀h',cx h' a e (b.take off++vs++b.drop (off+i1 vs))->bc (·≠a.block) h h'->h'.size=h.size->K () h'):
  ag C.P (qf t (.pointer (dB (a.add off))) v) h K:=by
 have o:=c.addr;unfold qf;refine ag.bind (ag.pure' ?_);unfold storeVar;refine ag.bind (ag.always (dZ k.toOk j) ?_);rw[l,f];simp only[yf,ne_eq,not_true,if_false];rw[o,add_eq,wo];refine fC (e:=e) (pre:=b.take off) (old:=(b.drop off).take vs.length) (post:=b.drop (off+i1 vs)) ?_ ?_ ?_ ?_ ?_
 ·have:b.take off++(b.drop off).take vs.length++b.drop (off+i1 vs)=b:=by rw[<-zH,qp,qE,qE]
  rw[this];exact c.fY
 ·simp;omega
 ·simp;omega
 ·intro x m;have:=qZ.1 d x m;exact this
 ·refine n _ ⟨c.off,c.spot,?_⟩ (bc.ki c.fY jj) (by simp[ki]);rw[iS c.fY,g0 rfl]
theorem Ex(m:C.Ok){a:f7}{e:TypeId}{c:bh}(g:cx h a e c)(j:C.T.get t=dB i){v:eX}(vs:bh)(l:v.cells=vs.toArray)(d:i.size=i1 vs)
  (b:vs.all (·.oneCell')=eR) (f:i1 vs<=i1 c) {K:Unit->f9->Prop}
  (k:∀h',cx h' a e (vs++c.drop vs.length)->bc (·≠a.block) h h'->h'.size=h.size->K () h'):
  ag C.P (qf t (.pointer (dB a)) v) h K:=
 run_store m g j 0 vs l d b i5 (λh' x y z=>k h' (by simpa using x) y z)
end
section
variable {C:Ctx} {t e k:Nat} {z:bh} {by_:Nat} {α:Type} {h:f9} {p:aC} {s v:Sl} {f:α->bh} {l l2:List α}
theorem Hg{b:α}(a:f b=z):∀n,jf z n=(qh n b).flatMap f
 |0=>rfl
 |n+1=>by rw[jf,List.replicate_succ,zk,a,Hg a n]
theorem ak(x:Int)(c:-9223372036854775808<=x:=by omega)(b:x<=9223372036854775807:=by omega):qc xx x=x:=by
 show(if(eR&&decide (x%2^64>=2^63))=eR then x%2^64-2^64 else x%2^64)=x;by_cases a:x%2^64>=2^63
 ·rw[g0 (by rw[z8];exact hU a)];omega
 ·rw[g9 (by rw[z8];exactλh=>a (i0 h))];omega
theorem run_make(p:C.Ok)(o:bZ C.toDr t e k z by_)(q:0<by_/\by_<=128)(y:α)(B:f y=z)(d:i1 z=k){G L:IntKind}{n c:Int}(m b:Nat)(I:n=m)(E:c=b)(s:m<=b)(u:b<=2^32)
  {K:Sl->f9->Prop} (M:∀j h',Own h' e j k f (qh m y)->j.ptr=dB ⟨h.size,0,eH⟩->j.cap=b->bc (λ_=>True) h h'->h'.size=h.size+1->K j h'):
  aB C.P (qF t (.int G n) (.int L c)) (.one (.sc .slc)) h K:=by
 subst I;subst E;obtain⟨r,A,x2,x3,H,D,N⟩:=o.info p;unfold aB qF;refine ag.bind (ag.always (aW (o.under p)) ?_);refine ag.bind (ag.pure' ?_);refine ag.bind (ag.pure' ?_);refine ag.bind (ag.always (dt A) ?_);have J:qc xx (m:Int)=m:=ak _;have F:qc xx (b:Int)=b:=ak _;have O:¬((r.bytes:Int)*(b:Int)>2^48):=by
  rw[x3];have:by_*b<=128*2^32:=wv q.2 u;have:((by_:Int)*(b:Int))<=((128*2^32:Nat):Int):=by exact_mod_cast this
  omega
 simp only[J,F];rw[g9 i9];refine ag.bind (ag.KZ ?_);refine ag.bind (ag.always (o.size p) ?_);have l:aP C.P (zeroValue e) H:=(dt A).bind (by rw[D];exact .pure);have fin:∀g:Array eX,(b*k≠0->g=z.toArray)->ag C.P (do
   let a<-newRow e ((xj (b*k)).map (g[·%g.size]!))
   pure (Value.slice (dB a) m b)) h (λv h'=>∃x:(Rt.one (.sc .slc)).den,v=(Rt.one (.sc .slc)).enc x/\K x h'):=by
  intro g w;have i:((xj (b*k)).map (g[·%g.size]!))=(jf z b).toArray:=by
   by_cases h0:b*k=0
   ·rw[h0];have:jf z b=[]:=za (by rw[ph,d,h0]);rw[this];simp
   ·rw[w h0];exact Tg z b _ (by rw[d])
  rw[i];refine ag.bind (ag.bind (ag.sQ (ag.pure' (ag.pure' ?_))));refine⟨⟨dB ⟨h.size,0,eH⟩,m,b⟩,i4,M _ _ ⟨jj,.inr ⟨h.size,jf z (b-m),i4,?_,?_,s⟩⟩ i4 i4 (bc.push _ _ _) jj⟩
  ·have:jf z b=(qh m y).flatMap f++jf z (b-m):=by rw[Hg B,Hg B,<-zg,List.replicate_append_replicate];congr 2;omega
   rw[this];simp
  ·rw[ph,d]
 simp only[ql];by_cases h0:b*k=0
 ·rw[g0 h0];exact ag.bind (ag.pure' (fin _ λh=>absurd h0 h))
 ·rw[g9 h0];refine ag.bind (ag.always l ?_);exact ag.bind (ag.pure' (fin _ λ_=>N))
theorem OV(o:C.Ok)(m:bZ C.toDr t e k z by_)(g:i1 z=k){n:Nat}{parts:Array (Nat×eX)}(l:List α)(A:i1 l=n)(u:n*k<=2^20)
  (b:wC (λi=>dB (i*k,k)) (jf z n).toArray parts.toList=dB (l.flatMap f).toArray) {K:Sl->f9->Prop}
  (B:∀q h',Own h' e q k f l->q.ptr=dB ⟨h.size,0,eH⟩->bc (λ_=>True) h h'->h'.size=h.size+1->K q h'):
  aB C.P (qq t n parts) (.one (.sc .slc)) h K:=by
 obtain⟨y,s,x2,x3,w,r,D⟩:=m.info o;unfold aB qq;refine ag.bind (ag.always (aW (m.under o)) ?_);refine ag.bind (ag.always (m.size o) ?_);rw[g9 i5];have j:aP C.P (zeroValue e) w:=(dt s).bind (by rw[r];exact .pure);have fin:∀c:Array eX,(n*k≠0->c=z.toArray)->ag C.P (do
   let dB cells:=wC (λi=>dB (i*k,k)) ((xj (n*k)).map (c[·%c.size]!)) parts.toList
    |stuck "buildSlice: a part of the wrong size"
   pure (Value.slice (dB (<-newRow e cells)) n n)) h (λv h'=>∃x:(Rt.one (.sc .slc)).den,v=(Rt.one (.sc .slc)).enc x/\K x h'):=by
  intro c p;have d:((xj (n*k)).map (c[·%c.size]!))=(jf z n).toArray:=by
   by_cases h0:n*k=0
   ·rw[h0];have:jf z n=[]:=za (by rw[ph,g,h0]);rw[this];simp
   ·rw[p h0];exact Tg z n _ (by rw[g])
  rw[d,b];refine ag.bind (ag.bind (ag.sQ (ag.pure' (ag.pure' ?_))));refine⟨⟨dB ⟨h.size,0,eH⟩,n,n⟩,i4,B _ _ ⟨A.symm,.inr ⟨h.size,[],i4,jj,jj,qm _⟩⟩ i4 (bc.push _ _ _) jj⟩
 by_cases h0:n*k=0
 ·rw[g0 h0];exact ag.bind (ag.pure' (fin _ λh=>absurd h0 h))
 ·rw[g9 h0];refine ag.bind (ag.always j ?_);exact ag.bind (ag.pure' (fin _ λ_=>D))
theorem Own.set{i:TI}(D:C.Ok)(q:Own h e s k f l)(p:∀x,i1 (f x)=k)(z:C.T.get t=dB i){x:Int}(n:Nat)(F:x=n)(r:n<i1 l){m:eX}(y:α)(E:m.cells=(f y).toArray)(v:i.size=k)
  (j:(f y).all (·.oneCell')=eR) {K:f9->Prop} (G:∀h',Own h' e s k f (l.set n y)->bc (λb=>¬s.on b) h h'->h'.size=h.size->K h'):
  ∃a:f7,(s.ptr=dB a/\0<=x/\x<((s.len:Nat):Int))/\ag C.P (qf t (.pointer (dB (a.add (x.toNat*k)))) m) h λ_ h'=>K h':=by
 subst F;rcases q.head with⟨_,_,h3⟩|⟨b,rest,h1,h2,h3,h4⟩
 ·subst h3;simp at r
 ·refine⟨_,⟨h1,i5,by rw[q.len];omega⟩,?_⟩;unfold qf;refine ag.bind (ag.pure' ?_);unfold storeVar;refine ag.bind (ag.always (dZ D.toOk z) ?_);rw[E,v];have u:=p y;simp only[yf,u,ne_eq,not_true,if_false];rw[add_eq,wo,ql];have d:l=l.take n++l[n]::l.drop (n+1):=by rw[<-qP r,qE]
  have g:l.set n y=l.take n++y::l.drop (n+1):=yc.trans (g0 r);have o:i1 ((l.take n).flatMap f)=n*k:=by rw[dK p,qY,w4 i5]
  refine fC (e:=e) (pre:=(l.take n).flatMap f) (old:=f l[n]) (post:=(l.drop (n+1)).flatMap f++rest) ?_ ?_ ?_ ?_ ?_
  ·have:l.flatMap f++rest=(l.take n).flatMap f++f l[n]++((l.drop (n+1)).flatMap f++rest):=by have w:=congrArg (List.flatMap f) d;rw[zg,zk]at w;rw[w];simp
   rw[<-this];exact h2
  ·rw[p,p]
  ·rw[o];omega
  ·intro c A;have:=qZ.1 j c A;exact this
  ·refine G _ ⟨by rw[zh];exact q.len,.inr ⟨b,rest,h1,?_,h3,h4⟩⟩ (bc.ki h2 λB=>B ⟨0,h1⟩) (by simp[ki]);rw[iS h2,g0 i4,g];simp
end
def grow(c:Nat->Nat)(n i:Nat):Nat->Nat:=λb=>if b<n then c b else i
theorem gJ{c:Nat->Nat}{n i b:Nat}(h:b<n):grow c n i b=c b:=g0 h
theorem sV{c:Nat->Nat}{n i b:Nat}(h:n<=b:=by omega):grow c n i b=i:=g9 i5
structure dQ {α:Type} (h:f9) (c:Nat->Nat) (i:Nat) (e:TypeId) (s:Sl) (k:Nat) (f:α->bh) (l:List α):Prop where
 own:Own h e s k f l
 bA:∀b,s.on b->c b=i
structure lp (h:f9) (c:Nat->Nat) (i:Nat) (a:f7) (e:TypeId) (cs:bh):Prop where
 box:cx h a e cs
 bA:c a.block=i
structure np (h0 h:f9) (c:Nat->Nat):Prop where
 ai:bc (λb=>b<h0.size) h0 h
 bA:∀b,b<h0.size->c b=0
section
variable {α:Type} {h h' h0:f9} {c:Nat->Nat} {i j n m:Nat} {e:TypeId} {s:Sl} {k:Nat} {f:α->bh} {l:List α} {a:f7} {cs:bh}
theorem dQ.keep(a:dQ h c j e s k f l)(n:bc (λb=>c b≠i) h h')(g:j≠i):dQ h' (grow c h.size m) j e s k f l:=
 ⟨a.own.ai n λb d=>by rw[a.bA b d];exact g,λb d=>by rw[gJ (a.own.lt d)];exact a.bA b d⟩
theorem lp.keep(d:lp h c j a e cs)(g:bc (λb=>c b≠i) h h')(f:j≠i):lp h' (grow c h.size m) j a e cs:=
 ⟨d.box.ai g (by rw[d.bA];exact f),by rw[gJ d.box.lt];exact d.bA⟩
theorem np.keep(a:np h0 h c)(f:bc (λb=>c b≠i) h h')(e:i≠0):np h0 h' (grow c h.size m):=
 ⟨a.ai.then f λb d _=>by rw[a.bA b d];exact e.symm,λb d=>by rw[gJ (qR d a.ai.1)];exact a.bA b d⟩
theorem np.refl(h:f9):np h h (λ_=>0):=⟨bc.refl _ _,λ_ _=>rfl⟩
theorem dQ.seq(a:dQ h c j e s k f l)(d:∀x,i1 (f x)=k):Seq h (λb=>c b=j) s k f l:=a.own.seq d a.bA
theorem dQ.YN(a:dQ h c j e s k f l)(d:∀x,i1 (f x)=k):Seq h (λb=>b<h.size) s k f l:=a.own.seq d λ_ g=>a.own.lt g
theorem dQ.nil(h:f9)(c:Nat->Nat)(i:Nat)(e:TypeId)(k:Nat)(f:α->bh):dQ h c i e ⟨eH,0,0⟩ k f []:=⟨Own.nil h e k f,λb d=>by obtain⟨o,a⟩:=d;cases a⟩
theorem bc.bA(a:bc (λ_=>True) h h')(c:Nat->Nat)(i:Nat):bc (λb=>c b≠i) h h':=a.mono λ_ _ _=>trivial
end
section
variable {α:Type} {C:Ctx} {h h' h0:f9} {c:Nat->Nat} {i:Nat} {e t t2:Nat} {s v:Sl} {k by_:Nat} {f:α->bh} {l l2:List α} {a:f7} {cs z:bh} {p:aC} {ti:TI}
theorem ww(f:C.Ok)(_:np h0 h c)(i:Nat)(d:C.T.get t=dB ti){K:f7->f9->Prop}(e:∀a h',lp h' (grow c h.size i) i a t ti.zero->bc (λb=>c b≠i) h h'->K a h'):
  aT C.P (qL t eR (.tuple #[])) h K:=
 BN f d λa h' x y z _=>e a h' ⟨y,by rw[sV]⟩ (z.bA c i)
theorem Th(P:Program)(_:np h0 h c)(i:Nat){v:eX}{K:f7->f9->Prop}(d:∀a h',lp h' (grow c h.size i) i a t v.cells.toList->bc (λb=>c b≠i) h h'->K a h'):
  aT P (qM t v) h K:=
 XR λa h' x y z _=>d a h' ⟨y,by rw[sV]⟩ (z.bA c i)
theorem lp.store(m:C.Ok)(g:lp h c i a e cs)(l:C.T.get t=dB ti)(off:Nat){v:eX}(vs:bh)(n:v.cells=vs.toArray)(k:ti.size=i1 vs)
  (f:vs.all (·.oneCell')=eR) (d:off+i1 vs<=i1 cs) {K:Unit->f9->Prop}
  (p:∀h',lp h' (grow c h.size i) i a e (cs.take off++vs++cs.drop (off+i1 vs))->bc (λb=>c b≠i) h h'->K () h'):
  ag C.P (qf t (.pointer (dB (a.add off))) v) h K:=
 run_store m g.box l off vs n k f d λh' x y z=>p h' ⟨x,by rw[gJ g.box.lt];exact g.bA⟩ (y.mono λb _ j o=>j (by rw[o];exact g.bA))
theorem lp.kj(n:C.Ok)(j:lp h c i a e cs)(k:C.T.get t=dB ti){v:eX}(vs:bh)(m:v.cells=vs.toArray)(f:ti.size=i1 vs)
  (d:vs.all (·.oneCell')=eR) (g:i1 vs<=i1 cs) {K:Unit->f9->Prop}
  (l:∀h',lp h' (grow c h.size i) i a e (vs++cs.drop vs.length)->bc (λb=>c b≠i) h h'->K () h'):
  ag C.P (qf t (.pointer (dB a)) v) h K:=
 j.store n k 0 vs m f d i5 (λh' x y=>l h' (by simpa using x) y)
theorem BO(v:C.Ok)(_:np h0 h c)(i:Nat)(f:α->bh)(u:bZ C.toDr t e k z by_)(d:0<by_/\by_<=128)(l:α)(E:f l=z)(j:i1 z=k){s A:IntKind}{n p:Int}(m:Nat)(w:n=m)(r:p=m)(g:m<=2^32)
  {K:Sl->f9->Prop} (D:∀a h',dQ h' (grow c h.size i) i e a k f (qh m l)->bc (λb=>c b≠i) h h'->K a h'):
  aB C.P (qF t (.int s n) (.int A p)) (.one (.sc .slc)) h K:=
 run_make v u d l E j m m w r (qm _) g λa h' x y _ z _=>D a h' ⟨x,λb B=>by obtain⟨o,q⟩:=B;rw[y]at q;cases q;rw[sV (qm _)]⟩ (z.bA c i)
theorem Lf(q:C.Ok)(_:np h0 h c)(i:Nat)(f:α->bh)(p:bZ C.toDr t e k z by_)(j:i1 z=k){n:Nat}{parts:Array (Nat×eX)}(l:List α)(r:i1 l=n)(g:n*k<=2^20)
  (a:wC (λi=>dB (i*k,k)) (jf z n).toArray parts.toList=dB (l.flatMap f).toArray) {K:Sl->f9->Prop}
  (u:∀d h',dQ h' (grow c h.size i) i e d k f l->bc (λb=>c b≠i) h h'->K d h'):
  aB C.P (qq t n parts) (.one (.sc .slc)) h K:=
 OV q p j l r g a λd h' x y z _=>u d h' ⟨x,λb s=>by obtain⟨o,m⟩:=s;rw[y]at m;cases m;rw[sV (qm _)]⟩ (z.bA c i)
theorem dQ.append(r:C.Ok)(g:dQ h c i e s k f l)(q:bZ C.toDr t e k z by_)(n:∃i e2,C.T.get t2=dB i/\i.cX=.slice e2)(E:i1 z=k)(j:0<by_/\by_<=128)(u:∀x,i1 (f x)=k)
  (A:Seq h p v k f l2) (a:∀x,∀c∈f x,c.oneCell'=eR) (o:i1 l+i1 l2<=2^32) {ty:Nat} {K:Sl->f9->Prop}
  (D:∀d h',dQ h' (grow c h.size i) i e d k f (l++l2)->bc (λb=>c b≠i) h h'->K d h'):
  aB C.P (qt #[t,t2] ty #[.slice s.ptr s.len s.cap,.slice v.ptr v.len v.cap]) (.one (.sc .slc)) h K:=
 YM r q n E j u g.own A a o λd h' x y w=>D d h' ⟨x,λb B=>by
  rcases w b B with w|w
  ·rw[gJ (g.own.lt w)];exact g.bA b w
  ·exact sV w⟩ (y.mono λb _ m n=>m (g.bA b n))
theorem dQ.set(r:C.Ok)(j:dQ h c i e s k f l)(u:∀x,i1 (f x)=k)(q:C.T.get t=dB ti){x:Int}(n:Nat)(D:x=n)(v:n<i1 l){g:eX}(y:α)(A:g.cells=(f y).toArray)(o:ti.size=k)
  (d:(f y).all (·.oneCell')=eR) {K:f9->Prop} (E:∀h',dQ h' (grow c h.size i) i e s k f (l.set n y)->bc (λb=>c b≠i) h h'->K h'):
  ∃a:f7,(s.ptr=dB a/\0<=x/\x<((s.len:Nat):Int))/\ag C.P (qf t (.pointer (dB (a.add (x.toNat*k)))) g) h λ_ h'=>K h':=
 j.own.set r u q n D v y A o d λh' z w _=>E h' ⟨z,λb p=>by rw[gJ (j.own.lt p)];exact j.bA b p⟩ (w.mono λb _ m B=>m (j.bA b B))
end
section
variable {α:Type} {C:Ctx} {h h' h0:f9} {c:Nat->Nat} {i j n m:Nat} {e t:Nat} {s v:Sl} {k by_:Nat} {f:α->bh} {l l2:List α} {z:bh} {p:aC}
theorem grow_grow{c:Nat->Nat}{n m i:Nat}(h:n<=m):grow (grow c n i) m i=grow c n i:=by
 funext b;unfold grow;split
 ·rfl
 ·rw[g9 i5]
theorem bc.step(a:bc (λb=>c b≠i) h h'){d:f9}(b:bc (λb=>grow c h.size i b≠i) h' d):bc (λb=>c b≠i) h d:=
 a.then b λx e f=>by rw[gJ e];exact f
theorem dQ.push(E:C.Ok)(r:dQ h c i e s k f l)(q:bZ C.toDr t e k z by_)(F:i1 z=k)(u:0<by_/\by_<=128)(G:∀x,i1 (f x)=k)
  (j:∀x,∀c∈f x,c.oneCell'=eR) (x:α) {parts:Array (Nat×eX)} (a:wC (λi=>dB (i*k,k)) (jf z 1).toArray parts.toList=dB ([x].flatMap f).toArray)
  (o:1*k<=2^20) (D:i1 l+1<=2^32) {ty:Nat} {K:Sl->f9->Prop}
  (O:∀n h',dQ h' (grow c h.size i) i e n k f (l++[x])->bc (λb=>c b≠i) h h'->K n h'):
  aB C.P (qq t 1 parts) (.one (.sc .slc)) h λv d=>aB C.P (qt #[t,t] ty #[.slice s.ptr s.len s.cap,.slice v.ptr v.len v.cap]) (.one (.sc .slc)) d K:=by
 refine OV E q F [x] i4 o a λv d M J w _=>?_;have B:bc (λb=>c b≠i) h d:=w.bA c i;have y:dQ d (grow c h.size i) i e s k f l:=⟨r.own.ai w λ_ _=>trivial,λb H=>by rw[gJ (r.own.lt H)];exact r.bA b H⟩
 have g:h.size<=d.size:=w.1;obtain⟨I,Q,L,x2,_⟩:=q.ex;refine y.append E q ⟨I,e,L,x2⟩ F u G (M.seq (p:=λ_=>True) G λ_ _=>trivial) j D λn N m A=>?_;rw[grow_grow g]at m;exact O n N m (B.step A)
structure akJ (h:f9) (c:Nat->Nat) (top lo:Nat) (e:TypeId) (s:Sl) (k:Nat) (f:α->bh) (ll:List (List α)) (rs:List Sl):Prop where
 own:dQ h c top e s 1 bv rs
 len:i1 rs=i1 ll
 row:∀(i:Nat) r l,rs[i]?=dB r->ll[i]?=dB l->Seq h (λb=>b<h.size/\lo<=c b/\c b<lo+i1 ll) r k f l
theorem kl:∀x,∀c∈bv x,c.oneCell'=eR:=by intro x c a;simp only[bv,qC]at a;subst a;rfl
end
structure akK {α:Type} (h:f9) (r:Nat) (g:α->eX) (kvs:List (Int×α)):Prop where
 ex:∃es clock,h[r]?=dB (.map es clock)/\es.toList.map (λe=>(e.key,e.val))=kvs.map (λp=>(Value.int .i64 p.1,g p.2))
section
variable {α:Type} {P:Program} {h h':f9} {r:Nat} {g:α->eX} {kvs:List (Int×α)}
end
theorem Ti(x n:Int)(b:0<n):x%n=if x.tmod n<0 then x.tmod n+n else x.tmod n:=by
 have e:=vC x b;have c:-n<x.tmod n:=Int.lt_tmod_of_pos x b;have d:=Int.tmod_add_mul_tdiv x n;have a:0<=(if x.tmod n<0 then x.tmod n+n else x.tmod n)/\(if x.tmod n<0 then x.tmod n+n else x.tmod n)<n:=by split<;>omega
 have e2:x=(if x.tmod n<0 then x.tmod n+n else x.tmod n)+n*(if x.tmod n<0 then x.tdiv n-1 else x.tdiv n):=by
  split
  ·rw[Int.mul_sub];omega
  ·omega
 conv=>lhs;rw[e2]
 rw[Int.add_mul_emod_self_left];exact Int.emod_eq_of_lt a.1 a.2
theorem aK{α:Type}(l:List α)(k:Nat)(h:k<i1 l:=by omega):l.take (k+1)=l.take k++[l[k]]:=zJ h
theorem fD:∀x,∀c∈av x,c.oneCell'=eR:=by intro x c a;simp only[av,qC]at a;subst a;rfl
theorem iP:∀x,∀c∈aF x,c.oneCell'=eR:=by intro x c a;simp only[aF,qC]at a;subst a;rfl
theorem up{h c d:f9}(a:bc (λb=>b<h.size) h c)(b:bc (λb=>b<c.size) c d):bc (λb=>b<h.size) h d:=
 a.then b λ_ e _=>qR e a.1
theorem any{h c:f9}(a:bc (λ_=>True) h c):bc (λb=>b<h.size) h c:=a.mono λ_ _ _=>trivial
theorem Seq.up{α:Type}{h h':f9}{s:Sl}{k:Nat}{f:α->bh}{l:List α}(d:Seq h (λb=>b<h.size) s k f l)(a:bc (λb=>b<h.size) h h'):Seq h' (λb=>b<h'.size) s k f l:=
 (d.ai a).mono λ_ c=>qR c a.1
theorem ia.up{α:Type}{h h':f9}{s:Sl}{k:Nat}{f:α->bh}{l:List (List α)}{rs:List Sl}(d:ia h (λb=>b<h.size) s k f l rs)(a:bc (λb=>b<h.size) h h'):ia h' (λb=>b<h'.size) s k f l rs:=
 (d.ai a).mono λ_ c=>qR c a.1
theorem Seq.drop{α:Type}{h:f9}{p:aC}{s:Sl}{w:Nat}{f:α->bh}{l:List α}(c:Seq h p s w f l)(k:Nat)(m:s.len<=s.cap):
  Seq h p ⟨if s.cap=k then s.ptr else s.ptr.map (·.add (k*w)),s.len-k,s.cap-k⟩ w f (l.drop k):=by
 have j:=c.len;refine⟨by simp[j],λi x a=>?_⟩;rw[wJ]at a;obtain⟨b,o,d,e,h3⟩:=c.elem _ x a;have g:=(qn.1 a).1;refine⟨b,o+k*w,?_,e,?_⟩
 ·dsimp only;rw[g9 i5,d,q7,add_eq]
 ·rw[show o+k*w+i*w=o+(k+i)*w by rw[Nat.add_mul];omega];exact h3
theorem Seq.take{α:Type}{h:f9}{p:aC}{s:Sl}{w:Nat}{f:α->bh}{l:List α}(b:Seq h p s w f l)(k:Nat)(c:k<=i1 l):
  Seq h p ⟨s.ptr,k,s.cap⟩ w f (l.take k):=by
 refine⟨i9,λi x a=>?_⟩;rw[vf]at a;split at a
 ·exact b.elem i x a
 ·cases a
theorem getD_lt{α:Type}{l:List α}{d:α}{i:Nat}(h:i<i1 l:=by omega):l.getD i d=l[i]:=by rw[qe,qd h];rfl
structure HP where
 p:f9->aC->Prop
 loc:∀{h h':f9} {q:aC},p h q->bc q h h'->p h' q
 mono:∀{h:f9} {q q':aC},p h q->(∀b,q b->q' b)->p h q'
def emp:HP:=⟨λ_ _=>True,λ_ _=>trivial,λ_ _=>trivial⟩
def an{α:Type}(e:TypeId)(s:Sl)(k:Nat)(f:α->bh)(l:List α):HP:=
 ⟨λh q=>Own h e s k f l/\∀b,s.on b->q b,λa g=>⟨a.1.ai g a.2,a.2⟩,λa d=>⟨a.1,λb c=>d b (a.2 b c)⟩⟩
def au(a:f7)(e:TypeId)(b:bh):HP:=
 ⟨λh q=>cx h a e b/\q a.block,λx d=>⟨x.1.ai d x.2,x.2⟩,λx c=>⟨x.1,c _ x.2⟩⟩
def uH{α:Type}(s:Sl)(k:Nat)(f:α->bh)(l:List α):HP:=
 ⟨λh q=>Seq h q s k f l,λa c=>a.ai c,λa b=>a.mono b⟩
def fR{α:Type}(e:TypeId)(s:Sl)(k:Nat)(f:α->bh)(m:List (List α)):HP:=
 ⟨λh q=>∃(rs:List Sl) (j:aC),Own h e s 1 bv rs/\(∀b,s.on b->q b/\¬j b)/\(∀b,j b->q b)/\rs.length=i1 m/\∀(i:Nat) r l,rs[i]?=dB r->m[i]?=dB l->Seq h j r k f l,
  λ⟨rs,j,a,b,c,d,e⟩ hp=>⟨rs,j,a.ai hp λx g=>(b x g).1,b,c,d,λi r l n o=>(e i r l n o).ai (hp.mono λx _ g=>c x g)⟩,
  λ⟨rs,j,a,b,c,d,e⟩ hq=>⟨rs,j,a,λx g=>⟨hq x (b x g).1,(b x g).2⟩,λx g=>hq x (c x g),d,e⟩⟩
structure aa (B:aC) (h0 h:f9) (As:List HP):Prop where
 low:∀b,B b->b<h0.size
 ai:bc B h0 h
 ex:∃c:Nat->Nat,(∀b,B b->c b=0)/\∀(i:Nat) (A:HP),As[i]?=dB A->A.p h (λb=>b<h.size/\c b=i+1)
abbrev Sp(a h:f9)(As:List HP):Prop:=aa (λb=>b<a.size) a h As
section
variable {B:aC} {h0 h h':f9} {As Bs:List HP} {A A2 D:HP} {c:Nat->Nat} {i j:Nat}
theorem Sp.refl(h:f9):Sp h h []:=⟨λ_ h=>h,bc.refl _ _,λ_=>0,λ_ _=>rfl,λi A a=>by simp at a⟩
theorem aa.at(H:aa B h0 h As)(i:Nat)(e:As[i]?=dB A):A.p h (λb=>b<h.size):=by obtain⟨c,_,a⟩:=H.ex;exact A.mono (a i A e) λ_ d=>d.1
theorem aa.fin(H:aa B h0 h As)(i:Nat)(f:As[i]?=dB A):A.p h (λb=>¬B b/\b<h.size):=by obtain⟨c,g,d⟩:=H.ex;exact A.mono (d i A f) λb e=>⟨λa=>by have:=g b a;omega,e.1⟩
theorem Sp.fresh(H:Sp h0 h As)(i:Nat)(c:As[i]?=dB A):A.p h (λb=>h0.size<=b/\b<h.size):=
 A.mono (aa.fin H i c) λb a=>⟨i5,a.2⟩
theorem aa.comp(H:aa B h0 h As)(R:Sp h h' Bs):aa B h0 h' (As++Bs):=by
 obtain⟨j,k,p,n,l⟩:=H;obtain⟨_,e,g,m,o⟩:=R;have c:=k.1;refine⟨j,k.then e λb a _=>qR a c,λb=>if b<h.size then p b else if g b=0 then 0 else As.length+g b,λb a=>?_,λi A d=>?_⟩
 ·dsimp only;rw[g0 (qR (j b a) c)];exact n b a
 ·by_cases q:i<i1 As
  ·rw[qo q]at d;refine A.mono (A.loc (l i A d) (e.mono λb _ a=>a.1)) λb a=>⟨qR a.1 e.1,?_⟩
   dsimp only;rw[g0 a.1];exact a.2
  ·rw[qj i5]at d;refine A.mono (o _ A d) λb a=>⟨a.1,?_⟩
   have:¬b<h.size:=λf=>by have:=m b f;omega
   dsimp only;rw[g9 this,g9 i5];omega
theorem aa.up(H:aa B h0 h As)(R:bc (λb=>b<h.size) h h'):aa B h0 h' As:=by have:=H.comp (Bs:=[]) ⟨λ_ h=>h,R,λ_=>0,λ_ _=>rfl,λi A a=>by simp at a⟩;simpa using this
theorem Sp.one(R:bc (λb=>b<h.size) h h')(d:A.p h' λb=>h.size<=b/\b<h'.size):Sp h h' [A]:=by
 refine⟨λ_ h=>h,R,λb=>if b<h.size then 0 else 1,λb a=>g0 a,λi A2 c=>?_⟩;cases i with
 |succ i=>simp at c
 |zero=>
  simp at c;subst c;exact A.mono d λb a=>⟨a.2,by dsimp only;rw[g9 i5]⟩
theorem Sp.zip(R:bc (λb=>b<h.size) h h'):Sp h h' []:=aa.up (Sp.refl h) R
theorem aa.enter(q:aC)(c:Nat->Nat)(f:∀b,q b->b<h.size)(a:∀(i:Nat) (A:HP),As[i]?=dB A->A.p h λb=>q b/\c b=i+1):aa (λb=>b<h.size/\¬q b) h h As:=by
 classical
 refine⟨λb d=>d.1,bc.refl _ _,λb=>if q b then c b else 0,λb d=>g9 d.2,λi A e=>A.mono (a i A e) λb d=>⟨f b d.1,?_⟩⟩;dsimp only;rw[g0 d.1];exact d.2
theorem aa.abd(q:aC)(e:∀b,q b->b<h.size)(a:A.p h q):aa (λb=>b<h.size/\¬q b) h h [A]:=
 .enter q (λ_=>1) e λi A2 c=>by
  cases i with
  |succ i=>simp at c
  |zero=>simp at c;subst c;exact A.mono a λb d=>⟨d,i4⟩
theorem aa.Ey(l:∀b,B b->b<h0.size)(f:bc B h0 h)(z:∀b,B b->c b=0)(a:∀(i:Nat) (A:HP),As[i]?=dB A->A.p h λb=>b<h.size/\c b=i+1)
  (k:bc (λb=>¬(b<h.size/\c b=i+1)) h h') (n:D.p h' λb=>b<h'.size/\((b<h.size/\c b=i+1)∨h.size<=b)):aa B h0 h' (As.set i D):=by
 refine⟨l,f.then k λb _ d m=>by have:=z b d;omega,grow c h.size (i+1),λb d=>?_,λj A e=>?_⟩
 ·rw[gJ (qR (l b d) f.1)];exact z b d
 ·rw[q8]at e;split at e
  ·rename_i g;subst g;split at e
   ·injection e with e
    subst e;refine D.mono n λb d=>⟨d.1,?_⟩
    rcases d.2 with h1|h1
    ·rw[gJ h1.1];exact h1.2
    ·exact sV h1
   ·cases e
  ·rename_i g;refine A.mono (A.loc (a j A e) (k.mono λb _ d m=>i5)) λb d=>⟨qR d.1 k.1,?_⟩
   rw[gJ d.1];exact d.2
theorem aa.step(H:aa B h0 h As)(i:Nat)(f:As[i]?=dB A)(k:∀q:aC,A.p h q->(∀b,q b->b<h.size)->bc (λb=>¬q b) h h'/\D.p h' λb=>b<h'.size/\(q b∨h.size<=b)):aa B h0 h' (As.set i D):=by obtain⟨g,p,c,z,a⟩:=H;obtain⟨j,d⟩:=k _ (a i A f) λb e=>e.1;exact aa.Ey g p z a j d
theorem aa.fZ(H:aa B h0 h As)(i:Nat)(d:As[i]?=dB A)(f:∀q:aC,A.p h q->D.p h q):aa B h0 h (As.set i D):=
 H.step i d λq e a=>⟨bc.refl _ _,D.mono (f q e) λb c=>⟨a b c,.inl c⟩⟩
theorem aa.merge(H:aa B h0 h As)(i j:Nat)(o:i≠j)(r:As[i]?=dB A)(q:As[j]?=dB A2)
  (s:∀m l:aC,(∀b,m b->¬l b)->A.p h m->A2.p h l->D.p h λb=>m b∨l b):aa B h0 h ((As.set i D).set j emp):=by
 obtain⟨t,p,c,z,a⟩:=H;refine⟨t,p,λb=>if c b=j+1 then i+1 else c b,λb f=>?_,λk n d=>?_⟩
 ·have:=z b f;dsimp only;rw[g9 i5];exact this
 ·rw[q8]at d;split at d
  ·split at d
   ·cases d;trivial
   ·cases d
  ·rename_i u;rw[q8]at d;split at d
   ·rename_i g;subst g;split at d
    ·injection d with d
     subst d;refine D.mono (s _ _ (λb e v=>i5) (a i A r) (a j A2 q)) λb f=>?_;rcases f with e|e
     ·exact⟨e.1,by dsimp only;rw[g9 i5];exact e.2⟩
     ·exact⟨e.1,by dsimp only;rw[g0 e.2]⟩
    ·cases d
   ·rename_i g;refine n.mono (a k n d) λb f=>⟨f.1,?_⟩
    dsimp only;rw[g9 i5];exact f.2
theorem aa.pick(H:aa B h0 h As)(f:Nat->Nat)(m:∀i j,f i=f j->i=j)(n:∀(i:Nat) (A2:HP),Bs[i]?=dB A2->As[f i]?=dB A2):aa B h0 h Bs:=by
 obtain⟨l,p,c,z,a⟩:=H
 classical
 refine⟨l,p,λb=>if e:∃i,c b=f i+1 then e.choose+1 else 0,λb e=>?_,λi A2 g=>?_⟩
 ·have:=z b e;dsimp only;rw[dif_neg];rintro⟨i,g⟩;omega
 ·refine A2.mono (a _ _ (n i A2 g)) λb e=>⟨e.1,?_⟩
  have d:∃i,c b=f i+1:=⟨i,e.2⟩
  dsimp only;rw[dif_pos d];have o:=d.choose_spec;have k:=m d.choose i i5;rw[k]
theorem aa.take(H:aa B h0 h As)(n:Nat)(a:∀(i:Nat) (A2:HP),Bs[i]?=dB A2->As[n+i]?=dB A2):aa B h0 h Bs:=H.pick (λi=>n+i) (λ_ _ h=>i5) a
end
section
variable {B:aC} {α:Type} {C:Ctx} {h0 h h':f9} {As:List HP} {i e t t2:Nat} {s v:Sl} {k by_:Nat} {f:α->bh} {l l2:List α} {a:f7} {cs z:bh} {p:aC} {ti:TI}
theorem aa.own(H:aa B h0 h As)(i:Nat)(a:As[i]?=dB (an e s k f l)):Own h e s k f l:=(H.at i a).1
theorem aa.seq(H:aa B h0 h As)(i:Nat)(a:As[i]?=dB (an e s k f l))(c:∀x,i1 (f x)=k):Seq h (λb=>b<h.size) s k f l:=(H.at i a).1.seq c (H.at i a).2
theorem aa.rd(H:aa B h0 h As)(i:Nat)(a:As[i]?=dB (uH s k f l)):Seq h (λb=>b<h.size) s k f l:=H.at i a
theorem aa.box(H:aa B h0 h As)(i:Nat)(b:As[i]?=dB (au a e cs)):cx h a e cs:=(H.at i b).1
theorem aa.nR(H:aa B h0 h As)(i:Nat)(q:As[i]?=dB (an e s k f l)){β:Type}{n m:Nat}{g:β->bh}{l':List β}(o:bc (λb=>¬s.on b) h h')(p:Own h' n s m g l'):aa B h0 h' (As.set i (an n s m g l')):=
 H.step i q λ_ d c=>⟨o.mono λb _ a j=>a (d.2 b j),p,λb a=>⟨qR (c b (d.2 b a)) o.1,.inl (d.2 b a)⟩⟩
theorem aa.Dt(H:aa B h0 h As)(i:Nat)(m:As[i]?=dB (au a e cs)){c:bh}(j:bc (λb=>b≠a.block) h h')(k:cx h' a e c):aa B h0 h' (As.set i (au a e c)):=
 H.step i m λq f d=>⟨j.mono λb _ l g=>l (by rw[g];exact f.2),k,⟨qR (d _ f.2) j.1,.inl f.2⟩⟩
theorem aa.freeze(H:aa B h0 h As)(i:Nat)(c:As[i]?=dB (an e s k f l))(b:∀x,i1 (f x)=k):aa B h0 h (As.set i (uH s k f l)):=H.fZ i c λ_ a=>a.1.seq b a.2
theorem aa.set(j:C.Ok)(H:aa B h0 h As)(i:Nat)(g:As[i]?=dB (an e s k f l))(m:∀x,i1 (f x)=k)(p:C.T.get t=dB ti){x:Int}(n:Nat)(r:x=n)(o:n<i1 l){c:eX}(y:α)(q:c.cells=(f y).toArray)(d:ti.size=k)
  (b:(f y).all (·.oneCell')=eR) {K:f9->Prop} (u:∀h',aa B h0 h' (As.set i (an e s k f (l.set n y)))->K h'):
  ∃a:f7,(s.ptr=dB a/\0<=x/\x<((s.len:Nat):Int))/\ag C.P (qf t (.pointer (dB (a.add (x.toNat*k)))) c) h λ_ h'=>K h':=
 (H.own i g).set j m p n r o y q d b λh' z w _=>u h' (H.nR i g w z)
theorem aa.push(E:C.Ok)(H:aa B h0 h As)(i:Nat)(y:As[i]?=dB (an e s k f l))(F:bZ C.toDr t e k z by_)(I:i1 z=k)(q:0<by_/\by_<=128)(J:∀x,i1 (f x)=k)
  (m:∀x,∀c∈f x,c.oneCell'=eR) (x:α) {parts:Array (Nat×eX)} (g:wC (λi=>dB (i*k,k)) (jf z 1).toArray parts.toList=dB ([x].flatMap f).toArray)
  (p:1*k<=2^20) (u:i1 l+1<=2^32) {ty:Nat} {K:Sl->f9->Prop}
  (Q:∀o h',aa B h0 h' (As.set i (an e o k f (l++[x])))->K o h'):
  aB C.P (qq t 1 parts) (.one (.sc .slc)) h λv D=>aB C.P (qt #[t,t] ty #[.slice s.ptr s.len s.cap,.slice v.ptr v.len v.cap]) (.one (.sc .slc)) D K:=by
 obtain⟨O,L,c,M,a⟩:=H;have w:=a i _ y;have G:dQ h c (i+1) e s k f l:=⟨w.1,λb j=>(w.2 b j).2⟩
 refine G.push E F I q J m x g p u λo h' d r=>Q o h' ?_;refine aa.Ey O L M a (r.mono λb j N A=>N ⟨j,A⟩) ⟨d.own,λb j=>⟨d.own.lt j,?_⟩⟩;have:=d.bA b j;by_cases n:b<h.size
 ·rw[gJ n]at this;exact .inl ⟨n,this⟩
 ·exact .inr i5
theorem aa.append(D:C.Ok)(H:aa B h0 h As)(i:Nat)(w:As[i]?=dB (an e s k f l))(A:bZ C.toDr t e k z by_)(O:∃i e2,C.T.get t2=dB i/\i.cX=.slice e2)(F:i1 z=k)(o:0<by_/\by_<=128)(G:∀x,i1 (f x)=k)
  (N:Seq h p v k f l2) (j:∀x,∀c∈f x,c.oneCell'=eR) (r:i1 l+i1 l2<=2^32) {ty:Nat} {K:Sl->f9->Prop}
  (Q:∀n h',aa B h0 h' (As.set i (an e n k f (l++l2)))->K n h'):
  aB C.P (qt #[t,t2] ty #[.slice s.ptr s.len s.cap,.slice v.ptr v.len v.cap]) (.one (.sc .slc)) h K:=by
 obtain⟨M,I,c,J,a⟩:=H;have u:=a i _ w;have E:dQ h c (i+1) e s k f l:=⟨u.1,λb g=>(u.2 b g).2⟩
 refine E.append D A O F o G N j r λn h' d q=>Q n h' ?_;refine aa.Ey M I J a (q.mono λb g L y=>L ⟨g,y⟩) ⟨d.own,λb g=>⟨d.own.lt g,?_⟩⟩;have:=d.bA b g;by_cases m:b<h.size
 ·rw[gJ m]at this;exact .inl ⟨m,this⟩
 ·exact .inr i5
theorem OW{h h':f9}{n:Nat}(i:n=h.size)(d:Own h' e s k f l)(g:s.ptr=dB ⟨n,0,eH⟩)(c:bc (λ_=>True) h h'):Sp h h' [an e s k f l]:=
 .one (any c) ⟨d,λb a=>⟨by obtain⟨o,a⟩:=a;rw[g]at a;cases a;omega,d.lt a⟩⟩
theorem aa.make(r:C.Ok)(H:aa B h0 h As)(f:α->bh)(q:bZ C.toDr t e k z by_)(c:0<by_/\by_<=128)(j:α)(D:f j=z)(i:i1 z=k){p v:IntKind}{n l:Int}(m b:Nat)(u:n=m)(o:l=b)(g:m<=b)(d:b<=2^32)
  {K:Sl->f9->Prop} (A:∀a h',a.len=m->a.cap=b->aa B h0 h' (As++[an e a k f (qh m j)])->K a h'):
  aB C.P (qF t (.int p n) (.int v l)) (.one (.sc .slc)) h K:=
 run_make r q c j D i m b u o g d λa h' x y w s _=>A a h' (by rw[x.len];simp) w (H.comp (OW i4 x y s))
theorem aa.lit(j:C.Ok)(H:aa B h0 h As)(f:α->bh)(g:bZ C.toDr t e k z by_)(d:i1 z=k){n:Nat}{parts:Array (Nat×eX)}(l:List α)(o:i1 l=n)(c:n*k<=2^20)
  (a:wC (λi=>dB (i*k,k)) (jf z n).toArray parts.toList=dB (l.flatMap f).toArray) {K:Sl->f9->Prop}
  (p:∀b h',aa B h0 h' (As++[an e b k f l])->K b h'):
  aB C.P (qq t n parts) (.one (.sc .slc)) h K:=
 OV j g d l o c a λb h' x y m _=>p b h' (H.comp (OW i4 x y m))
theorem OX{h h':f9}(d:a.block=h.size)(c:cx h' a e cs)(b:bc (λ_=>True) h h'):Sp h h' [au a e cs]:=
 .one (any b) ⟨c,i5,c.lt⟩
theorem aa.alloc(e:C.Ok)(H:aa B h0 h As)(c:C.T.get t=dB ti){K:f7->f9->Prop}(d:∀a h',aa B h0 h' (As++[au a t ti.zero])->K a h'):
  aT C.P (qL t eR (.tuple #[])) h K:=
 BN e c λa h' x y b _=>d a h' (H.comp (OX x y b))
theorem aa.boxed(H:aa B h0 h As){P:Program}{v:eX}{K:f7->f9->Prop}(c:∀a h',aa B h0 h' (As++[au a t v.cells.toList])->K a h'):
  aT P (qM t v) h K:=
 XR λa h' x y b _=>c a h' (H.comp (OX x y b))
theorem aa.store(l:C.Ok)(H:aa B h0 h As)(i:Nat)(f:As[i]?=dB (au a e cs))(j:C.T.get t=dB ti)(off:Nat){v:eX}(vs:bh)(k:v.cells=vs.toArray)(d:ti.size=i1 vs)
  (b:vs.all (·.oneCell')=eR) (c:off+i1 vs<=i1 cs) {K:Unit->f9->Prop}
  (g:∀h',aa B h0 h' (As.set i (au a e (cs.take off++vs++cs.drop (off+i1 vs))))->K () h'):
  ag C.P (qf t (.pointer (dB (a.add off))) v) h K:=
 run_store l (H.box i f) j off vs k d b c λh' x y _=>g h' (H.Dt i f y x)
theorem aa.kj(l:C.Ok)(H:aa B h0 h As)(i:Nat)(f:As[i]?=dB (au a e cs))(j:C.T.get t=dB ti){v:eX}(vs:bh)(k:v.cells=vs.toArray)(c:ti.size=i1 vs)
  (b:vs.all (·.oneCell')=eR) (d:i1 vs<=i1 cs) {K:Unit->f9->Prop}
  (g:∀h',aa B h0 h' (As.set i (au a e (vs++cs.drop vs.length)))->K () h'):
  ag C.P (qf t (.pointer (dB a)) v) h K:=
 H.store l i f j 0 vs k c b i5 (λh' x=>g h' (by simpa using x))
theorem aa.nil(H:aa B h0 h As)(e k:Nat)(f:α->bh):aa B h0 h (As++[an e ⟨eH,0,0⟩ k f []]):=
 H.comp (.one (bc.refl _ _) ⟨Own.nil h e k f,λb a=>by obtain⟨o,a⟩:=a;cases a⟩)
theorem aa.My(H:aa B h0 h As)(e k:Nat)(f:α->bh):aa B h0 h (As++[fR e ⟨eH,0,0⟩ k f []]):=
 H.comp (.one (bc.refl _ _) ⟨[],λ_=>False,Own.nil h e 1 bv,λb a=>(by obtain⟨o,a⟩:=a;cases a),λ_ a=>a.elim,rfl,λi r l h=>m9⟩)
theorem aa.xZ(hC:C.Ok)(H:aa B h0 h As)(i j:Nat)(y:i≠j){I:List (List α)}{r:Sl}{x:List α}(T:As[i]?=dB (fR e s k f I))(W:As[j]?=dB (uH r k f x))(he:bZ C.toDr t e 1 [.slice eH 0 0] 24)
  (ab:i1 I+1<=2^32) {ty:Nat} {K:Sl->f9->Prop} (hk:∀O h',aa B h0 h' ((As.set j emp).set i (fR e O k f (I++[x])))->K O h'):
  aB C.P (qq t 1 #[(0,.slice r.ptr r.len r.cap)]) (.one (.sc .slc)) h λv u=>aB C.P (qt #[t,t] ty #[.slice s.ptr s.len s.cap,.slice v.ptr v.len v.cap]) (.one (.sc .slc)) u K:=by
 have H2:=H.merge i j y T W (D:=⟨λh q=>∃(rs:List Sl) (g:aC),Own h e s 1 bv rs/\(∀b,s.on b->q b/\¬g b)/\(∀b,g b->q b)/\rs.length=i1 I/\(∀(i:Nat) r l,rs[i]?=dB r->I[i]?=dB l->Seq h g r k f l)/\Seq h g r k f x,
  λ⟨rs,g,a,b,c,d,e,f⟩ hp=>⟨rs,g,a.ai hp λx n=>(b x n).1,b,c,d,λi r l u A=>(e i r l u A).ai (hp.mono λx _ n=>c x n),f.ai (hp.mono λx _ n=>c x n)⟩,
  λ⟨rs,g,a,b,c,d,e,f⟩ hq=>⟨rs,g,a,λx n=>⟨hq x (b x n).1,(b x n).2⟩,λx n=>hq x (c x n),d,e,f⟩⟩)
  (λg q2 hd hA X=>by
   obtain⟨rs,q3,a,b,c,d,Z⟩:=hA;refine⟨rs,λb=>q3 b∨q2 b,a,λx n=>⟨.inl (b x n).1,λM=>M.elim (b x n).2 (hd x (b x n).1)⟩,λx n=>n.elim (λh=>.inl (c x h)) .inr,d,λi r l u A=>(Z i r l u A).mono λ_ h=>.inl h,Seq.mono X λ_ h=>.inr h⟩)
 have w:i<i1 As:=(qn.1 T).1;obtain⟨lo,pp,c,zz,a⟩:=H2;have ha:=a i _ (by rw[zC (Ne.symm y),zm w]);obtain⟨rs,g,V,a2,a3,a4,a5,a6⟩:=ha;let S:Nat->Nat:=λb=> @ite _ (g b) (Classical.propDecidable _) (i1 As+2) (c b);have F:∀b,g b->b<h.size/\c b=i+1:=a3;have ho:dQ h S (i+1) e s 1 bv rs:=⟨V,λb m=>by
  have:=a2 b m;show @ite _ (g b) (Classical.propDecidable _) _ _=_;rw[g9 this.2];exact this.1.2⟩
 refine ho.push hC he i4 i6 (λ_=>rfl) kl r i4 i6 i5 λO h' z G=>hk O h' ?_;rw[vy _ _ (Ne.symm y)];rw[<-yt (l:=As) (i:=i),vy _ _ y];have L:∀b,g b->S b≠i+1:=λb m=>by
  show @ite _ (g b) (Classical.propDecidable _) _ _≠_;rw[g0 m];omega
 refine aa.Ey lo pp zz a (G.mono λb m hn Y=>hn ⟨m,?_⟩) ⟨rs++[r],λb=>g b/\b<h.size,z.own,λb m=>?_,λb m=>⟨qR m.2 G.1,.inl ⟨m.2,(F b m.1).2⟩⟩,by simp[a4],λQ r' l' u A=>?_⟩
 ·by_cases E:g b
  ·exact(F b E).2
  ·have p:@ite _ (g b) (Classical.propDecidable _) (i1 As+2) (c b)=i+1:=Y;rw[g9 E]at p;exact p
 ·have o:=z.bA b m;by_cases w:b<h.size
  ·rw[gJ w]at o;have J:¬g b:=λE=>L b E o;have p:@ite _ (g b) (Classical.propDecidable _) (i1 As+2) (c b)=i+1:=o;rw[g9 J]at p;exact⟨⟨z.own.lt m,.inl ⟨w,p⟩⟩,λM=>J M.1⟩
  ·exact⟨⟨z.own.lt m,.inr i5⟩,λM=>w M.2⟩
 ·have N:∀{U:Sl} {l:List α},Seq h g U k f l->Seq h' (λb=>g b/\b<h.size) U k f l:=λhs=>
   (hs.mono (q:=λb=>g b/\b<h.size) λb m=>⟨m,(F b m).1⟩).ai (G.mono λb _ m=>L b m.1)
  by_cases R:Q<i1 rs
  ·rw[qo R]at u;rw[qo i5]at A;exact N (a5 Q r' l' u A)
  ·have:Q=i1 rs:=by have:=(qn.1 u).1;simp at this;omega
   subst this;simp at u;rw[a4]at A;simp at A;subst u;subst A;exact N a6
theorem aa.rows(H:aa B h0 h As)(i:Nat){g:List (List α)}(n:As[i]?=dB (fR e s k f g)):∃rs,ia h (λb=>b<h.size) s k f g rs:=by obtain⟨rs,p,a,b,c,d,e⟩:=H.at i n;exact⟨rs,a.seq (λ_=>rfl) λx m=>(b x m).1,d,λi r l o j=>(e i r l o j).mono c⟩
end
theorem aer(vs:bh):∀(pre old post:bh),i1 old=i1 vs->((vs.zipIdx 0).foldl (λ(cs:Array eX) (p:eX×Nat)=>cs.setIfInBounds (i1 pre+p.2) p.1) (pre++old++post).toArray)=(pre++vs++post).toArray:=by
 have b:∀(vs pre old post:bh) (k:Nat),i1 old=i1 vs->i1 pre=i1 pre->∀n,n+k=i1 pre->((vs.zipIdx k).foldl (λ(cs:Array eX) (p:eX×Nat)=>cs.setIfInBounds (n+p.2) p.1) (pre++old++post).toArray)=(pre++vs++post).toArray:=by
  intro vs
  induction vs with
  |nil=>intro pre old post k a _ n _;rw[za a];rfl
  |cons v vs ih=>
   intro pre old post k a _ n c;cases old with
   |nil=>simp at a
   |cons u old=>
    rw[List.zipIdx_cons,zA];have e:(pre++(u::old)++post).toArray.setIfInBounds (n+k) v=((pre++[v])++old++post).toArray:=by rw[c];apply yE;simp
    dsimp only;rw[e,ih (pre++[v]) old post (k+1) j7 i4 n i9];simp
 intro pre old post h;exact b vs pre old post 0 h i4 pre.length i5
theorem Tj{a:Nat->Option (Nat×Nat)}{i:Nat}{v:eX}{vs pre old post:bh}{rest:List (Nat×eX)}(d:v.cells=vs.toArray)(c:a i=dB (i1 pre,i1 vs))(b:i1 old=i1 vs):
  wC a (pre++old++post).toArray ((i,v)::rest)=wC a (pre++vs++post).toArray rest:=by
 conv=>lhs;unfold wC
 simp only[c,d];rw[g9 i9];congr 1;have:=aer vs pre old post b;simpa using this
section
variable {C:Ctx} {t:Nat} {i:TI} {h:f9}
theorem Hi(g:C.Ok)(l:C.T.get t=dB i){m:List (Nat×TypeId)}(h:i.cX=.struct m){c:List (Nat×Nat)}(j:placesOf C.T m=dB c){vs:List (Nat×eX)}{cells:Array eX}
  (a:wC (λn=>c[n]?) i.zero.toArray vs=dB cells):aP C.P (Instr.build t vs.toArray) (.agg cells):=by
 obtain⟨z,q,d⟩:=tJ g.toOk l;have b:i.zero.toArray=z.cells:=by rw[<-d]
 have o:=g.cX l;rw[h]at o;obtain⟨r,p,rfl⟩:=rf o;refine q.bind ((aW p).bind ?_);have k:aP C.P (r.mapM λf=>(do pure (f.offset,<-sizeOf f.type):Sem (Nat×Nat))) c.toArray:=by rw[Array.mapM_eq_mapM_toList];intro w;have:=oz g.toOk j w;rw[map_eq_pure_bind,Sem.run_bind,this];rfl
 refine k.bind ?_;have e:wC (λn=>c.toArray[n]?) z.cells vs.toArray.toList=dB cells:=by rw[<-b];simpa using a
 rw[e];exact .pure
end
theorem take_set{α:Type}(l:List α)(n:Nat)(x:α)(h:n<i1 l):l.take n++[x]++l.drop (n+1)=l.set n x:=by rw[yc,g0 h];simp
section
variable {B:aC} {C:Ctx} {h0 h h':f9} {As:List HP} {e t:Nat} {a:f7} {cs:bh} {ti:TI}
theorem aa.storeAt(l:C.Ok)(H:aa B h0 h As)(i:Nat)(f:As[i]?=dB (au a e cs))(j:C.T.get t=dB ti){off:Nat}{v:eX}(k:v.cells=#[v])(d:ti.size=1)
  (b:v.oneCell'=eR) (c:off<i1 cs) {K:Unit->f9->Prop}
  (g:∀h',aa B h0 h' (As.set i (au a e (cs.set off v)))->K () h'):
  ag C.P (qf t (.pointer (dB (a.add off))) v) h K:=
 H.store l i f j off [v] k d m0 i9 λh' x=>g h' (by rw[<-take_set _ _ _ c];simpa using x)
theorem aa.storeAll(l:C.Ok)(H:aa B h0 h As)(i:Nat)(f:As[i]?=dB (au a e cs))(j:C.T.get t=dB ti){v:eX}(vs:bh)(k:v.cells=vs.toArray)(c:ti.size=i1 vs)
  (b:vs.all (·.oneCell')=eR) (d:i1 vs=i1 cs) {K:Unit->f9->Prop}
  (g:∀h',aa B h0 h' (As.set i (au a e vs))->K () h'):
  ag C.P (qf t (.pointer (dB a)) v) h K:=
 H.kj l i f j vs k c b i5 λh' x=>g h' (by rw[zf i5,qN]at x;exact x)
end
theorem xC(n:Nat)(a:n<=9223372036854775807:=by omega):qc xx (n:Int)=n:=ak _
abbrev Rd{α:Type}(h:f9)(s:Sl)(k:Nat)(f:α->bh)(l:List α):Prop:=Seq h (λb=>b<h.size) s k f l
abbrev fE{α:Type}(h:f9)(s:Sl)(k:Nat)(f:α->bh)(a:List (List α)):Prop:=∃rs,ia h (λb=>b<h.size) s k f a rs
section
variable {α:Type} {B:aC} {h0 h h':f9} {As:List HP} {s:Sl} {k e:Nat} {f:α->bh} {l:List α} {ll:List (List α)}
theorem fE.up(a:fE h s k f ll)(c:bc (λb=>b<h.size) h h'):fE h' s k f ll:=by obtain⟨rs,a⟩:=a;exact⟨rs,ia.up a c⟩
theorem fE.len(a:fE h s k f ll):s.len=i1 ll:=by obtain⟨rs,a⟩:=a;exact a.Te
theorem fE.get(b:fE h s k f ll){i:Int}(n:Nat)(e:i=n)(d:n<i1 ll){K:Sl->Prop}(g:∀r,Rd h r k f ll[n]->K r):
  ∃a:f7,(s.ptr=dB a/\0<=i/\i<((s.len:Nat):Int))/\∃x:Sl,f8 h (a.add (i.toNat*1))=dB (.slice x.ptr x.len x.cap)/\K x:=by
 obtain⟨rs,b⟩:=b;exact b.get n e d λr c _=>g r c
theorem Seq.isSome{p:aC}(d:Seq h p s k f l)(a:l≠[]):s.ptr.isNone=eS:=by
 cases l with
 |nil=>exact absurd i4 a
 |cons x t=>obtain⟨b,o,c,_⟩:=d.elem 0 x jj;rw[c];rfl
theorem Seq.isNil{p:aC}(b:Seq h p s k f l)(a:s.ptr.isNone=eR):l=[]:=by
 cases l with
 |nil=>rfl
 |cons x t=>rw[b.isSome jj]at a;cases a
theorem aa.Hj(H:aa B h0 h As)(i:Nat)(a:As[i]?=dB (fR e s k f ll)):fE h s k f ll:=H.rows i a
end
section
variable {B:aC} {h0 h h':f9} {As Bs:List HP} {A D:HP}
theorem aa.del(H:aa B h0 h As)(i:Nat):aa B h0 h (As.eraseIdx i):=
 H.pick (λj=>if j<i then j else j+1) (λa b d=>by split at d<;>split at d<;>omega) λj A e=>by
  rw[List.getElem?_eraseIdx]at e;split at e
  ·rename_i c;rw[g0 c];exact e
  ·rename_i c;rw[g9 c];exact e
theorem aa.call(H:aa B h0 h As)(i:Nat)(v:As[i]?=dB A)(q:aC)(J:∀q':aC,A.p h q'->∀b,q b->q' b)(R:aa (λb=>b<h.size/\¬q b) h h' (D::Bs)):aa B h0 h' (As.set i D++Bs):=by
 classical
 obtain⟨z,F,j,w,u⟩:=H;obtain⟨_,s,g,I,x⟩:=R;have t:=F.1;have E:=(qn.1 v).1;have m:∀b,q b->b<h.size/\j b=i+1:=J _ (u i A v);have y:∀b,B b->b<h.size/\¬q b:=λb a=>⟨qR (z b a) t,λo=>by have:=w b a;have:=m b o;omega⟩
 let c:Nat->Nat:=λb=>if b<h.size/\¬q b then(if j b=i+1 then 0 else j b)else if g b=0 then 0 else if g b=1 then i+1 else As.length+g b-1
 have f:∀b,b<h.size/\¬q b->j b≠i+1->c b=j b:=λb a K=>by show ite _ _ _=_;rw[g0 a,g9 K]
 have e:∀b,g b≠0->c b=if g b=1 then i+1 else As.length+g b-1:=λb a=>by
  have:¬(b<h.size/\¬q b):=λo=>a (I b o);show ite _ _ _=_;rw[g9 this,g9 a]
 refine⟨z,F.then s λb _ a=>y b a,c,λb a=>?_,λk r d=>?_⟩
 ·have:=w b a;rw[f b (y b a) i5];exact this
 ·by_cases G:k<i1 As
  ·rw[qo q6,q8]at d;split at d
   ·rename_i l;subst l;injection d with d
    subst d;refine D.mono (x 0 D i4) λb a=>⟨a.1,?_⟩
    rw[e b i5,g0 a.2]
   ·rename_i l;have n:∀b,b<h.size/\j b=k+1->b<h.size/\¬q b:=λb a=>⟨a.1,λo=>by have:=m b o;omega⟩
    refine r.mono (r.loc (u k r d) (s.mono λb _ a=>n b a)) λb a=>⟨qR a.1 s.1,?_⟩
    rw[f b (n b a) i5];exact a.2
  ·rw[qj q6]at d;rw[zh]at d;have L:=x (k-i1 As+1) r n5;refine r.mono L λb a=>⟨a.1,?_⟩
   rw[e b i5,g9 i5];omega
end
section
variable {B:aC} {α:Type} {h0 h h':f9} {As Bs:List HP} {A D:HP} {e k:Nat} {s:Sl} {f:α->bh} {l:List α}
theorem aa.off(H:aa B h0 h As)(i j:Nat)(g:i≠j)(o:As[i]?=dB (an e s k f l))(m:As[j]?=dB A):A.p h (λb=>b<h.size/\¬s.on b):=by
 obtain⟨_,_,c,_,a⟩:=H;refine A.mono (a j A m) λb n=>⟨n.1,λd=>?_⟩
 have:=(a i _ o).2 b d;omega
theorem aa.base(H:aa B h0 h As)(i:Nat)(j:As[i]?=dB (an e s k f l)){b:Nat}(g:B b):¬s.on b:=λd=>by
 obtain⟨_,_,c,z,a⟩:=H;have:=(a i _ j).2 b d;have:=z b g;omega
theorem aa.aiw(H:aa B h0 h (As++[D]))(i:Nat)(k:i<i1 As):aa B h0 h (As.set i D):=
 H.pick (λj=>if j<i1 As then(if j=i then As.length else j)else j+1) (λa b c=>by split at c<;>split at c<;>(try split at c)<;>(try split at c)<;>omega) λj A e=>by
  have f:j<i1 As:=by have:=(qn.1 e).1;simpa using this
  rw[g0 f];rw[q8]at e;split at e
  ·rename_i d;subst d;rw[g0 i4,qj (qm _),zc];exact e
  ·rename_i d;rw[g9 λg=>d g.symm,qo f];exact e
theorem aa.agn(H:aa B h0 h As)(i j:Nat){A2:HP}(n:As[i]?=dB A)(m:As[j]?=dB A2):aa B h0 h ((As.set i A2).set j A):=by
 have k:=(qn.1 n).1;have l:=(qn.1 m).1;refine H.pick (λx=>if x=j then i else if x=i then j else x) (λa b c=>by split at c<;>split at c<;>(try split at c)<;>(try split at c)<;>omega) λx o d=>?_;rw[q8,q8]at d;by_cases f:j=x
 ·subst f;simp[l]at d;subst d;simpa using n
 ·by_cases g:i=x
  ·subst g;simp[f,k]at d;subst d;rw[g9 λe=>f e.symm,g0 rfl];exact m
  ·simp[f,g]at d;rw[g9 λe=>f e.symm,g9 λe=>g e.symm];exact d
end
def bE{α:Type}(e k:Nat)(f:α->bh)(rs:List Sl)(a:List (List α)):List HP:=zi (λr l=>an e r k f l) rs a
section
variable {α:Type} {e k:Nat} {f:α->bh} {rs:List Sl} {ll:List (List α)}
theorem mS(h:i1 rs=i1 ll):i1 (bE e k f rs ll)=i1 ll:=by simp[bE,h]
theorem fX(h:i1 rs=i1 ll)(i:Nat)(a:i<i1 ll):(bE e k f rs ll)[i]?=dB (an e (rs[i]'(by omega)) k f ll[i]):=by
 have b:i<i1 rs:=i5
 simp[bE,we,qd a,qd b]
theorem Al(h:i1 rs=i1 ll)(r:Sl)(l:List α):bE e k f (rs++[r]) (ll++[l])=bE e k f rs ll++[an e r k f l]:=by unfold bE;rw[yG h];rfl
theorem lq(h:i1 rs=i1 ll)(i:Nat)(r:Sl)(l:List α):(bE e k f rs ll).set i (an e r k f l)=bE e k f (rs.set i r) (ll.set i l):=by
 apply zG;intro j;simp only[bE,q8,we,List.length_zipWith];by_cases a:i=j
 ·subst a;by_cases b:i<i1 ll
  ·have:i<i1 rs:=i5
   simp[b,this];omega
  ·have:¬i<i1 rs:=i5
   simp[b];omega
 ·simp[a]
theorem Tk(h:i1 rs=i1 ll)(i:Nat)(a:i<i1 ll)(l:List α):(bE e k f rs ll).set i (an e (rs[i]'(by omega)) k f l)=bE e k f rs (ll.set i l):=by rw[lq h,List.set_getElem_self]
theorem aa.Tl{B:aC}{m h:f9}{s:Sl}{b:Nat}(H:aa B m h (an b s 1 bv rs::bE e k f rs ll))(g:i1 rs=i1 ll)(j:∀x,i1 (f x)=k):fE h s k f ll:=by
 refine⟨rs,H.seq 0 i4 λ_=>rfl,g,λi r l d a=>?_⟩;have c:i<i1 ll:=(qn.1 a).1;have n:=fX (e:=e) (k:=k) (f:=f) g i c;have h3:=H.seq (i+1) (by simpa using n) j;have b:rs[i]'(by omega)=r:=by rw[qd i5]at d;simpa using d
 have e2:ll[i]=l:=by rw[qd c]at a;simpa using a
 rw[b,e2]at h3;exact h3
end
section
variable {α:Type} {h:f9} {p:aC} {s:Sl} {f:α->bh} {l:List α}
theorem Seq.SF{X:Type}{g:X->eX}(c:Seq h p s 1 f l){i:Int}(n:Nat)(j:i=n)(m:n<i1 l)(x:X)(q:f l[n]=[g x]){K:f7->X->Prop}(r:∀a:f7,f8 h (a.add (i.toNat*1))=dB (g x)->K a x):
  ∃a:f7,(s.ptr=dB a/\0<=i/\i<((s.len:Nat):Int))/\∃x:X,f8 h (a.add (i.toNat*1))=dB (g x)/\K a x:=by
 subst j;obtain⟨b,o,k,_,h3⟩:=c.elem n l[n] (qd m);rw[q]at h3;have e:=h3.1;rw[add_eq,wN]at e;have d:f8 h ((⟨b,o,eH⟩:f7).add ((n:Int).toNat*1))=dB (g x):=by rw[add_eq];simpa using e
 exact⟨_,⟨k,i5,o5⟩,x,d,r _ d⟩
end
theorem Seq.oq{h:f9}{p:aC}{s:Sl}{rs:List Sl}(c:Seq h p s 1 bv rs){i:Int}(n:Nat)(f:i=n)(j:n<i1 rs){K:f7->Sl->Prop}
  (l:∀a:f7,f8 h (a.add (i.toNat*1))=dB (.slice rs[n].ptr rs[n].len rs[n].cap)->p (a.add (i.toNat*1)).block->K a rs[n]):
  ∃a:f7,(s.ptr=dB a/\0<=i/\i<((s.len:Nat):Int))/\∃x:Sl,f8 h (a.add (i.toNat*1))=dB (.slice x.ptr x.len x.cap)/\K a x:=by
 subst f;obtain⟨b,o,g,k,h3⟩:=c.elem n rs[n] (qd j);have e:=h3.1;rw[add_eq,wN]at e;have d:f8 h ((⟨b,o,eH⟩:f7).add ((n:Int).toNat*1))=dB (.slice rs[n].ptr rs[n].len rs[n].cap):=by rw[add_eq];simpa using e
 exact⟨_,⟨g,i5,o5⟩,rs[n],d,l _ d (by rw[add_eq];exact k)⟩
section
variable {B:aC} {α:Type} {h0 h:f9} {As:List HP} {e k:Nat} {s:Sl} {f:α->bh} {l:List α}
theorem Own.cut(a:Own h e s k f l)(c:∀x,i1 (f x)=k)(j:Nat)(d:j<=i1 l):Own h e ⟨s.ptr,j,s.cap⟩ k f (l.take j):=by
 have g:=a.len;refine⟨i9,?_⟩;rcases a.head with⟨h1,h2,h3⟩|⟨b,rest,h1,h2,h3,h4⟩
 ·subst h3;exact .inl ⟨h1,h2,jj⟩
 ·refine .inr ⟨b,(l.drop j).flatMap f++rest,h1,?_,?_,i7⟩
  ·rw[<-qp,<-zg,qE];exact h2
  ·rw[qx,dK c,ze,h3,<-Nat.add_mul];dsimp only;congr 1;omega
end
section
variable {B:aC} {α:Type} {C:Ctx} {h0 h:f9} {As:List HP} {e t k:Nat} {s:Sl} {f:α->bh} {l:List α} {ti:TI}
end
section
variable {C:Ctx} {t t2 ty e k:Nat} {z:bh} {by_:Nat} {α:Type} {h h0:f9} {p B:aC} {s v:Sl} {f:α->bh} {l l2:List α} {As:List HP}
theorem Own.Mz(E:C.Ok)(D:bZ C.toDr t e k z by_)(u:∀x,i1 (f x)=k)(r:Own h e s k f l)(F:Seq h p v k f l2)(g:∀x,∀c∈f x,c.oneCell'=eR){K:Int->f9->Prop}
  (B:∀n h',Own h' e s k f (l2.take l.length++l.drop l2.length)->bc (λb=>¬s.on b) h h'->K n h'):
  aB C.P (yq #[t,t2] ty #[.slice s.ptr s.len s.cap,.slice v.ptr v.len v.cap]) (.one (.sc (.int .i64))) h K:=by
 unfold aB yq;simp only[zX,yA,qw];refine ag.bind (ag.always (aW (D.under E)) ?_);refine ag.bind (ag.pure' ?_);refine ag.bind (ag.always (D.size E) ?_);have a:=r.len;have d:=F.len;obtain⟨m,i⟩:∃m,m=Nat.min v.len s.len:=⟨_,rfl⟩
 rw[<-i];have o:m<=i1 l2:=by rw[i,<-d];exact Nat.min_le_left _ _
 have j:m<=i1 l:=by rw[i,<-a];exact Nat.min_le_right _ _
 have J:m=min l2.length l.length:=by rw[i,a,d]
 have q:=F.take m o;have H:l2.take l.length++l.drop l2.length=l2.take m++l.drop m:=by
  rcases Nat.le_total l2.length l.length with hh|hh
  ·rw[qi hh,show m=i1 l2 by omega,q9]
  ·rw[show m=i1 l by omega,zf hh,List.drop_length]
 rw[H]at B;have y:wH k m (.slice v.ptr v.len v.cap)=wH k m (.slice v.ptr m v.cap):=by cases v.ptr<;>rfl
 rw[y];refine ag.bind (gP (v:=⟨v.ptr,m,v.cap⟩) u q ?_);rcases r.head with⟨h1,h2,h3⟩|⟨b,rest,h1,h2,h3,h4⟩
 ·rw[h1];subst h3;have:m=0:=by simpa using j
  subst this;refine ag.pure' ⟨_,i4,B _ h ?_ (bc.refl _ _)⟩;simpa using r
 ·rw[h1];refine ag.bind ?_;have A:l.flatMap f++rest=(l.take m).flatMap f++((l.drop m).flatMap f++rest):=by rw[<-qp,<-zg,qE]
  rw[A]at h2;refine fC (e:=e) (pre:=[]) (old:=(l.take m).flatMap f) (post:=(l.drop m).flatMap f++rest) (by simpa using h2) (by rw[dK u,dK u,qY,qY];congr 1;omega) i4 ?_ ?_
  ·intro c G;obtain⟨x,_,w⟩:=zU.1 G;exact g x c w
  ·refine ag.pure' ⟨_,i4,B _ _ ⟨by rw[a,qx,qY,ze];omega,.inr ⟨b,rest,h1,?_,h3,h4⟩⟩ (bc.ki h2 λI=>I ⟨0,h1⟩)⟩;rw[iS h2,g0 i4,zg];simp
theorem aa.Mz(o:C.Ok)(H:aa B h0 h As)(i:Nat)(b:As[i]?=dB (an e s k f l))(d:bZ C.toDr t e k z by_)(g:∀x,i1 (f x)=k)(m:Seq h p v k f l2)(a:∀x,∀c∈f x,c.oneCell'=eR){K:Int->f9->Prop}
  (j:∀n h',aa B h0 h' (As.set i (an e s k f (l2.take l.length++l.drop l2.length)))->K n h'):
  aB C.P (yq #[t,t2] ty #[.slice s.ptr s.len s.cap,.slice v.ptr v.len v.cap]) (.one (.sc (.int .i64))) h K:=
 (H.own i b).Mz o d g m a λn h' x y=>j n h' (H.nR i b y x)
end
def OY(d:Sl)(w i:Nat):Sl:=⟨if d.cap=i*w then d.ptr else d.ptr.map (·.add (i*w*1)),(i+1)*w-i*w,d.cap-i*w⟩
def Hk{α:Type}(l:List α)(w i:Nat):List α:=(l.drop (i*w)).take w
theorem Seq.piece{α:Type}{h:f9}{p:aC}{s:Sl}{f:α->bh}{l:List α}(d:Seq h p s 1 f l)(b:s.len<=s.cap)(w i:Nat)(g:(i+1)*w<=i1 l):Seq h p (OY s w i) 1 f (Hk l w i):=by
 have c:=d.drop (i*w) b;have e:(i+1)*w=i*w+w:=zT i w;have a:=c.take w l5;have e2:(i+1)*w-i*w=w:=i5
 unfold OY Hk;rw[e2];exact a
theorem ahl{α:Type}{l:List α}{w i:Nat}(a:(i+1)*w<=i1 l):i1 (Hk l w i)=w:=by have e:(i+1)*w=i*w+w:=zT i w;simp only[Hk,qY,ze];omega
def HP.sep(A D:HP):HP:=
 ⟨λh q=>∃f i:aC,(∀b,f b->¬i b)/\(∀b,f b->q b)/\(∀b,i b->q b)/\A.p h f/\D.p h i,
  λ⟨f,i,a,b,c,d,e⟩ hp=>⟨f,i,a,b,c,A.loc d (hp.mono λx _ g=>b x g),D.loc e (hp.mono λx _ g=>c x g)⟩,
  λ⟨f,i,a,b,c,d,e⟩ hq=>⟨f,i,a,λx g=>hq x (b x g),λx g=>hq x (c x g),d,e⟩⟩
def HP.ex{ι:Type}(F:ι->HP):HP:=⟨λh q=>∃i,(F i).p h q,λ⟨i,a⟩ hp=>⟨i,(F i).loc a hp⟩,λ⟨i,a⟩ hq=>⟨i,(F i).mono a hq⟩⟩
def HP.and(A:HP)(P:Prop):HP:=⟨λh q=>A.p h q/\P,λa c=>⟨A.loc a.1 c,a.2⟩,λa b=>⟨A.mono a.1 b,a.2⟩⟩
section
variable {B:aC} {h0 h h':f9} {As Bs:List HP} {A D E:HP} {i j:Nat}
theorem aa.split(H:aa B h0 h As)(i:Nat)(n:As[i]?=dB (A.sep D)):aa B h0 h (As.set i A++[D]):=by
 classical
 obtain⟨t,p,c,z,a⟩:=H;obtain⟨w,q,u,m,s2,r,o⟩:=a i _ n;have v:=(qn.1 n).1;refine⟨t,p,λb=>if q b then As.length+1 else c b,λb e=>?_,λj X d=>?_⟩
 ·have s:=z b e;dsimp only;rw[g9];exact s;intro g;have:=(s2 b g).2;omega
 ·by_cases l:j<i1 As
  ·rw[qo o6,q8]at d;split at d
   ·rename_i f;subst f
    first|rw[g0 l]at d|skip
    injection d with d
    subst d;refine A.mono r λb e=>⟨(m b e).1,?_⟩
    dsimp only;rw[g9 (u b e)];exact(m b e).2
   ·rename_i f;refine X.mono (a j X d) λb e=>⟨e.1,?_⟩
    dsimp only;rw[g9];exact e.2;intro g;have:=(s2 b g).2;omega
  ·rw[qj o6]at d;rw[zh]at d;have k:j=i1 As:=by have:=(qn.1 d).1;simp at this;omega
   subst k;simp at d;subst d;refine D.mono o λb e=>⟨(s2 b e).1,?_⟩
   dsimp only;rw[g0 e]
theorem aa.join(H:aa B h0 h As)(i j:Nat)(a:i≠j)(k:As[i]?=dB A)(e:As[j]?=dB D):aa B h0 h ((As.set i (A.sep D)).set j emp):=
 H.merge i j a k e λc f d g l=>⟨c,f,d,λ_ b=>.inl b,λ_ b=>.inr b,g,l⟩
theorem aa.YO{ι:Type}{F:ι->HP}(H:aa B h0 h As)(i:Nat)(f:As[i]?=dB (HP.ex F)):∃x,aa B h0 h (As.set i (F x)):=by
 obtain⟨g,p,c,z,a⟩:=H;obtain⟨x,e⟩:=a i _ f;refine⟨x,g,p,c,z,λj X b=>?_⟩;rw[q8]at b;split at b
 ·rename_i d;subst d;split at b
  ·injection b with b;subst b;exact e
  ·cases b
 ·exact a j X b
theorem aa.close'{ι:Type}{F:ι->HP}(H:aa B h0 h As)(i:Nat)(x:ι)(a:As[i]?=dB (F x)):aa B h0 h (As.set i (HP.ex F)):=H.fZ i a λ_ b=>⟨x,b⟩
theorem aa.fact{P:Prop}(H:aa B h0 h As)(i:Nat)(a:As[i]?=dB (A.and P)):P:=(H.at i a).2
theorem aa.ago{P:Prop}(H:aa B h0 h As)(i:Nat)(a:As[i]?=dB (A.and P)):aa B h0 h (As.set i A):=H.fZ i a λ_ b=>b.1
theorem aa.ajV{P:Prop}(H:aa B h0 h As)(i:Nat)(a:As[i]?=dB A)(c:P):aa B h0 h (As.set i (A.and P)):=H.fZ i a λ_ b=>⟨b,c⟩
theorem aa.cons(H:aa B h0 h As)(i:Nat)(g:As[i]?=dB A):aa B h0 h (A::As.set i emp):=by
 obtain⟨l,p,c,z,a⟩:=H;have k:=(qn.1 g).1;refine⟨l,p,λb=>if c b=i+1 then 1 else if c b=0 then 0 else c b+1,λb e=>?_,λj X d=>?_⟩
 ·have:=z b e;dsimp only;rw[g9 i5,g0 this]
 ·cases j with
  |zero=>
   simp at d;subst d;refine A.mono (a i A g) λb e=>⟨e.1,by dsimp only;rw[g0 e.2]⟩
  |succ j=>
   rw[qw,q8]at d;split at d
   ·rename_i f;injection d with d;subst d;trivial
   ·rename_i f;refine X.mono (a j X d) λb e=>⟨e.1,by dsimp only;rw[g9 i5,g9 i5];omega⟩
theorem aa.rest(H:aa B h0 h (A::As)):aa B h0 h As:=H.pick (λj=>j+1) (λa b h=>i5) λj X c=>m6
end
structure jp (α β:Type) where
 p:f9->aC->α->β->Prop
 loc:∀{h h':f9} {q:aC} {a:α} {b:β},p h q a b->bc q h h'->p h' q a b
 mono:∀{h:f9} {q q':aC} {a:α} {b:β},p h q a b->(∀x,q x->q' x)->p h q' a b
def cz{α:Type}(k:Nat)(f:α->bh):jp Sl (List α):=⟨λh q s l=>Seq h q s k f l,λa c=>a.ai c,λa b=>a.mono b⟩
def uI{α:Type}(k:Nat)(f:α->bh):jp Sl (List α):=⟨λh q s l=>Seq h q s k f l/\(l=[]->s.ptr=eH),λa c=>⟨a.1.ai c,a.2⟩,λa b=>⟨a.1.mono b,a.2⟩⟩
def bK{α β:Type}(E:jp α β)(k:Nat)(f:α->bh):jp Sl (List β):=
 ⟨λh q s ll=>∃rs:List α,Seq h q s k f rs/\rs.length=i1 ll/\∀(i:Nat) r l,rs[i]?=dB r->ll[i]?=dB l->E.p h q r l,
  λ⟨rs,a,b,c⟩ hp=>⟨rs,a.ai hp,b,λi r l e d=>E.loc (c i r l e d) hp⟩,λ⟨rs,a,b,c⟩ hq=>⟨rs,a.mono hq,b,λi r l e d=>E.mono (c i r l e d) hq⟩⟩
def aix{α β:Type}(E:jp α β)(P:α->β->Prop):jp α β:=⟨λh q a b=>E.p h q a b/\P a b,λa d=>⟨E.loc a.1 d,a.2⟩,λa c=>⟨E.mono a.1 c,a.2⟩⟩
def EA{α β:Type}(E:jp α β)(a:α)(b:β):HP:=⟨λh q=>E.p h q a b,λx d=>E.loc x d,λx c=>E.mono x c⟩
abbrev dV{α β:Type}(E:jp α β)(h:f9)(a:α)(b:β):Prop:=E.p h (λb=>b<h.size) a b
def ce{α β:Type}(e:TypeId)(s:Sl)(k:Nat)(f:α->bh)(E:jp α β)(m:List β):HP:=
 ⟨λh q=>∃(rs:List α) (j:aC),Own h e s k f rs/\(∀b,s.on b->q b/\¬j b)/\(∀b,j b->q b)/\rs.length=i1 m/\∀(i:Nat) r l,rs[i]?=dB r->m[i]?=dB l->E.p h j r l,
  λ⟨rs,j,a,b,c,d,e⟩ hp=>⟨rs,j,a.ai hp λx g=>(b x g).1,b,c,d,λi r l n o=>E.loc (e i r l n o) (hp.mono λx _ g=>c x g)⟩,
  λ⟨rs,j,a,b,c,d,e⟩ hq=>⟨rs,j,a,λx g=>⟨hq x (b x g).1,(b x g).2⟩,λx g=>hq x (c x g),d,e⟩⟩
section
variable {α β:Type} {E:jp α β} {k:Nat} {f:α->bh} {h h':f9} {q:aC} {s:Sl} {ll:List β} {a:α} {b:β}
theorem dV.up(x:dV E h a b)(c:bc (λb=>b<h.size) h h'):dV E h' a b:=E.mono (E.loc x c) λ_ d=>qR d c.1
theorem bK.kO(x:(bK E k f).p h q s ll):∃rs:List α,Seq h q s k f rs/\rs.length=i1 ll/\∀(i:Nat) (e:i<i1 rs) (d:i<i1 ll),E.p h q rs[i] ll[i]:=by obtain⟨rs,a,b,c⟩:=x;exact⟨rs,a,b,λi e d=>c i _ _ (qd e) (qd d)⟩
theorem bK.len(x:(bK E k f).p h q s ll):s.len=i1 ll:=by obtain⟨rs,a,b,c⟩:=x;rw[a.len,b]
theorem bK.nil(h:f9)(q:aC)(a:aM)(c:Nat):(bK E k f).p h q ⟨a,0,c⟩ []:=⟨[],Seq.nil h q c a k f,i4,λi r l b=>by simp at b⟩
theorem bK.take(x:(bK E k f).p h q s ll)(n:Nat)(j:n<=i1 ll):(bK E k f).p h q ⟨s.ptr,n,s.cap⟩ (ll.take n):=by
 obtain⟨rs,a,b,c⟩:=x;refine⟨rs.take n,a.take n i5,m0,λi r l d e=>?_⟩;rw[vf]at d e;split at d
 ·rename_i g;rw[g0 g]at e;exact c i r l d e
 ·cases d
theorem bK.get{X:Type}{g:X->eX}(x:(bK E 1 f).p h q s ll){i:Int}(n:Nat)(c:i=n)(b:n<i1 ll)(u:α->X)(d:∀r,f r=[g (u r)]){K:X->Prop}(e:∀r,E.p h q r ll[n]->K (u r)):
  ∃a:f7,(s.ptr=dB a/\0<=i/\i<((s.len:Nat):Int))/\∃x:X,f8 h (a.add (i.toNat*1))=dB (g x)/\K x:=by
 obtain⟨rs,j,k,h3⟩:=bK.kO x;exact j.bG n c i5 (u (rs[n]'(by omega))) (d _) (e _ (h3 n i5 b))
theorem bK.oq{E:jp Sl β}(x:(bK E 1 bv).p h q s ll){i:Int}(n:Nat)(c:i=n)(b:n<i1 ll){K:Sl->Prop}(d:∀r,E.p h q r ll[n]->K r):
  ∃a:f7,(s.ptr=dB a/\0<=i/\i<((s.len:Nat):Int))/\∃x:Sl,f8 h (a.add (i.toNat*1))=dB (.slice x.ptr x.len x.cap)/\K x:=
 bK.get (g:=λr:Sl=>Value.slice r.ptr r.len r.cap) x n c b id (λ_=>rfl) d
theorem bK.aiy{γ:Type}{a:Nat}{g:γ->bh}{l:List (List γ)}{rs:List Sl}(x:ia h q s a g l rs):(bK (cz a g) 1 bv).p h q s l:=⟨rs,x.top,x.len,x.row⟩
theorem bK.tofE{γ:Type}{d:Nat}{g:γ->bh}{l:List (List γ)}(x:dV (bK (cz d g) 1 bv) h s l):fE h s d g l:=by obtain⟨rs,a,b,c⟩:=x;exact⟨rs,a,b,c⟩
theorem bK.impl{α':Type}{e:Type}{E':jp α e}(u:β->e)(g:∀{h q a b},E.p h q a b->E'.p h q a (u b))(x:(bK E k f).p h q s ll):(bK E' k f).p h q s (ll.map u):=by
 obtain⟨rs,a,b,c⟩:=x;refine⟨rs,a,m0,λi r l j d=>?_⟩;rw[qU]at d;cases h3:ll[i]? with
 |none=>rw[h3]at d;cases d
 |some y=>rw[h3]at d;simp at d;subst d;exact g (c i r y j h3)
end
section
variable {α β:Type} {E:jp α β} {C:Ctx} {k e t:Nat} {f:α->bh} {B:aC} {h0 h h':f9} {As:List HP} {s:Sl} {ll:List β} {z:bh} {by_:Nat}
theorem aa.Hl(H:aa B h0 h As)(e k:Nat)(f:α->bh)(E:jp α β):aa B h0 h (As++[ce e ⟨eH,0,0⟩ k f E []]):=
 H.comp (.one (bc.refl _ _) ⟨[],λ_=>False,Own.nil h e k f,λb a=>(by obtain⟨o,a⟩:=a;cases a),λ_ a=>a.elim,rfl,λi r l h=>m9⟩)
theorem aa.Qu(H:aa B h0 h As)(i:Nat)(n:As[i]?=dB (ce e s k f E ll))(m:∀x,i1 (f x)=k):dV (bK E k f) h s ll:=by obtain⟨rs,p,a,b,c,d,e⟩:=H.at i n;exact⟨rs,a.seq m λx j=>(b x j).1,d,λi r l o g=>E.mono (e i r l o g) c⟩
theorem aa.XS(H:aa B h0 h As)(i:Nat)(n:As[i]?=dB (ce e s k f E ll))(m:∀x,i1 (f x)=k):aa B h0 h (As.set i (EA (bK E k f) s ll)):=
 H.fZ i n λq ⟨rs,p,a,b,c,d,e⟩=>⟨rs,a.seq m λx j=>(b x j).1,d,λi r l o g=>E.mono (e i r l o g) c⟩
theorem aa.eAt{a:α}{b:β}(H:aa B h0 h As)(i:Nat)(c:As[i]?=dB (EA E a b)):dV E h a b:=H.at i c
theorem aa.YP(H:aa B h0 h As)(i:Nat)(g:As[i]?=dB (ce e s k f E ll)):s.len=i1 ll/\s.len<=s.cap:=by obtain⟨rs,j,a,b,c,d,e⟩:=H.at i g;exact⟨by rw[a.len,d],a.cap⟩
theorem aa.tO(hC:C.Ok)(H:aa B h0 h As)(i j:Nat)(A:i≠j){a:α}{b:β}(Y:As[i]?=dB (ce e s k f E ll))(hj:As[j]?=dB (EA E a b))(he:bZ C.toDr t e k z by_)(hz:i1 z=k)(U:0<by_/\by_<=128)(hw:∀x,i1 (f x)=k)
  (O:∀x,∀c∈f x,c.oneCell'=eR) {parts:Array (Nat×eX)} (L:wC (λi=>dB (i*k,k)) (jf z 1).toArray parts.toList=dB ([a].flatMap f).toArray) (X:1*k<=2^20)
  (ab:i1 ll+1<=2^32) {ty:Nat} {K:Sl->f9->Prop} (hk:∀T h',aa B h0 h' ((As.set j emp).set i (ce e T k f E (ll++[b])))->K T h'):
  aB C.P (qq t 1 parts) (.one (.sc .slc)) h λv u=>aB C.P (qt #[t,t] ty #[.slice s.ptr s.len s.cap,.slice v.ptr v.len v.cap]) (.one (.sc .slc)) u K:=by
 have H2:=H.merge i j A Y hj (D:=⟨λh q=>∃(rs:List α) (g:aC),Own h e s k f rs/\(∀b,s.on b->q b/\¬g b)/\(∀b,g b->q b)/\rs.length=i1 ll/\(∀(i:Nat) r l,rs[i]?=dB r->ll[i]?=dB l->E.p h g r l)/\E.p h g a b,
  λ⟨rs,g,a,b,c,d,e,f⟩ hp=>⟨rs,g,a.ai hp λx n=>(b x n).1,b,c,d,λi r l u G=>E.loc (e i r l u G) (hp.mono λx _ n=>c x n),E.loc f (hp.mono λx _ n=>c x n)⟩,
  λ⟨rs,g,a,b,c,d,e,f⟩ hq=>⟨rs,g,a,λx n=>⟨hq x (b x n).1,(b x n).2⟩,λx n=>hq x (c x n),d,e,f⟩⟩)
  (λg q2 hd hA hB=>by
   obtain⟨rs,q3,a,b,c,d,e'⟩:=hA;refine⟨rs,λb=>q3 b∨q2 b,a,λx n=>⟨.inl (b x n).1,λS=>S.elim (b x n).2 (hd x (b x n).1)⟩,λx n=>n.elim (λh=>.inl (c x h)) .inr,d,λi r l u G=>E.mono (e' i r l u G) λ_ h=>.inl h,E.mono hB λ_ h=>.inr h⟩)
 have y:i<i1 As:=(qn.1 Y).1;obtain⟨lo,pp,c,zz,ax⟩:=H2;have ha:=ax i _ (by rw[zC (Ne.symm A),zm y]);obtain⟨rs,g,a1,a2,a3,a4,a5,a6⟩:=ha;let Z:Nat->Nat:=λb=> @ite _ (g b) (Classical.propDecidable _) (i1 As+2) (c b);have M:∀b,g b->b<h.size/\c b=i+1:=a3;have ho:dQ h Z (i+1) e s k f rs:=⟨a1,λb m=>by
  have:=a2 b m;show @ite _ (g b) (Classical.propDecidable _) _ _=_;rw[g9 this.2];exact this.1.2⟩
 refine ho.push hC he hz U hw O a L X i5 λT h' F J=>hk T h' ?_;rw[vy _ _ (Ne.symm A)];rw[<-yt (l:=As) (i:=i),vy _ _ A];have Q:∀b,g b->Z b≠i+1:=λb m=>by
  show @ite _ (g b) (Classical.propDecidable _) _ _≠_;rw[g0 m];omega
 refine aa.Ey lo pp zz ax (J.mono λb m hn hc=>hn ⟨m,?_⟩) ⟨rs++[a],λb=>g b/\b<h.size,F.own,λb m=>?_,λb m=>⟨qR m.2 J.1,.inl ⟨m.2,(M b m.1).2⟩⟩,by simp[a4],λV r' l' u G=>?_⟩
 ·by_cases I:g b
  ·exact(M b I).2
  ·have o:@ite _ (g b) (Classical.propDecidable _) (i1 As+2) (c b)=i+1:=hc;rw[g9 I]at o;exact o
 ·have w:=F.bA b m;by_cases y:b<h.size
  ·rw[gJ y]at w;have N:¬g b:=λI=>Q b I w;have o:@ite _ (g b) (Classical.propDecidable _) (i1 As+2) (c b)=i+1:=w;rw[g9 N]at o;exact⟨⟨F.own.lt m,.inl ⟨y,o⟩⟩,λS=>N S.1⟩
  ·exact⟨⟨F.own.lt m,.inr i5⟩,λS=>y S.2⟩
 ·have R:∀{rr:α} {l:β},E.p h g rr l->E.p h' (λb=>g b/\b<h.size) rr l:=λhs=>
   E.loc (E.mono hs (q':=λb=>g b/\b<h.size) λb m=>⟨m,(M b m).1⟩) (J.mono λb _ m=>Q b m.1)
  by_cases W:V<i1 rs
  ·rw[qo W]at u;rw[qo i5]at G;exact R (a5 V r' l' u G)
  ·have:V=i1 rs:=by have:=(qn.1 u).1;simp at this;omega
   subst this;simp at u;rw[a4]at G;simp at G;subst u;subst G;exact R a6
theorem aa.akp{Q:TI}(hC:C.Ok)(H:aa B h0 h As)(i j:Nat)(y:i≠j){a:α}{b:β}(N:As[i]?=dB (ce e s k f E ll))(S:As[j]?=dB (EA E a b))(hw:∀x,i1 (f x)=k)(ht:C.T.get t=dB Q){x:Int}(n:Nat)(g:x=n)(hn:n<i1 ll){J:eX}(hv:J.cells=(f a).toArray)(M:Q.size=k)
  (I:(f a).all (·.oneCell')=eR) {K:f9->Prop} (hk:∀h',aa B h0 h' ((As.set j emp).set i (ce e s k f E (ll.set n b)))->K h'):
  ∃a:f7,(s.ptr=dB a/\0<=x/\x<((s.len:Nat):Int))/\ag C.P (qf t (.pointer (dB (a.add (x.toNat*k)))) J) h λ_ h'=>K h':=by
 have H2:=H.merge i j y N S (D:=⟨λh q=>∃(rs:List α) (m:aC),Own h e s k f rs/\(∀b,s.on b->q b/\¬m b)/\(∀b,m b->q b)/\rs.length=i1 ll/\(∀(i:Nat) r l,rs[i]?=dB r->ll[i]?=dB l->E.p h m r l)/\E.p h m a b,
  λ⟨rs,m,a,b,c,d,e,f⟩ hp=>⟨rs,m,a.ai hp λx g=>(b x g).1,b,c,d,λi r l o u=>E.loc (e i r l o u) (hp.mono λx _ g=>c x g),E.loc f (hp.mono λx _ g=>c x g)⟩,
  λ⟨rs,m,a,b,c,d,e,f⟩ hq=>⟨rs,m,a,λx g=>⟨hq x (b x g).1,(b x g).2⟩,λx g=>hq x (c x g),d,e,f⟩⟩)
  (λm W hd X U=>by
   obtain⟨rs,q3,a,b,c,d,V⟩:=X;refine⟨rs,λb=>q3 b∨W b,a,λx g=>⟨.inl (b x g).1,λY=>Y.elim (b x g).2 (hd x (b x g).1)⟩,λx g=>g.elim (λh=>.inl (c x h)) .inr,d,λi r l o u=>E.mono (V i r l o u) λ_ h=>.inl h,E.mono U λ_ h=>.inr h⟩)
 have L:i<i1 As:=(qn.1 N).1;obtain⟨lo,pp,c,zz,ax⟩:=H2;have ha:=ax i _ (by rw[zC (Ne.symm y),zm L]);obtain⟨rs,m,R,G,a3,a4,a5,a6⟩:=ha;refine R.set hC hw ht n g i5 a hv M I λh' z w _=>hk h' ?_;rw[vy _ _ (Ne.symm y)];rw[<-yt (l:=As) (i:=i),vy _ _ y];have keep:∀{O:α} {l:β},E.p h m O l->E.p h' m O l:=λhs=>E.loc hs (w.mono λb _ v F=>(G b F).2 v);refine aa.Ey lo pp zz ax (w.mono λb _ v F=>v (G b F).1) ⟨rs.set n a,m,z,λb v=>⟨⟨qR (G b v).1.1 w.1,.inl (G b v).1⟩,(G b v).2⟩,λb v=>⟨qR (a3 b v).1 w.1,.inl (a3 b v)⟩,by simp[a4],λZ r' l' o u=>?_⟩;rw[q8]at o u;split at o
 ·rename_i A;rw[g0 A]at u;split at o
  ·injection o with o;subst o
   have e:l'=b:=by rw[g0 i5]at u;exact(zR.inj u).symm
   subst e;exact keep a6
  ·cases o
 ·rename_i A;rw[g9 A]at u;exact keep (a5 Z r' l' o u)
end
section
variable {α β:Type} {E:jp α β} {k e:Nat} {f:α->bh} {B:aC} {h0 h:f9} {As:List HP} {s:Sl}
theorem aa.aiz(H:aa B h0 h As)(i j:Nat)(c:i≠j){a:α}{b:β}(p:As[i]?=dB (an e s k f [a]))(o:As[j]?=dB (EA E a b)):aa B h0 h ((As.set i (ce e s k f E [b])).set j emp):=
 H.merge i j c p o λw t u d q=>⟨[a],t,d.1,λx n=>⟨.inl (d.2 x n),u x (d.2 x n)⟩,λ_ v=>.inr v,i4,λi r l g m=>by
  cases i with
  |succ i=>simp at g
  |zero=>simp at g m;subst g;subst m;exact q⟩
theorem aa.MB{α:Type}{f:α->bh}{l:List α}(H:aa B h0 h As)(i:Nat)(c:As[i]?=dB (an e s k f l))(b:∀x,i1 (f x)=k):aa B h0 h (As.set i (EA (cz k f) s l)):=H.fZ i c λ_ a=>a.1.seq b a.2
end
section
variable {α:Type} {B:aC} {h0 h:f9} {As:List HP} {e e2 k:Nat} {s:Sl} {f:α->bh} {rs:List Sl} {ll:List (List α)}
theorem aa.ahm(H:aa B h0 h (As++(an e s 1 bv rs::bE e2 k f rs ll)))(A:i1 rs=i1 ll)(D:∀x,i1 (f x)=k)(n:Nat)(K:n<=i1 ll):aa B h0 h (As++[ce e ⟨s.ptr,n,s.cap⟩ 1 bv (cz k f) (ll.take n)]):=by
 classical
 obtain⟨E,p,c,z,a⟩:=H;refine⟨E,p,λb=>if c b>i1 As then As.length+1 else c b,λb d=>?_,λj X g=>?_⟩
 ·have:=z b d;dsimp only;rw[g9 i5];exact this
 ·by_cases m:j<i1 As
  ·rw[qo m]at g;refine X.mono (a j X (by rw[qo m];exact g)) λb d=>⟨d.1,?_⟩
   dsimp only;rw[g9 i5];exact d.2
  ·rw[qj i5]at g;have v:j=i1 As:=by have:=(qn.1 g).1;simp at this;omega
   subst v;simp at g;subst g;have y:=a As.length (an e s 1 bv rs) (by rw[qj (qm _)];simp);refine⟨rs.take n,λb=>b<h.size/\c b>i1 As+1,y.1.cut (λ_=>rfl) n i5,λb d=>?_,λb d=>?_,by simp[A],λi r l o h3=>?_⟩
   ·have u:=y.2 b d;refine⟨⟨u.1,?_⟩,λJ=>i5⟩;dsimp only;rw[g0 i5]
   ·refine⟨d.1,?_⟩;dsimp only;rw[g0 i5]
   ·rw[vf]at o h3;split at o
    ·rename_i t;rw[g0 t]at h3;have w:i<i1 ll:=(qn.1 h3).1;have G:=fX (e:=e2) (k:=k) (f:=f) A i w;have q:=a (i1 As+(i+1)) _ (by rw[qj i5];simpa using G);have I:rs[i]'(by omega)=r:=by rw[qd i5]at o;simpa using o
     have F:ll[i]=l:=by rw[qd w]at h3;simpa using h3
     rw[I,F]at q;exact q.1.seq D λb d=>⟨(q.2 b d).1,by have:=(q.2 b d).2;omega⟩
    ·cases o
theorem aa.SG{s:Sl}{a:List (List α)}(H:aa B h0 h As)(i:Nat)(b:As[i]?=dB (fR e s k f a)):aa B h0 h (As.set i (ce e s 1 bv (cz k f) a)):=H.fZ i b λ_ c=>c
end
theorem fE.toE{α:Type}{h:f9}{s:Sl}{k:Nat}{f:α->bh}{b:List (List α)}(x:fE h s k f b):dV (bK (cz k f) 1 bv) h s b:=by obtain⟨rs,a⟩:=x;exact bK.aiy a
theorem Qv{h h':f9}{p:aC}(a:bc p h h'):∀{L:az},L.ok h->(∀x∈L,p x.1.block)->L.ok h'
 |[],_,_=>trivial
 |x::L,hk,hq=>⟨a.cell (hq x jj) hk.1,Qv a hk.2 λy b=>hq y m0⟩
theorem kP{h h':f9}(d:bc (λb=>b<h.size) h h'){L:az}(c:L.ok h):L.ok h':=Qv d c (by
 clear d
 induction L with
 |nil=>intro x a;cases a
 |cons y L ih=>
  intro x a;rcases zb.1 a with rfl|a
  ·exact wn c.1
  ·exact ih c.2 x a)
theorem aB.both{P:Program}{s:Sem eX}{h:f9}{K:Sl->f9->Prop}{Q:f9->Prop}(e:aB P s (.one (.sc .slc)) h λ_ h'=>Q h')(i:aB P s (.one (.sc .slc)) h K):aB P s (.one (.sc .slc)) h λx h'=>Q h'/\K x h':=by intro w c;obtain⟨n,o,a,d,k,a3,a4⟩:=e w c;obtain⟨j,l,b,m,x2,f,g⟩:=i w c;rw[a]at b;cases b;exact⟨_,_,a,d,x2,f,a4,g⟩
theorem aa.px{α:Type}{B:aC}{C:Ctx}{q h:f9}{As:List HP}{e t k d:Nat}{z:bh}{K:Sl->f9->Prop}(o:C.Ok)(H:aa B q h As)(f:α->bh)(m:bZ C.toDr t e k z d)(c:i1 z=k){n:Nat}{parts:Array (Nat×eX)}(l:List α)(p:i1 l=n)(b:n*k<=2^20)
  (a:wC (λi=>dB (i*k,k)) (jf z n).toArray parts.toList=dB (l.flatMap f).toArray) {L:az} (j:L.ok h) (r:aB C.P (qq t n parts) (.one (.sc .slc)) h K):
  aB C.P (qq t n parts) (.one (.sc .slc)) h λx h'=>L.ok h'/\K x h':=
 aB.both ((Sp.refl h).lit o f m c l p b a λ_ _ g=>kP g.ai j) r
section
variable {B:aC} {h0 h h':f9} {As Bs:List HP} {A D E:HP} {i j:Nat}
theorem aa.front(H:aa B h0 h (As++Bs)):aa B h0 h (Bs++As):=
 H.pick (λj=>if j<i1 Bs then As.length+j else if j<i1 Bs+i1 As then j-i1 Bs else j)
  (λa b c=>by(try dsimp only at c);split at c<;>split at c<;>(try split at c)<;>(try split at c)<;>omega) λj X d=>by
  try dsimp only
  split
  ·rename_i e;rw[qo e]at d;rw[qj i5,zr];exact d
  ·rename_i e;rw[qj i5]at d;have:=(qn.1 d).1;rw[g0 i5,qo this];exact d
theorem aa.bB(H:aa B h0 h (As++[A])):aa B h0 h (A::As):=H.front
theorem aa.cm(H:aa B h0 h As)(R:Sp h h' [A]):aa B h0 h' (A::As):=(H.comp R).bB
theorem aa.oV(H:aa B h0 h (A::As)):aa B h0 h As:=H.rest
theorem aa.rh(H:aa B h0 h (A::D::As)):aa B h0 h (A::As):=H.del 1
theorem aa.tQ{ι:Type}{F:ι->HP}(H:aa B h0 h (HP.ex F::As)):∃x,aa B h0 h (F x::As):=H.YO 0 i4
theorem aa.Am{ι:Type}{F:ι->HP}(x:ι)(H:aa B h0 h (F x::As)):aa B h0 h (HP.ex F::As):=H.close' 0 x i4
theorem aa.uh(H:aa B h0 h (A.sep D::As)):aa B h0 h (D::A::As):=(H.split 0 i4).bB
theorem aa.mu(H:aa B h0 h (D::A::As)):aa B h0 h (A.sep D::As):=by have a:aa B h0 h (emp::A.sep D::As):=H.join 1 0 i6 i4 i4;exact a.rest
theorem aa.oC(H:aa B h0 h (A::D::As)):aa B h0 h (D::A::As):=H.agn 0 1 i4 i4
end
theorem Seq.mv{h:f9}{p:aC}{s:Sl}{rs:List Sl}(e:Seq h p s 1 bv rs){i:Int}(n:Nat)(c:i=n)(b:n<i1 rs){K:Sl->Prop}(d:K rs[n]):
  ∃a:f7,(s.ptr=dB a/\0<=i/\i<((s.len:Nat):Int))/\∃x:Sl,f8 h (a.add (i.toNat*1))=dB (.slice x.ptr x.len x.cap)/\K x:=
 e.bG (g:=λr:Sl=>Value.slice r.ptr r.len r.cap) n c b rs[n] i4 d
def St(B:aC)(a:f9)(As:List HP)(Q:f9->Prop):Prop:=∀(Bs:List HP) (h':f9),aa B a h' (Bs++As)->Q h'
section
variable {B:aC} {h0 h h':f9} {As Bs:List HP} {A:HP} {Q:f9->Prop}
theorem St.at(x:St B h0 As Q)(Bs:List HP)(H:aa B h0 h (Bs++As)):Q h:=x Bs h H
theorem St.base(b:Q h0)(a:∀h',bc B h0 h'->Q h'):St B h0 As Q:=λ_ _ H=>a _ H.ai
theorem St.eE(j:Nat)(a:As[j]?=dB A)(c:∀h',A.p h' (λb=>b<h'.size)->Q h'):St B h0 As Q:=λBs h' H=>c _ (H.at (i1 Bs+j) (by rw[qj i5,zr];exact a))
theorem St.cons(x:St B h0 As Q):St B h0 (A::As) Q:=λBs h' H=>x (Bs++[A]) h' (by rw[qp];exact H)
end
section
variable {β:Type} {E:jp Sl β} {h:f9} {q:aC} {s:Sl} {ll:List β}
theorem bK.akq(x:(bK E 1 bv).p h q s ll){i:Int}(n:Nat)(g:i=n)(j:n<i1 ll){K:Sl->Prop}(l:∀(a:f7) (r:Sl),s.ptr=dB a->f8 h (a.add (n*1))=dB (.slice r.ptr r.len r.cap)->E.p h q r ll[n]->K r):
  ∃a:f7,(s.ptr=dB a/\0<=i/\i<((s.len:Nat):Int))/\∃x:Sl,f8 h (a.add (i.toNat*1))=dB (.slice x.ptr x.len x.cap)/\K x:=by
 subst g;obtain⟨rs,c,m,h3⟩:=bK.kO x;obtain⟨b,o,f,e2,k⟩:=c.elem n (rs[n]'(by omega)) (qd i5);have e:=k.1;rw[add_eq,wN]at e;have d:f8 h ((⟨b,o,eH⟩:f7).add (n*1))=dB (.slice (rs[n]'(by omega)).ptr (rs[n]'(by omega)).len (rs[n]'(by omega)).cap):=by rw[add_eq];exact e
 refine⟨_,⟨f,i5,o5⟩,rs[n]'(by omega),by rw[ql];exact d,l _ _ f d (h3 n i5 j)⟩
theorem bK.pick(x:(bK E 1 bv).p h q s ll)(n:Nat)(j:n<i1 ll){a:f7}{r:Sl}(l:s.ptr=dB a)(g:f8 h (a.add (n*1))=dB (.slice r.ptr r.len r.cap)):E.p h q r ll[n]:=by
 obtain⟨rs,i,v,h3⟩:=bK.kO x;obtain⟨b,o,d,e2,k⟩:=i.elem n (rs[n]'(by omega)) (qd i5);rw[l]at d;injection d with d
 subst d;have f:=k.1;rw[add_eq,wN]at f;have c:f8 h ((⟨b,o,eH⟩:f7).add (n*1))=dB (.slice (rs[n]'(by omega)).ptr (rs[n]'(by omega)).len (rs[n]'(by omega)).cap):=by rw[add_eq];exact f
 rw[g]at c;have e:=h3 n i5 j;generalize rs[n]'(by omega)=r' at c e;obtain⟨w,l1,u⟩:=r;obtain⟨t,l2,m⟩:=r';simp at c;obtain⟨rfl,rfl,rfl⟩:=c;exact e
end
theorem Hm{α:Type}{l:List α}(f:l.Nodup){a b:Nat}(d:a<i1 l)(c:b<i1 l)(h:l[a]=l[b]):a=b:=by
 have e:=zw.1 f;rcases yg a b with hlt|he|hgt
 ·exact absurd h (e a b d c hlt)
 ·exact he
 ·exact absurd h.symm (e b a c d hgt)
theorem aa.cK{B:aC}{k h:f9}{As:List HP}(H:aa B k h As)(L:List Nat)(g:∀j∈L,j<i1 As:=by simp)(m:L.Nodup:=by decide):aa B k h (L.map λj=>As.getD j emp):=by
 refine H.pick (λi=>if h:i<i1 L then L[i]else As.length+i) (λa b c=>?_) λi A2 e=>?_
 ·try dsimp only at c
  split at c<;>split at c
  ·exact Hm m _ _ c
  ·have:=g _ (qg (l:=L) (n:=a) oi);omega
  ·have:=g _ (qg (l:=L) (n:=b) oi);omega
  ·omega
 ·try dsimp only
  rw[qU]at e;split
  ·rename_i d;rw[qd d]at e;have f:=g _ (qg d);simp only[q7,zR.injEq]at e;rw[<-e,qe,qd f];rfl
  ·rename_i d;rw[qS i5]at e;simp at e
theorem St.mk'{B:aC}{a:f9}{As:List HP}{Q:f9->Prop}(x:∀h',aa B a h' As->Q h'):St B a As Q:=λBs h' H=>x h' (H.take Bs.length λi A b=>by
 rw[qj i5,zr];exact b)
theorem St.here{B:aC}{a h:f9}{As:List HP}{Q:f9->Prop}(x:St B a As Q)(H:aa B a h As):Q h:=x [] h H
theorem St.mono{B:aC}{b:f9}{As:List HP}{Q a:f9->Prop}(x:St B b As Q)(c:∀h,Q h->a h):St B b As a:=λBs h' H=>c _ (x Bs h' H)
theorem aa.aX{B:aC}{m h:f9}{As:List HP}(H:aa B m h As)(k:Nat)(L:List Nat)(p:k<=i1 As:=by simp)(f:∀j∈L,j<k:=by simp)(o:L.Nodup:=by decide):aa B m h (L.map (λj=>As.getD j emp)++As.drop k):=by
 refine H.pick (λi=>if h:i<i1 L then L[i]else k+(i-i1 L)) (λa b d=>?_) λi A2 e=>?_
 ·try dsimp only at d
  split at d<;>split at d
  ·exact Hm o _ _ d
  ·have:=f _ (qg (l:=L) (n:=a) oi);omega
  ·have:=f _ (qg (l:=L) (n:=b) oi);omega
  ·omega
 ·try dsimp only
  by_cases c:i<i1 L
  ·rw[dif_pos c];rw[qo m6,qU,qd c]at e;have g:=f _ (qg c);simp only[q7,zR.injEq]at e;rw[<-e,qe,qd i5];rfl
  ·rw[dif_neg c];rw[qj m6,qy,wJ]at e;exact e
section
variable {α β:Type} {E:jp α β} {C:Ctx} {k e t by_:Nat} {f:α->bh} {B:aC} {h0 h h':f9} {As:List HP} {q:aC} {s:Sl} {rs:List α} {ll:List β} {ti:TI} {z:bh}
def Fix(E:jp α β)(k:Nat)(f:α->bh)(h:f9)(q:aC)(s:Sl)(rs:List α)(a:List β):Prop:=Seq h q s k f rs/\rs.length=i1 a/\∀(i:Nat) r l,rs[i]?=dB r->a[i]?=dB l->E.p h q r l
theorem Fix.ai(x:Fix E k f h q s rs ll)(a:bc q h h'):Fix E k f h' q s rs ll:=⟨x.1.ai a,x.2.1,λi r l c b=>E.loc (x.2.2 i r l c b) a⟩
theorem Fix.mono{q':aC}(x:Fix E k f h q s rs ll)(a:∀b,q b->q' b):Fix E k f h q' s rs ll:=⟨x.1.mono a,x.2.1,λi r l d c=>E.mono (x.2.2 i r l d c) a⟩
abbrev oD(E:jp α β)(k:Nat)(f:α->bh)(h:f9)(s:Sl)(rs:List α)(a:List β):Prop:=Fix E k f h (λb=>b<h.size) s rs a
theorem oD.up(x:oD E k f h s rs ll)(a:bc (λb=>b<h.size) h h'):oD E k f h' s rs ll:=(Fix.ai x a).mono λ_ c=>qR c a.1
theorem Fix.row(x:Fix E k f h q s rs ll){i:Nat}(a:i<i1 ll):E.p h q (rs[i]'(by rw[x.2.1];exact a)) ll[i]:=x.2.2 i _ _ (qd _) (qd _)
theorem bK.fix(x:(bK E k f).p h q s ll):∃rs,Fix E k f h q s rs ll:=x
theorem Fix.elt(x:Fix E k f h q s rs ll):(bK E k f).p h q s ll:=⟨rs,x⟩
def cN(E:jp α β)(k:Nat)(f:α->bh)(s:Sl)(rs:List α)(a:List β):HP:=⟨λh q=>Fix E k f h q s rs a,λx c=>x.ai c,λx b=>x.mono b⟩
theorem aa.OZ(H:aa B h0 h As)(i:Nat)(j:As[i]?=dB (ce e s k f E ll))(o:∀x,i1 (f x)=k):∃rs,aa B h0 h (As.set i (cN E k f s rs ll)):=by
 have g:i<i1 As:=(qn.1 j).1;have p:aa B h0 h (As.set i (HP.ex λrs=>cN E k f s rs ll)):=H.fZ i j λq ⟨rs,v,a,b,c,d,e⟩=>⟨rs,a.seq o λx u=>(b x u).1,d,λi r l n t=>E.mono (e i r l n t) c⟩
 obtain⟨rs,m⟩:=p.YO i (zm g);exact⟨rs,by rw[yt]at m;exact m⟩
theorem aa.eU(H:aa B h0 h As)(i:Nat)(a:As[i]?=dB (cN E k f s rs ll)):oD E k f h s rs ll:=H.at i a
theorem aa.Hn(f:C.Ok)(H:aa B h0 h As)(d:C.T.get t=dB ti){K:f7->f9->Prop}(e:∀a h',bc (λb=>b<h.size) h h'->aa B h0 h' (As++[au a t ti.zero])->K a h'):
  aT C.P (qL t eR (.tuple #[])) h K:=
 BN f d λa h' x y c _=>e a h' (c.mono λ_ _ _=>trivial) (H.comp (OX x y c))
theorem aa.SH(u:C.Ok)(H:aa B h0 h As)(f:α->bh)(s:bZ C.toDr t e k z by_)(d:0<by_/\by_<=128)(l:α)(E:f l=z)(j:i1 z=k){r A:IntKind}{n o:Int}(m c:Nat)(v:n=m)(q:o=c)(i:m<=c)(g:c<=2^32)
  {K:Sl->f9->Prop} (D:∀a h',a.len=m->bc (λb=>b<h.size) h h'->aa B h0 h' (As++[an e a k f (qh m l)])->K a h'):
  aB C.P (qF t (.int r n) (.int A o)) (.one (.sc .slc)) h K:=
 run_make u s d l E j m c v q i g λa h' x y w p _=>D a h' (by rw[x.len];simp) (p.mono λ_ _ _=>trivial) (H.comp (OW i4 x y p))
end
section
variable {α:Type} {C:Ctx} {B:aC} {h0 h:f9} {As:List HP} {e t k:Nat} {s:Sl} {f:α->bh} {l:List α} {i:TI}
theorem Own.aes(F:C.Ok)(r:Own h e s k f l)(w:∀x,i1 (f x)=k)(B:C.T.get t=dB i){x:Int}(n:Nat)(J:x=n)(u:n<i1 l)(j:Nat)(vs:bh)(M:j+i1 vs<=k){p:eX}(y:α)(I:p.cells=vs.toArray)(v:i.size=i1 vs)
  (o:vs.all (·.oneCell')=eR) (G:f y=(f l[n]).take j++vs++(f l[n]).drop (j+i1 vs)) {K:f9->Prop} (L:∀h',Own h' e s k f (l.set n y)->bc (λb=>¬s.on b) h h'->K h'):
  ∃a:f7,(s.ptr=dB a/\0<=x/\x<((s.len:Nat):Int))/\ag C.P (qf t (.pointer (dB ((a.add (x.toNat*k)).add j))) p) h λ_ h'=>K h':=by
 subst J;rcases r.head with⟨_,_,h3⟩|⟨b,rest,h1,h2,h3,h4⟩
 ·subst h3;simp at u
 ·refine⟨_,⟨h1,i5,by rw[r.len];omega⟩,?_⟩;unfold qf;refine ag.bind (ag.pure' ?_);unfold storeVar;refine ag.bind (ag.always (dZ F.toOk B) ?_);rw[I,v];simp only[yf,ne_eq,not_true,if_false];rw[add_eq,add_eq,wo,ql];have g:l=l.take n++l[n]::l.drop (n+1):=by rw[<-qP u,qE]
  have m:l.set n y=l.take n++y::l.drop (n+1):=yc.trans (g0 u);have q:i1 ((l.take n).flatMap f)=n*k:=by rw[dK w,qY,w4 i5]
  have H:=w l[n];have d:f l[n]=(f l[n]).take j++((f l[n]).drop j).take vs.length++(f l[n]).drop (j+i1 vs):=by rw[qp,<-zH,qE,qE]
  refine fC (e:=e) (pre:=(l.take n).flatMap f++(f l[n]).take j) (old:=((f l[n]).drop j).take vs.length) (post:=(f l[n]).drop (j+i1 vs)++((l.drop (n+1)).flatMap f++rest)) ?_ ?_ ?_ ?_ ?_
  ·have:l.flatMap f++rest=(l.take n).flatMap f++(f l[n]).take j++((f l[n]).drop j).take vs.length++((f l[n]).drop (j+i1 vs)++((l.drop (n+1)).flatMap f++rest)):=by
    have A:=congrArg (List.flatMap f) g;rw[zg,zk]at A;rw[A];generalize f l[n]=z at d;rw[qp]at d;simp only[qp];congr 1
    conv=>lhs;rw[d]
    simp only[qp]
   rw[<-this];exact h2
  ·simp;omega
  ·rw[qx,q,qY];omega
  ·intro c D;exact qZ.1 o c D
  ·refine L _ ⟨by rw[zh];exact r.len,.inr ⟨b,rest,h1,?_,h3,h4⟩⟩ (bc.ki h2 λE=>E ⟨0,h1⟩);rw[iS h2,g0 i4,m,zg,zk,G];simp[qp]
theorem aa.aes(q:C.Ok)(H:aa B h0 h As)(g:Nat)(c:As[g]?=dB (an e s k f l))(u:∀x,i1 (f x)=k)(p:C.T.get t=dB i){x:Int}(n:Nat)(D:x=n)(v:n<i1 l)(j:Nat)(vs:bh)(o:j+i1 vs<=k){d:eX}(y:α)(A:d.cells=vs.toArray)(m:i.size=i1 vs)
  (b:vs.all (·.oneCell')=eR) (r:f y=(f l[n]).take j++vs++(f l[n]).drop (j+i1 vs)) {K:f9->Prop} (E:∀h',aa B h0 h' (As.set g (an e s k f (l.set n y)))->K h'):
  ∃a:f7,(s.ptr=dB a/\0<=x/\x<((s.len:Nat):Int))/\ag C.P (qf t (.pointer (dB ((a.add (x.toNat*k)).add j))) d) h λ_ h'=>K h':=
 (H.own g c).aes q u p n D v j vs o y A m b r λh' z w=>E h' (H.nR g c w z)
end
def HP.all:List HP->HP
 |[]=>emp
 |A::L=>A.sep (HP.all L)
section
variable {B:aC} {h0 h h':f9} {As L:List HP} {A D E:HP}
theorem aa.py:∀{L:List HP} {As:List HP},aa B h0 h (HP.all L::As)->aa B h0 h (L++As)
 |[],_,H=>H.rest
 |A::L,As,H=>by
  have g:aa B h0 h (HP.all L::A::As):=H.uh;have e:=aa.py g;exact e.pick (λi=>if i=0 then L.length else if i<=i1 L then i-1 else i) (λa b c=>by(try dsimp only at c);split at c<;>split at c<;>(try split at c)<;>(try split at c)<;>omega) λi X d=>by
   try dsimp only
   rw[zx]at d;cases i with
   |zero=>simp at d;subst d;rw[g0 i4,qj (qm _),zc];rfl
   |succ i=>
    rw[qw]at d;rw[g9 i5];by_cases f:i<i1 L
    ·rw[qo f]at d;rw[g0 i5,qo i5];simpa using d
    ·rw[qj i5]at d;rw[g9 i5,qj i5];rw[show i+1-i1 L=(i-i1 L)+1 by omega,qw];exact d
theorem aa.closeAll:∀(L:List HP) {As:List HP},aa B h0 h (L++As)->aa B h0 h (HP.all L::As)
 |[],As,H=>((H.comp (.one (A:=emp) (bc.refl _ _) trivial)).bB:aa B h0 h (emp::As))
 |A::L,As,H=>by
  have g:aa B h0 h (L++(A::As)):=H.pick (λi=>if i<i1 L then i+1 else if i=i1 L then 0 else i) (λa b c=>by(try dsimp only at c);split at c<;>split at c<;>(try split at c)<;>(try split at c)<;>omega) λi X d=>by
   try dsimp only
   by_cases e:i<i1 L
   ·rw[qo e]at d;rw[g0 e,zx,qw,qo e];exact d
   ·rw[qj i5]at d;by_cases f:i=i1 L
    ·subst f;rw[zc]at d;rw[g9 i5,g0 rfl];simpa using d
    ·rw[g9 e,g9 f,zx];obtain⟨j,rfl⟩:∃j,i=i1 L+(j+1):=⟨i-i1 L-1,i5⟩
     rw[zr,qw]at d;rw[show L.length+(j+1)=(i1 L+j)+1 by omega,qw,qj i5,zr];exact d
  exact(aa.closeAll L g).mu
theorem aa.Lg{P:Prop}(H:aa B h0 h (A.and P::As)):aa B h0 h (A::As)/\P:=⟨H.ago 0 i4,H.fact 0 i4⟩
theorem aa.toLg{P:Prop}(H:aa B h0 h (A::As))(p:P):aa B h0 h (A.and P::As):=H.ajV 0 i4 p
end
def dJ{α:Type}(e:TypeId)(s:Sl)(b:TypeId)(k:Nat)(f:α->bh)(a:List (List α)):HP:=
 HP.ex λrs:List Sl=>(HP.all (an e s 1 bv rs::bE b k f rs a)).and (i1 rs=i1 a)
section
variable {α:Type} {C:Ctx} {B:aC} {h0 h h':f9} {As:List HP} {e e2 k t by_:Nat} {s:Sl} {f:α->bh} {ll:List (List α)}
theorem aa.Ez(H:aa B h0 h (dJ e s e2 k f ll::As)):∃rs:List Sl,i1 rs=i1 ll/\aa B h0 h ((an e s 1 bv rs::bE e2 k f rs ll)++As):=by obtain⟨rs,H⟩:=H.tQ;obtain⟨H,a⟩:=H.Lg;exact⟨rs,a,H.py⟩
theorem aa.Hp{rs:List Sl}(a:i1 rs=i1 ll)(H:aa B h0 h ((an e s 1 bv rs::bE e2 k f rs ll)++As)):aa B h0 h (dJ e s e2 k f ll::As):=
 ((aa.closeAll _ H).toLg a).Am (F:=λrs:List Sl=>(HP.all (an e s 1 bv rs::bE e2 k f rs ll)).and (i1 rs=i1 ll)) rs
theorem aa.CH(H:aa B h0 h As)(e a k:Nat)(f:α->bh):aa B h0 h (dJ e ⟨eH,0,0⟩ a k f []::As):=
 aa.Hp (rs:=[]) i4 ((H.nil e 1 bv).bB)
theorem aa.Tm{Bs:List HP}(H:aa B h0 h (As++Bs)):aa B h0 h As:=H.pick id (λ_ _ h=>h) λi A a=>by
 rw[id,qo (qn.1 a).1];exact a
theorem aa.FO(H:aa B h0 h (dJ e s e2 k f ll::As))(a:∀x,i1 (f x)=k):fE h s k f ll:=by obtain⟨rs,b,H⟩:=H.Ez;exact aa.Tl (aa.Tm H) b a
theorem aa.An(H:aa B h0 h (dJ e s e2 k f ll::As)):s.len=i1 ll/\s.len<=s.cap:=by obtain⟨rs,a,H⟩:=H.Ez;exact⟨by rw[(H.own 0 i4).len,a],(H.own 0 i4).cap⟩
theorem aa.JB(g:C.Ok){r:Sl}{x:List α}(H:aa B h0 h (dJ e s e2 k f ll::an e2 r k f x::As))(i:bZ C.toDr t e 1 [.slice eH 0 0] 24)(j:i1 ll+1<=2^32){ty:Nat}{K:Sl->f9->Prop}
  (l:∀a h',aa B h0 h' (dJ e a e2 k f (ll++[x])::As)->K a h'):
  aB C.P (qq t 1 #[(0,.slice r.ptr r.len r.cap)]) (.one (.sc .slc)) h λv d=>aB C.P (qt #[t,t] ty #[.slice s.ptr s.len s.cap,.slice v.ptr v.len v.cap]) (.one (.sc .slc)) d K:=by
 obtain⟨rs,c,H⟩:=H.Ez;refine H.push g 0 i4 i i4 i6 (λ_=>rfl) kl r i4 i6 i5 λa h' b=>l a h' ?_;refine aa.Hp (rs:=rs++[r]) o1 ?_;rw[Al c];have b:aa B h0 h' (an e a 1 bv (rs++[r])::(bE e2 k f rs ll++an e2 r k f x::As)):=b;have m:an e a 1 bv (rs++[r])::(bE e2 k f rs ll++[an e2 r k f x])++As=an e a 1 bv (rs++[r])::(bE e2 k f rs ll++an e2 r k f x::As):=jj
 rw[m];exact b
end
end Go.Vc
namespace Gf
theorem aet{p:UInt8->Prop}(h:∀n,n<256->p (yK n))(a:UInt8):p a:=by
 have:=h a.toNat (UInt8.toNat_lt a)
 rwa [UInt8.ofNat_toNat]at this
def x2(a:UInt8):UInt8:=(a<<<1)^^^(if a&&&0x80=0 then 0 else 0x1b)
def x3(a:UInt8):UInt8:=x2 a^^^a
def pw:Nat->UInt8
 |0=>1
 |n+1=>x3 (pw n)
theorem ahn(a b c:UInt8):(a^^^b)&&&c=(a&&&c)^^^(b&&&c):=by apply UInt8.toBitVec_inj.1;simp[UInt8.toBitVec_xor,UInt8.toBitVec_and];ext i hi;simp[Bool.and_xor_distrib_right]
theorem aho(a b:UInt8):(a^^^b)<<<1=(a<<<1)^^^(b<<<1):=by apply UInt8.toBitVec_inj.1;simp[UInt8.toBitVec_xor,UInt8.toBitVec_shiftLeft,BitVec.shiftLeft_xor_distrib]
theorem Tn:∀a:UInt8,a&&&0x80=0∨a&&&0x80=0x80:=aet j5
theorem aeu(a b c d:UInt8):(a^^^b)^^^(c^^^d)=(a^^^c)^^^(b^^^d):=by ac_rfl
theorem aiA(a b:UInt8):x2 (a^^^b)=x2 a^^^x2 b:=by
 unfold x2;rw[ahn,aho];rcases Tn a with ha|ha<;>rcases Tn b with hb|hb<;>rw[ha,hb]
 ·simp
 ·simp[UInt8.xor_assoc]
 ·rw[aeu];simp
 ·rw[aeu];simp
theorem aiB(a b:UInt8):x3 (a^^^b)=x3 a^^^x3 b:=by unfold x3;rw[aiA,aeu]
def Ao:Nat->UInt8->UInt8
 |0,a=>a
 |n+1,a=>x3 (Ao n a)
theorem XT(a b:UInt8):∀n,Ao n (a^^^b)=Ao n a^^^Ao n b
 |0=>rfl
 |n+1=>by simp only[Ao,XT a b n,aiB]
theorem Pa(a:UInt8)(m:Nat):∀n,Ao (n+m) a=Ao n (Ao m a)
 |0=>by simp[Ao]
 |n+1=>by rw[Nat.add_right_comm];simp only[Ao,Pa a m n]
theorem To:∀n,Ao n 0=0
 |0=>rfl
 |n+1=>by rw[Ao,To n];rfl
theorem Du:∀n,pw n=Ao n 1
 |0=>rfl
 |n+1=>by rw[pw,Ao,Du n]
def akr:Nat:=939374623831894136699086600277250597547650664638770418422125146541797353646788332867483593573384618611044815625336497665827114626705134492515730415652478061620339993830966980270842846318821775850471098591710629241171812800746666233448222972174585295916389942636813666312872914849454985560152530477328703759683306625234997237483834721220409437442253146756845415190424543171129629468776480674528486868811725071010351012234056630775688111116293610821126543142160426617079940511630006820862697466582575257349116925728488930366609138264019883664906661504235885380294353134295748489096855100647154935187045898006656778240
def lg(a:UInt8):Nat:=(akr>>>(8*a.toNat))%256
theorem MC:∀a:UInt8,lg a<255:=aet j5
theorem YQ:∀a:UInt8,a≠0->pw (lg a)=a:=aet j5
theorem YR:∀n,n<255->lg (pw n)=n:=j5
theorem aiC:pw 255=1:=j5
theorem YS:∀n,n<255->pw n≠0:=j5
theorem abe(n:Nat):pw (n+255)=pw n:=by rw[Du,Pa,<-Du 255,aiC,<-Du]
theorem abf(n:Nat):pw (n%255)=pw n:=by
 have:∀k m,pw (m+255*k)=pw m:=by
  intro k
  induction k with
  |zero=>intro m;rfl
  |succ k ih=>intro m;rw[Nat.mul_succ,<-wX,abe,ih]
 have h:=this (n/255) (n%255);rw[Nat.mod_add_div]at h;exact h.symm
def mul(a b:UInt8):UInt8:=if a=0∨b=0 then 0 else pw ((lg a+lg b)%255)
def inv(a:UInt8):UInt8:=if a=0 then 0 else pw ((255-lg a)%255)
theorem mul_zero(a:UInt8):mul a 0=0:=by simp[mul]
theorem zero_mul(a:UInt8):mul 0 a=0:=by simp[mul]
theorem mul_comm(a b:UInt8):mul a b=mul b a:=by
 unfold mul;rw[Nat.add_comm];by_cases h:a=0∨b=0
 ·rw[g0 h,g0 h.symm]
 ·rw[g9 h,g9 λx=>h x.symm]
theorem Tp(a b:UInt8)(d:a≠0):mul a b=Ao (lg a) b:=by
 by_cases c:b=0
 ·subst c;rw[mul_zero,To]
 ·rw[mul,g9 (by simp[d,c]),abf,Du,Pa,<-Du,YQ b c]
theorem kH(a b c:UInt8):mul a (b^^^c)=mul a b^^^mul a c:=by
 by_cases d:a=0
 ·subst d;simp[zero_mul]
 ·rw[Tp _ _ d,Tp _ _ d,Tp _ _ d,XT]
theorem XU(a b c:UInt8):mul (a^^^b) c=mul a c^^^mul b c:=by rw[mul_comm,kH,mul_comm c a,mul_comm c b]
theorem abg{a b:UInt8}(d:a≠0)(c:b≠0):mul a b≠0:=by rw[mul,g9 (by simp[d,c])];exact YS _ (vm _ i6)
theorem abh{a b:UInt8}(d:a≠0)(c:b≠0):lg (mul a b)=(lg a+lg b)%255:=by rw[mul,g9 (by simp[d,c]),YR _ (vm _ i6)]
theorem mul_assoc(a b c:UInt8):mul (mul a b) c=mul a (mul b c):=by
 by_cases e:a=0
 ·subst e;simp[zero_mul]
 by_cases d:b=0
 ·subst d;simp[zero_mul,mul_zero]
 by_cases f:c=0
 ·subst f;simp[mul_zero]
 rw[mul,g9 (by simp[abg e d,f]),abh e d,mul,g9 (by simp[e,abg d f]),abh d f];congr 1;omega
theorem aiD:lg 1=0:=j5
theorem one_mul(a:UInt8):mul 1 a=a:=by
 by_cases b:a=0
 ·subst b;rfl
 ·rw[mul,g9 m0,aiD,wo,abf,YQ a b]
theorem mul_one(a:UInt8):mul a 1=a:=by rw[mul_comm,one_mul]
theorem aiE{a:UInt8}(b:a≠0):inv a≠0:=by rw[inv,g9 b];exact YS _ (vm _ i6)
theorem Pb{a:UInt8}(b:a≠0):mul a (inv a)=1:=by
 have c:=MC a;rw[mul,g9 (by simp[b,aiE b]),inv,g9 b,YR _ (vm _ i6)];have:(lg a+(255-lg a)%255)%255=0:=i5
 rw[this];rfl
end Gf
namespace Wl
structure Pow where
 off:Bool
 fuse:Option Nat
 offs:Int
def Pow.new:Pow:=⟨eS,eH,0⟩
def Pow.step(w:Pow):Bool×Pow:=
 if w.off then(eS,w)else match w.fuse with
 |none=>(eR,w)
 |some 0=>(eS,⟨eR,dB 0,Go.IntKind.wrap .i64 (w.offs+1)⟩)
 |some (k+1)=>(eR,⟨eS,dB k,w.offs⟩)
structure bs where
 room:Nat
 l:cJ
 wait:Nat
 laid:cJ
 has:Bool
 lost:Bool
def bs.new(a:Nat):bs:=⟨a,[],0,[],eS,eS⟩
def bs.append(w:Pow)(d:bs)(b:bf):Int×Pow×bs:=
 if b.length≠64 then(1,w,d)
 else if d.lost then(5,w,d)
 else if d.room<=i1 d.l then(7,w,d)
 else if w.off then(14,w,d)
 else if w.step.1 then(0,w.step.2,{d with l:=d.l++[b],wait:=d.wait+1,laid:=[],has:=eS})
 else(14,w.step.2,{d with l:=d.l++[b],wait:=d.wait+1})
def bs.sync(w:Pow)(d:bs):Int×Pow×bs:=
 if d.lost then(5,w,d)
 else if w.step.1 then(0,w.step.2,{d with wait:=0,laid:=[],has:=eS})
 else(14,w.step.2,d)
def bs.rewrite(w:Pow)(d:bs)(l:cJ):Int×Pow×bs:=
 if !l.all (λb=>decide (i1 b=64))then(1,w,d)
 else if d.lost then(5,w,d)
 else if d.room<i1 l then(7,w,d)
 else if w.off then(14,w,d)
 else if w.step.1 then(0,w.step.2,{d with l:=l,wait:=0,laid:=[],has:=eS})
 else(14,w.step.2,{d with laid:=l,has:=eR})
def bs.EB(d:bs):bs:={d with lost:=eR,l:=[],wait:=0,laid:=[],has:=eS}
abbrev aJ:=List (Option bs)
def bm(ds:aJ)(slot:Int):Option bs:=if 0<=slot/\slot<64 then(ds[slot.toNat]?).join else eH
def bQ(ds:aJ)(slot:Int)(d:bs):aJ:=ds.set slot.toNat (dB d)
def isLive(ds:aJ)(slot:Int):Bool:=match bm ds slot with|some d=>!d.lost|none=>eS
def aN(ds:aJ)(bW:aD):aD:=bW.filter (isLive ds)
def fT(w:Pow)(ds:aJ)(slot:Int)(b:bf):Int×Pow×aJ:=
 match bm ds slot with
 |none=>(if b.length≠64 then 1 else 5,w,ds)
 |some d=>((d.append w b).1,(d.append w b).2.1,bQ ds slot (d.append w b).2.2)
def gQ(w:Pow)(ds:aJ)(slot:Int):Int×Pow×aJ:=
 match bm ds slot with
 |none=>(5,w,ds)
 |some d=>((d.sync w).1,(d.sync w).2.1,bQ ds slot (d.sync w).2.2)
def lP:List (Int×bf)->Pow->aJ->Int×Pow×aJ
 |[],w,ds=>(0,w,ds)
 |x::l,w,ds=>let r:=fT w ds x.1 x.2;if r.1=0 then lP l r.2.1 r.2.2 else r
def eV:aD->Pow->aJ->Int×Pow×aJ
 |[],w,ds=>(0,w,ds)
 |x::l,w,ds=>let r:=gQ w ds x;if r.1=0 then eV l r.2.1 r.2.2 else r
theorem xD(x:Int)(l:aD)(w:Pow)(ds:aJ):eV (x::l) w ds=if(gQ w ds x).1=0 then eV l (gQ w ds x).2.1 (gQ w ds x).2.2 else gQ w ds x:=rfl
theorem Ap(x:Int×bf)(l:List (Int×bf))(w:Pow)(ds:aJ):lP (x::l) w ds=if(fT w ds x.1 x.2).1=0 then lP l (fT w ds x.1 x.2).2.1 (fT w ds x.1 x.2).2.2 else fT w ds x.1 x.2:=rfl
def cM(l:aD):aD:=((qA 64).map λi:Nat=>(i:Int)).filter λi=>decide (i∈l)
def layAll(l:List (Int×bf))(w:Pow)(ds:aJ):Int×Pow×aJ:=
 let r:=lP l w ds
 if r.1=0 then eV (cM (l.map qI)) r.2.1 r.2.2 else r
end Wl
namespace Go.Vc
open Go
theorem Lh(l:aD):l.flatMap av=l.map (Value.int .i64):=by
 induction l with
 |nil=>rfl
 |cons a t ih=>rw[zk,ih];rfl
theorem Qx{w:World}{e:TypeId}{b:Nat}{rest:bh}{l:aD}(c:w.heap[b]?=dB (.cells (l.flatMap av++rest).toArray e (0,0))):Sort.Holds (Value.int .i64) w b 0 l.toArray:=by
 intro j d;have a:j<i1 l:=n5
 refine⟨?_,by simp[World.frozen?,c]⟩;rw[Lh]at c;have:(l.map (Value.int .i64)++rest)[j]?=dB (xq xx l[j]):=by rw[qo j7,qU,qd a];rfl
 simp[World.cell?,c,this,a]
theorem Tq(l l':aD)(rest:bh)(b:i1 l'=i1 l):Sort.putCells (Value.int .i64) 0 l'.toArray (l.flatMap av++rest).toArray=(l'.flatMap av++rest).toArray:=by
 rw[Lh,Lh];apply yN;intro i;simp only[Sort.putCells,Array.getElem?_mapIdx,zX,yf,wo,Nat.zero_le,true_and];by_cases a:i<i1 l
 ·rw[qo j7,qo i9];have c:i<i1 l':=i5
  simp[a,c]
 ·rw[qj i9,qj i9];simp only[qy,b];cases h:rest[i-i1 l]? with
  |none=>rfl
  |some x=>simp only[q7];rw[g9 a]
theorem Tr{P:Program}{id:FuncId}(z:∀(fY off cap:Nat) (m:aD) (w:World),Sort.Holds (Value.int .i64) w fY off m.toArray->fY<w.heap.size->i1 m<4611686018427387904->
   Calls P id #[.slice (dB ⟨fY,off,eH⟩) m.length cap] w λe i=>e=.returned (.tuple #[])/\∃n os,i=Sort.grow (Sort.putRow (Value.int .i64) (Sort.ahead w n) fY off (m.mergeSort λx y=>decide (x<=y)).toArray) os)
  (A:∀(p:aM) (cap:Nat) (w:World),Calls P id #[.slice p 0 cap] w λe i=>e=.returned (.tuple #[])/\i=w)
  {e:TypeId} {s:Sl} {l:aD} {h:f9} (r:Own h e s 1 av l) (D:i1 l<2^40):
  ac P id #[.slice s.ptr s.len s.cap] h λv h'=>v=.tuple #[]/\Own h' e s 1 av (l.mergeSort λx y=>decide (x<=y))/\bc (λb=>¬s.on b) h h':=by
 intro w f;have a:=r.len;rcases r.head with⟨h1,h2,h3⟩|⟨b,rest,h1,h2,h3,h4⟩
 ·subst h3;rw[a,h1];refine(A eH s.cap w).mono ?_;rintro t i ⟨rfl,rfl⟩;have u:(([]:aD).mergeSort λx y=>decide (x<=y))=[]:=jj
  exact⟨_,i4,dC.refl _,i4,by rw[u];exact⟨a,.inl ⟨h1,h2,i4⟩⟩,by rw[<-f];exact bc.refl _ _⟩
 ·rw[h1,a];have o:w.heap[b]?=dB (.cells (l.flatMap av++rest).toArray e (0,0)):=by rw[f];exact h2
  refine(z b 0 s.cap l w (Qx o) (lt_of_block o) i5).mono ?_;rintro t i ⟨rfl,n,os,rfl⟩;have j:=lt_of_block o;have g:i1 (l.mergeSort λx y=>decide (x<=y))=i1 l:=wW l;have c:∀k,k<h.size->(Sort.grow (Sort.putRow (Value.int .i64) (Sort.ahead w n) b 0 (l.mergeSort λx y=>decide (x<=y)).toArray) os).heap[k]?=if b=k then dB (.cells ((l.mergeSort λx y=>decide (x<=y)).flatMap av++rest).toArray e (0,0))else h[k]?:=by
   intro k q;rw[Sort.heap_grow_old _ _ (by simpa[Sort.putRow,Sort.mapBlock,Sort.ahead,f]using q)];simp only[Sort.putRow,Sort.mapBlock,Sort.ahead,yl];by_cases d:b=k
   ·subst d;rw[g0 i4,g0 i4,o,q7,Sort.onCells,Tq _ _ _ g]
   ·rw[g9 d,g9 d,f]
  rw[f]at j;refine⟨_,i4,⟨i4,i4,i4,by simp[Sort.grow,Sort.putRow,Sort.mapBlock,Sort.ahead]⟩,i4,⟨by rw[g];exact a,.inr ⟨b,rest,h1,?_,h3,h4⟩⟩,?_,?_⟩
  ·rw[c b j,g0 rfl]
  ·simp[Sort.grow,Sort.putRow,Sort.mapBlock,Sort.ahead,f]
  ·intro k q B;rw[c k q,g9 λd=>B ⟨0,by rw[h1,d]⟩]
end Go.Vc
namespace Wl
def bO(p:Int×Int×Int):Bool:=decide (p.1>=1)&&(decide (p.1<=16)&&(decide (p.2.1>=1)&&(decide (p.2.1<=4)&&(decide (p.2.2>=1)&&decide (p.2.2<=24)))))
theorem co(p:Int×Int×Int):bO p=eR↔(1<=p.1/\p.1<=16)/\(1<=p.2.1/\p.2.1<=4)/\1<=p.2.2/\p.2.2<=24:=by simp[bO,and_assoc]
def bJ(p:Int×Int×Int):Int:=if bO p then p.1+p.2.1 else 0
open Go
def FP(s:Int):Int:=qc xA (qc xA (s*(6364136223846793005:Int))+(1442695040888963407:Int))
def told(s:Int):Int:=qc xz (qX (FP s) (2^min (32:Int).toNat (qk xA)))
def mK(s n:Int):Int:=qc xx (wk (qc xA (told s)) (qc xA n))
theorem wrap_u64(x:Int):qc xA x=x%18446744073709551616:=rfl
theorem Aq(s n:Int)(d:0<n:=by omega)(e:n<=2^62:=by omega):0<=mK s n/\mK s n<n:=by
 unfold mK;have c:qc xA n=n:=o9
 rw[c];have b:0<=qc xA (told s):=o9
 have e2:=vC (qc xA (told s)) d;have a:0<=wk (qc xA (told s)) n:=Int.tmod_nonneg n b;rw[Go.Vc.ak _];exact⟨a,e2⟩
def lQ(l:aD)(i:Nat):Int:=l.getD i 0
def tR(l:aD)(i j:Nat):aD:=(l.set i (lQ l j)).set j (lQ l i)
theorem Ts(l:aD)(i j:Nat):i1 (tR l i j)=i1 l:=by simp[tR]
def gK(n:Nat)(s:Int)(l:aD):Nat->Int×aD
 |0=>(s,l)
 |k+1=>(FP (gK n s l k).1,tR (gK n s l k).2 k (k+(mK (gK n s l k).1 ((n-k:Nat):Int)).toNat))
theorem Ar(n:Nat)(s:Int)(l:aD):∀k,(gK n s l k).2.length=i1 l
 |0=>rfl
 |k+1=>by rw[gK,Ts,Ar n s l k]
theorem Li{l:aD}{i:Nat}(h:i<i1 l):lQ l i∈l:=by rw[lQ,qe,qd h];exact qg h
theorem aev{l:aD}{i j:Nat}(c:i<i1 l)(b:j<i1 l){x:Int}(a:x∈tR l i j):x∈l:=by
 rcases zS a with h|h
 ·rcases zS h with h|h
  ·exact h
  ·rw[h];exact Li b
 ·rw[h];exact Li c
def upto(n:Nat):aD:=(qA n).map λi:Nat=>(i:Int)
theorem ib(n:Nat):i1 (upto n)=n:=by simp[upto]
theorem Lj(n:Nat)(s:Int):∀k,k<=n->∀x∈(gK n s (upto n) k).2,0<=x/\x<n
 |0,_,x,hx=>by
  simp only[gK,upto,qu,qG]at hx;obtain⟨i,l,rfl⟩:=hx;omega
 |k+1,hk,x,hx=>by
  have e:k<n->n-k<=2^62->k+(mK (gK n s (upto n) k).1 ((n-k:Nat):Int)).toNat<n:=λm j=>by
   have:=Aq (gK n s (upto n) k).1 ((n-k:Nat):Int);omega
  have f:=Ar n s (upto n) k;rw[ib]at f;by_cases b:n-k<=2^62
  ·refine Lj n s k i5 x (aev i5 ?_ hx);have:=e i5 b;omega
  ·--beyond any size:what is set is 0 or a member
   have c:∀y∈tR (gK n s (upto n) k).2 k (k+(mK (gK n s (upto n) k).1 ((n-k:Nat):Int)).toNat),y∈(gK n s (upto n) k).2∨y=0:=by
    intro y d;have g:∀i,lQ (gK n s (upto n) k).2 i∈(gK n s (upto n) k).2∨lQ (gK n s (upto n) k).2 i=0:=λi=>by
     by_cases h:i<(gK n s (upto n) k).2.length
     ·exact .inl (Li h)
     ·right;simp only[lQ,qe];rw[qS i5];rfl
    rcases zS d with h|h
    ·rcases zS h with h|h
     ·exact .inl h
     ·rw[h];exact g _
    ·rw[h];exact g _
   rcases c x hx with h|h
   ·exact Lj n s k i5 x h
   ·subst h;omega
def ic(l:aD):aD:=l.mergeSort λx y=>decide (x<=y)
theorem Hq(l:aD):i1 (ic l)=i1 l:=wW l
theorem BP(l:aD)(x:Int):x∈ic l↔x∈l:=List.mem_mergeSort
def JC(s:Int)(n k:Nat):aD:=ic ((gK n s (upto n) k).2.take k)
theorem aew{s:Int}{n k:Nat}(b:k<=n){x:Int}(a:x∈JC s n k):0<=x/\x<n:=
 Lj n s k b x (zD ((BP _ _).1 a))
theorem aex(s:Int)(n k:Nat)(a:k<=n):i1 (JC s n k)=k:=by rw[JC,Hq,qY,Ar,ib];omega
def fI(l:Nat):Nat:=if l<=1 then l else if l<=4 then 2 else if l<=9 then 3 else if l<=16 then 4 else 5
def JD(r:Nat):Nat:=if r=0 then 0 else if r=1 then 1 else if r<=3 then 2 else 3
def sW(l k:Nat):Nat:=
 (if k>1 then 1048576/(k*(k-1))else 1048576/l)+
  (if k<l/fI l then 1048576*fI l/(l*k)else if k=l/fI l then 1048576*fI l*JD (fI l)/l else 0)
def nr(l:Nat):Nat->Nat
 |0=>0
 |k+1=>nr l k+sW l (k+1)
def km(l:Nat):aD:=(qA l).map λk=>((nr l (k+1):Nat):Int)
theorem mw(l:Nat):i1 (km l)=l:=by simp[km]
def YT(t:aD)(x:Int):Nat:=(t.findIdx λy=>decide (y>x))+1
theorem MD:∀l,l<=20->∀k,k<=20->sW l k<=2^30:=j5
theorem JE(l:Nat)(a:l<=20):∀k,k<=20->nr l k<=k*2^30
 |0,_=>by simp[nr]
 |k+1,hk=>by
  have:=JE l a k i5;have:=MD l a (k+1) hk;rw[nr];omega
theorem Tt:∀l,l<=20->1<=l->0<nr l l:=j5
theorem ME(l:Nat)(h:1<=l):(km l).getLast?=dB ((nr l l:Nat):Int):=by
 obtain⟨k,rfl⟩:∃k,l=k+1:=⟨l-1,i5⟩
 simp[km,zV]
def Hr(seed id:Int):Int:=qc xA (qc xz ((qD (qk xz) seed^^^(qD (qk xz) (qc xz ((qc xz id)*(2654435761:Int))))).toNat:Nat))
def JF(s:Int)(n:Nat):Nat:=YT (km n) (mK s (nr n n))
theorem Au(s:Int)(n:Nat)(b:1<=n)(a:n<=20):JF s n<=n:=by unfold JF YT;have e:=Tt n a b;have d:=JE n a n a;have c:=Aq s (nr n n);have:=List.findIdx_lt_length_of_exists (p:=λy=>decide (y>mK s (nr n n))) (xs:=km n) ⟨_,List.mem_of_getLast? (ME n b),by simpa using c.2⟩;rw[mw]at this;omega
def bX(id:Int):Bool:=decide (0<=id)&&decide (id<=65535)
def dv(n:Nat)(seed id:Int):aD:=JC (FP (FP (Hr seed id))) n (JF (FP (Hr seed id)) n)
theorem nt{n:Nat}(c:1<=n)(a:n<=20){seed id x:Int}(b:x∈dv n seed id):0<=x/\x<n:=aew (Au _ n c a) b
theorem BQ{n:Nat}(b:1<=n)(a:n<=20)(seed id:Int):i1 (dv n seed id)<=n:=by rw[dv,aex _ _ _ (Au _ n b a)];exact Au _ n b a
def gu(n:Nat)(l:aD):bf:=l.foldl (λr i=>r.set i.toNat 1) (qh n 0)
theorem sX(n:Nat)(l:aD):i1 (gu n l)=n:=by
 have:∀(l:aD) (r:bf),i1 (l.foldl (λr i=>r.set i.toNat 1) r)=i1 r:=by
  intro l
  induction l with
  |nil=>intro r;rfl
  |cons a t ih=>intro r;rw[zA,ih];simp
 rw[gu,this];simp
def pi(n:Nat)(seed id:Int):bf:=gu n (dv n seed id)
theorem Tu(n:Nat)(seed id:Int):i1 (pi n seed id)=n:=sX _ _
def my(K H h:Nat):bf:=(qA K).map (λj=>Gf.pw ((h+1)*(j+1)%255))++(qA H).map λi=>if i=h then 1 else 0
def bF(K H:Nat):cJ:=(qA H).map (my K H)
theorem Av(K H h:Nat):i1 (my K H h)=K+H:=by simp[my]
def dR(p:Int×Int×Int)(seed:Int)(a:aD):cJ:=
 if bO p then bF p.1.toNat p.2.1.toNat++(a.filter bX).map (pi (bJ p).toNat seed)else[]
theorem pj{α:Type}{f:α->Bool}{l:List α}{k:Nat}(a:k<i1 l):(l.take (k+1)).filter f=if f l[k]then(l.take k).filter f++[l[k]]else(l.take k).filter f:=by rw[zJ a,zl];by_cases h:f l[k]=eR<;>simp[h]
abbrev Row:=bf
abbrev aR:=List Row
def scaleB(c:UInt8)(l:Row):Row:=l.map (Gf.mul c)
def cV(c:UInt8)(a to:Row):Row:=zi (λx y=>y^^^Gf.mul c x) a to
def aS(r:Row)(bA:Nat):UInt8:=r.getD bA 0
def aE(m:aR)(i:Nat):Row:=m.getD i []
def jq(m:aR)(a bA:Nat):Option Nat:=(qA m.length).find? λi=>decide (a<=i)&&(aS (aE m i) bA !=0)
def jG(m:aR)(i j:Nat):aR:=(m.set i (aE m j)).set j (aE m i)
def fi(a bA:Nat)(m:aR)(k:Nat):aR:=m.mapIdx λi r=>if i<k/\i≠a then cV (aS r bA) (aE m a) r else r
def ky(a bA:Nat)(m:aR):aR:=m.set a (scaleB (Gf.inv (aS (aE m a) bA)) (aE m a))
def jH(s:Nat×aR)(bA:Nat):Nat×aR:=
 match jq s.2 s.1 bA with
 |none=>s
 |some i=>(s.1+1,fi s.1 bA (ky s.1 bA (jG s.2 s.1 i)) s.2.length)
def bL(m:aR):Nat->Nat×aR
 |0=>(0,m)
 |c+1=>jH (bL m c) c
def eI(m:aR):Nat:=i1 (aE m 0)
def cb(m:aR):Nat:=(bL m (eI m)).1
def ba(n:Nat)(m:aR):Prop:=∀r∈m,i1 r=n
theorem pz(c:UInt8)(l:Row):i1 (scaleB c l)=i1 l:=by simp[scaleB]
theorem ca{c:UInt8}{a t:Row}(h:i1 a=i1 t:=by omega):i1 (cV c a t)=i1 t:=by simp[cV,h]
theorem bD{m:aR}{i:Nat}(h:i<i1 m):aE m i=m[i]:=by rw[aE,qe,qd h];rfl
theorem cA{n:Nat}{m:aR}(h:ba n m){i:Nat}(a:i<i1 m:=by omega):i1 (aE m i)=n:=by rw[bD a];exact h _ (qg a)
theorem Lk{n:Nat}{m:aR}(h:ba n m){i:Nat}{r:Row}(b:i1 r=n):ba n (m.set i r):=λx a=>by
 rcases zS a with h1|h1
 ·exact h x h1
 ·rw[h1];exact b
theorem YU{P:Nat->Bool}{n:Nat}(h:∀j,j<n->P j=eS):(qA n).find? P=eH:=by rw[yo];intro x a;rw[qG]at a;simp[h x a]
theorem YV{P:Nat->Bool}{n k:Nat}(e:k<n)(h:∀j,j<k->P j=eS)(c:P k=eR):(qA n).find? P=dB k:=by
 rw[List.find?_eq_some_iff_append];refine⟨c,qA k,List.range' (k+1) (n-k-1),?_,λa b=>?_⟩
 ·rw[yZ,yZ];have d:n=k+(n-k):=i5
  have e2:n-k=(n-k-1)+1:=i5
  conv=>lhs;rw[d,<-List.range'_append_1 (s:=0) (m:=k) (n:=n-k)]
  rw[wo]
  conv=>lhs;rw[e2,List.range'_succ]
 ·rw[qG]at b;simp[h a b]
theorem tU{m:aR}{a bA i:Nat}(h:jq m a bA=dB i):a<=i/\i<i1 m/\aS (aE m i) bA≠0:=by have b:=List.find?_some h;have c:=List.mem_of_find?_eq_some h;simp at b c;exact⟨b.1,c,b.2⟩
theorem Wh{m:aR}{a bA:Nat}(h:jq m a bA=eH):∀i,a<=i->i<i1 m->aS (aE m i) bA=0:=λi c b=>by
 have:=yo.1 h i (qG.2 b);simpa[c]using this
theorem mf(m:aR)(i j:Nat):i1 (jG m i j)=i1 m:=by simp[jG]
theorem Hs{n:Nat}{m:aR}(h:ba n m){i j:Nat}(b:i<i1 m)(a:j<i1 m):ba n (jG m i j):=Lk (Lk h (cA h a)) (cA h b)
theorem pk(t c:Nat)(m:aR):i1 (ky t c m)=i1 m:=by simp[ky]
theorem BR{n:Nat}{m:aR}(h:ba n m){t c:Nat}(a:t<i1 m):ba n (ky t c m):=Lk h (by rw[pz];exact cA h a)
theorem pm(t c:Nat)(m:aR)(k:Nat):i1 (fi t c m k)=i1 m:=by simp[fi]
theorem BS{n:Nat}{m:aR}(h:ba n m){t c k:Nat}(e:t<i1 m):ba n (fi t c m k):=λx b=>by
 obtain⟨i,d,rfl⟩:=List.mem_mapIdx.1 b;have a:=h _ (qg d);split
 ·rw[ca (by rw[cA h e,a])];exact a
 ·exact a
theorem abi(t c:Nat)(m:aR):fi t c m 0=m:=by apply zG;intro i;simp[fi,vo]
theorem sY{t c k:Nat}{m:aR}{i:Nat}(a:i<i1 m):aE (fi t c m k) i=if i<k/\i≠t then cV (aS (aE m i) c) (aE m t) (aE m i)else aE m i:=by rw[bD (by rw[pm];exact a),bD a];simp[fi]
theorem abj{t c k:Nat}{m:aR}(b:k<i1 m)(d:k≠t):fi t c m (k+1)=(fi t c m k).set k (cV (aS (aE m k) c) (aE m t) (aE m k)):=by
 apply zG;intro i;simp only[fi,q8,vo,List.length_mapIdx];by_cases a:k=i
 ·subst a;simp only[if_true,b,qd b,q7];rw[g0 ⟨i5,d⟩,bD b]
 ·rw[g9 a];congr 1;funext r;by_cases h:i<k/\i≠t
  ·rw[g0 h,g0 ⟨i5,h.2⟩]
  ·rw[g9 h,g9 λe=>h ⟨i5,e.2⟩]
theorem abk{t c:Nat}{m:aR}:fi t c m (t+1)=fi t c m t:=by
 apply zG;intro i;simp only[fi,vo];congr 1;funext r;by_cases h:i<t/\i≠t
 ·rw[g0 h,g0 ⟨i5,h.2⟩]
 ·rw[g9 h,g9 λa=>h ⟨i5,a.2⟩]
theorem abl{n:Nat}{s:Nat×aR}(h:ba n s.2)(bA:Nat):ba n (jH s bA).2/\(jH s bA).2.length=i1 s.2:=by
 unfold jH;cases hb:jq s.2 s.1 bA with
 |none=>exact⟨h,i4⟩
 |some i=>
  have a:=tU hb;dsimp only;refine⟨BS (BR (Hs h i5 a.2.1) (by rw[mf];omega)) (by rw[pk,mf];omega),by rw[pm,pk,mf]⟩
theorem hY{n:Nat}{m:aR}(h:ba n m):∀c,ba n (bL m c).2/\(bL m c).2.length=i1 m
 |0=>⟨h,i4⟩
 |c+1=>by
  have:=hY h c;have a:=abl this.1 c;rw[bL];exact⟨a.1,by rw[a.2,this.2]⟩
theorem aey{s:Nat×aR}(h:s.1<=i1 s.2)(bA:Nat):(jH s bA).1<=(jH s bA).2.length:=by
 unfold jH;cases hb:jq s.2 s.1 bA with
 |none=>exact h
 |some i=>
  have a:=tU hb;dsimp only;rw[pm,pk,mf];omega
theorem EC(m:aR):∀c,(bL m c).1<=(bL m c).2.length
 |0=>by simp[bL]
 |c+1=>aey (EC m c) c
end Wl
namespace Go.Vc
open Go
section
variable {C:Ctx} {t t2 ty e k:Nat} {z:bh} {by_:Nat} {α:Type} {h h0:f9} {p B:aC} {s v:Sl} {f:α->bh} {l l2:List α} {As:List HP}
theorem Own.Tv(Q:C.Ok)(O:bZ C.toDr t e k z by_)(E:∀x,i1 (f x)=k)(y:Own h e s k f l)(R:Seq h p v k f l2)(A:∀x,∀c∈f x,c.oneCell'=eR)(j:Nat)(S:j<=i1 l){w:aM}{J U:Nat}(g:w=if s.cap=j then s.ptr else s.ptr.map (·.add (j*k)))(B:J=s.len-j){K:Int->f9->Prop}
  (F:∀n h',Own h' e s k f (l.take j++(l2.take (i1 l-j)++l.drop (j+i1 l2)))->bc (λb=>¬s.on b) h h'->K n h'):
  aB C.P (yq #[t,t2] ty #[.slice w J U,.slice v.ptr v.len v.cap]) (.one (.sc (.int .i64))) h K:=by
 unfold aB yq;simp only[zX,yA,qw];refine ag.bind (ag.always (aW (O.under Q)) ?_);refine ag.bind (ag.pure' ?_);refine ag.bind (ag.always (O.size Q) ?_);have i:=y.len;have u:=R.len;have N:=y.cap;obtain⟨m,D⟩:∃m,m=Nat.min v.len J:=⟨_,rfl⟩
 rw[<-D];have G:m<=i1 l2:=by rw[D,<-u];exact Nat.min_le_left _ _
 have r:m<=i1 l-j:=by rw[D,<-i,B];exact Nat.min_le_right _ _
 have X:m=min l2.length (i1 l-j):=by rw[D,B,i,u]
 have H:=R.take m G;have V:l2.take (i1 l-j)++l.drop (j+i1 l2)=l2.take m++l.drop (j+m):=by
  rcases Nat.le_total l2.length (i1 l-j)with hh|hh
  ·rw[qi hh,show m=i1 l2 by omega,q9]
  ·rw[show m=i1 l-j by omega,zf (show l.length<=j+i1 l2 by omega),zf i5]
 rw[V]at F;have L:wH k m (.slice v.ptr v.len v.cap)=wH k m (.slice v.ptr m v.cap):=by cases v.ptr<;>rfl
 rw[L];refine ag.bind (gP (v:=⟨v.ptr,m,v.cap⟩) E H ?_);have d:m=0->l.take j++(l2.take m++l.drop (j+m))=l:=λe=>by rw[e];simp
 rcases y.head with⟨h1,h2,h3⟩|⟨b,rest,h1,h2,h3,h4⟩
 ·have a:w=eH:=by rw[g,h1];split<;>rfl
  rw[a];subst h3;have:m=0:=by simp at r;exact r
  refine ag.pure' ⟨_,i4,F _ h ?_ (bc.refl _ _)⟩;rw[d this];exact y
 ·by_cases o:s.cap=j
  ·have a:w=dB ⟨b,0,eH⟩:=by rw[g,g0 o,h1]
   rw[a];have q:m=0:=i5
   refine ag.bind ?_;rw[q];simp only[vK,List.flatMap_nil];exact ag.pure' (ag.pure' ⟨_,i4,F _ h (by rw[d q];exact y) (bc.refl _ _)⟩)
  ·have a:w=dB ⟨b,0+j*k,eH⟩:=by rw[g,g9 o,h1];simp only[q7];rw[add_eq]
   rw[a];refine ag.bind ?_;have M:l.flatMap f++rest=(l.take j).flatMap f++((l.drop j).take m).flatMap f++((l.drop (j+m)).flatMap f++rest):=by rw[<-qp,<-zg,<-zg,<-zH,qp (List.take j l),qE,qE]
   rw[M]at h2;refine fC (e:=e) (pre:=(l.take j).flatMap f) (old:=((l.drop j).take m).flatMap f) (post:=(l.drop (j+m)).flatMap f++rest) h2 (by rw[dK E,dK E,qY,qY,ze];congr 1;omega) (by rw[dK E,qY];rw[w4 S];omega) ?_ ?_
   ·intro c T;obtain⟨x,_,I⟩:=zU.1 T;exact A x c I
   ·refine ag.pure' ⟨_,i4,F _ _ ⟨by rw[i,qx,qx,qY,qY,ze];omega,.inr ⟨b,rest,h1,?_,h3,h4⟩⟩ (bc.ki h2 λW=>W ⟨0,h1⟩)⟩;rw[iS h2,g0 i4,zg,zg];simp[qp]
theorem aa.Tv(w:C.Ok)(H:aa B h0 h As)(i:Nat)(g:As[i]?=dB (an e s k f l))(u:bZ C.toDr t e k z by_)(A:∀x,i1 (f x)=k)(D:Seq h p v k f l2)(a:∀x,∀c∈f x,c.oneCell'=eR)(j:Nat)(q:j<=i1 l){m:aM}{o r:Nat}(d:m=if s.cap=j then s.ptr else s.ptr.map (·.add (j*k)))(b:o=s.len-j){K:Int->f9->Prop}
  (E:∀n h',aa B h0 h' (As.set i (an e s k f (l.take j++(l2.take (i1 l-j)++l.drop (j+i1 l2)))))->K n h'):
  aB C.P (yq #[t,t2] ty #[.slice m o r,.slice v.ptr v.len v.cap]) (.one (.sc (.int .i64))) h K:=
 (H.own i g).Tv w u A D a j q d b λn h' x y=>E n h' (H.nR i g y x)
end
end Go.Vc
namespace Wl
open Go
def b8(n:Int):UInt8:=yK (n%256).toNat
theorem ee(n:Int):qc xy n=((b8 n).toNat:Int):=by
 have h0:=w5 n (show(256:Int)≠0 by decide);have a:=wq n (show(0:Int)<256 by decide);have e:((b8 n).toNat:Int)=n%256:=by unfold b8;rw[UInt8.toNat_ofNat'];omega
 rw[e];unfold qc;simp[qk,va]
abbrev jR:=BitVec 32
def ko(s:jR):jR:=if s&&&1#32=1#32 then(s>>>1)^^^3988292384#32 else s>>>1
def eu:Nat->jR->jR
 |0,s=>s
 |n+1,s=>ko (eu n s)
def mT(s:jR)(x:UInt8):jR:=eu 8 (s^^^BitVec.ofNat 32 x.toNat)
def lJ(l:bf):jR:=l.foldl mT 4294967295#32
def mL(l:bf):jR:=4294967295#32^^^lJ l
theorem YW(l:bf)(x:UInt8):lJ (l++[x])=mT (lJ l) x:=by unfold lJ;rw[zN];rfl
theorem Tw(s:jR):qc xz ((s.toNat:Nat):Int)=(s.toNat:Int):=by have:=s.isLt;unfold qc;simp[qk,va];omega
theorem YX(a b:jR):qc xz ((qD (qk xz) (a.toNat:Int)^^^qD (qk xz) (b.toNat:Int)).toNat:Nat)=((a^^^b).toNat:Int):=by show qc xz (((qD 32 (a.toNat:Int)^^^qD 32 (b.toNat:Int):BitVec 32).toNat:Nat):Int)=_;rw[w8,w8,vD,vD,vE,vE,Tw]
theorem ajW(a b:jR):qc xz ((qD (qk xz) (a.toNat:Int)&&&qD (qk xz) (b.toNat:Int)).toNat:Nat)=((a&&&b).toNat:Int):=by show qc xz (((qD 32 (a.toNat:Int)&&&qD 32 (b.toNat:Int):BitVec 32).toNat:Nat):Int)=_;rw[w8,w8,vD,vD,vE,vE,Tw]
theorem Qy(n:Int):qc xz n=((qD 32 n).toNat:Int):=by unfold qc;simp[qk,va,BitVec.toNat_ofInt];omega
theorem ahp(s:jR):qX (s.toNat:Int) (2^min (1:Int).toNat (qk xz))=((s>>>1).toNat:Int):=by rw[show min (1:Int).toNat (qk xz)=1 from i4,yP _ i6,BitVec.toNat_ushiftRight,Nat.shiftRight_eq_div_pow];simp
theorem XV(s:jR):((s&&&1#32).toNat:Int)=1↔s&&&1#32=1#32:=by
 constructor
 ·intro h;apply BitVec.eq_of_toNat_eq;have:(1#32:jR).toNat=1:=rfl;omega
 ·intro h;rw[h];rfl
def lR(s:jR):bf:=(qA 4).map λi=>b8 (qX (s.toNat:Int) (2^(8*i)))
theorem ED(s:jR):i1 (lR s)=4:=by simp[lR]
def dS(kind:Int)(a:bf):bf:=[87,115,1,b8 kind]++a++qh (55-i1 a) 0
def dW(kind:Int)(a:bf):bf:=
 if 1<=kind/\kind<=255/\a.length<=55 then dS kind a++lR (mL (dS kind a))++[165]else[]
theorem Aw{kind:Int}{a:bf}(h:i1 a<=55):i1 (dS kind a)=59:=by simp[dS];omega
theorem mU{kind:Int}{a:bf}(c:1<=kind)(b:kind<=255)(h3:i1 a<=55):i1 (dW kind a)=64:=by unfold dW;rw[g0 ⟨c,b,h3⟩];simp[Aw h3,ED]
end Wl
namespace Go.Vc
open Go
def jy(s:ByteArray):bf:=s.data.toList
theorem EE(s:ByteArray):i1 (jy s)=s.size:=rfl
def aks(n:Nat):Obj->Obj
 | .cells c elem (lo,hi)=>.cells c elem (if lo==hi then(n,n+1)else(min lo n,max hi (n+1)))
 |o=>o
theorem ag.abm{P:Program}{h:f9}{b n:Nat}{c:Array eX}{e:TypeId}{K:Unit->f9->Prop}(i:h[b]?=dB (.cells c e (0,0)))(k:n=c.size)(j:∀h',(∀x,x≠b->h'[x]?=h[x]?)->h'.size=h.size->(∃f,h'[b]?=dB (.cells c e f))->K () h'):
  ag P (freeze {block:=b,off:=n} 1) h K:=λw g=>by
 refine⟨(),w.freeze {block:=b,off:=n} 1,run_freeze P w _ _,⟨i4,i4,i4,qm _⟩,?_⟩;subst g;have a:(w.freeze {block:=b,off:=n} 1).heap=w.heap.modify b (aks n):=rfl;refine j _ (λx d=>?_) ?_ ?_
 ·rw[a,yl,g9 λe=>d e.symm]
 ·rw[a];simp
 ·rw[a,yl,g0 i4,i];exact⟨_,i4⟩
section
variable {C:Ctx} {B:aC} {h h0:f9} {As:List HP} {t e ts:Nat}
theorem ahq(j:C.Ok)(B:∃i,C.T.get ts=dB i/\i.cX=.str)(F:∃i,C.T.get t=dB i/\i.cX=.slice e)(A:∃i,C.T.get e=dB i/\i.cX=.int .u8)(s:ByteArray){K:Sl->f9->Prop}(G:∀r h',Sp h h' [uH r 1 aF (jy s)]->K r h'):
  aB C.P (convert ts t (.string s)) (.one (.sc .slc)) h K:=by
 obtain⟨I,o,p⟩:=B;obtain⟨J,z,u⟩:=F;obtain⟨i3,a3,D⟩:=A;have H:C.P.underlying ts=dB .string:=by have:=j.cX o;rw[p]at this;exact xY this
 have E:C.P.underlying t=dB (.slice e):=by have:=j.cX z;rw[u]at this;exact jQ this
 have u3:C.P.underlying e=dB (.int .u8):=by have:=j.cX a3;rw[D]at this;exact Jw this
 unfold aB convert;refine ag.bind (ag.always (aW H) ?_);refine ag.bind (ag.always (aW E) ?_);refine ag.bind (ag.always (aW u3) ?_);unfold Conv.stringToBytes;refine ag.bind (ag.OQ ⟨λy=>(by cases y),λ_ w=>?_⟩);generalize g:Question.cut (Question.appendCap s.size 0 e) w=cc;have n:s.size<=cc:=by rw[<-g];simp only[Question.cut];omega
 unfold newRow;refine ag.bind (ag.bind (ag.sQ (ag.pure' ?_)));unfold markStringish;obtain⟨cs,a⟩:∃cs:Array eX,cs=s.data.map (λb=>Value.int .u8 b.toNat)++Array.replicate (cc-s.size) (Value.int .u8 0):=⟨_,rfl⟩
 rw[<-a];refine ag.bind (ag.bind (ag.aiq ?_));have k:shapeOf (h.push (.cells cs e)) h.size=dB (e,cs.size):=by unfold shapeOf;simp
 dsimp only;rw[k];refine ag.abm (c:=cs) (e:=e) jj i4 λh' v l d=>?_;refine ag.pure' ⟨⟨dB ⟨h.size,0,eH⟩,s.size,cc⟩,i4,G _ _ ?_⟩;obtain⟨f,d⟩:=d;refine .one ⟨by rw[l];simp,λb L _=>by rw[v b i5,Array.getElem?_push,g9 i5]⟩ ?_;refine⟨by rw[EE],λi x m=>⟨h.size,0,i4,⟨qm _,by rw[l];simp⟩,?_,trivial⟩⟩;rw[add_zero];have q:i<s.data.size:=by have:=(qn.1 m).1;simpa[jy]using this
 unfold f8;simp only[d,Nat.mul_one,wo,Option.isSome_none,zj,if_false];rw[a,Array.getElem?_append_left oj,Array.getElem?_map];have:s.data[i]?=dB x:=by rw[<-m];simp[jy]
 rw[this];rfl
end
section
variable {C:Ctx} {t t2 e k:Nat} {z:bh} {by_:Nat} {h h0:f9} {B:aC} {As:List HP} {s:Sl} {l:bf}
theorem RM(u:C.Ok)(H:bZ C.toDr t e 1 z by_)(h2:∃i,C.T.get t2=dB i/\i.cX=.str)(hz:i1 z=1)(J:0<by_/\by_<=128)
  (v:Own h e s 1 aF l) (x:ByteArray) (ab:i1 l+x.size<=2^32) {ty:Nat} {K:Sl->f9->Prop}
  (L:∀A h',Own h' e A 1 aF (l++jy x)->bc (λb=>¬s.on b) h h'->(∀b,A.on b->s.on b∨h.size<=b)->K A h'):
  aB C.P (qt #[t,t2] ty #[.slice s.ptr s.len s.cap,.string x]) (.one (.sc .slc)) h K:=by
 obtain⟨i2,Q,S⟩:=h2;have B:C.P.underlying t2=dB .string:=by have:=u.cX Q;rw[S]at this;exact xY this
 obtain⟨I,r,x2,x3,zv,O,x5⟩:=H.info u;have n:∀y∈(jy x).flatMap aF,y.oneCell'=eR:=λy hy=>by
  obtain⟨b,_,hb⟩:=zU.1 hy;exact iP b y hb
 have g:((x.extract 0 x.size).data.map λb=>Value.int .u8 (b.toNat:Int))=((jy x).flatMap aF).toArray:=by
  have W:x.extract 0 x.size=x:=by apply ByteArray.ext;simp[ByteArray.data_extract]
  rw[W];apply yE;simp only[vR,jy];exact List.map_eq_flatMap
 unfold aB qt;simp only[zX,yA,qw];refine ag.bind (ag.always (aW (H.under u)) ?_);refine ag.bind (ag.always (H.size u) ?_);refine ag.bind (ag.always (aW B) ?_);refine ag.bind (ag.pure' ?_);simp only[zj,if_false,ye,if_true];refine ag.bind (ag.pure' ?_);have p:=v.len;have w:∀y,i1 (aF y)=1:=λ_=>rfl;have j:=dK w l;have a:=dK w (jy x);have X:=EE x;have m:∀{h:f9} {K:Array eX->f9->Prop},K ((jy x).flatMap aF).toArray h->ag C.P (wH 1 x.size (.string x)) h K:=λ{h K} hK=>by
  unfold wH;dsimp only;rw[g];exact ag.pure' hK
 by_cases d:s.len+x.size<=s.cap
 ·rw[g0 d];refine ag.bind (m ?_);rcases v.head with⟨p1,p2,p3⟩|⟨b,rest,p1,p2,p3,p4⟩
  ·rw[p1];have G:jy x=[]:=za i5;refine ag.pure' ⟨⟨eH,s.len+x.size,s.cap⟩,i4,L _ _ ⟨?_,.inl ⟨i4,p2,by simp[p3,G]⟩⟩ (bc.refl _ _) ?_⟩
   ·simp;omega
   ·rintro M ⟨o,f⟩;cases f
  ·rw[p1];refine ag.bind ?_;rw[add_eq,wo];have D:i1 ((jy x).flatMap aF)<=i1 rest:=by rw[a,p3];omega
   refine fC (e:=e) (pre:=l.flatMap aF) (old:=rest.take ((jy x).flatMap aF).length) (post:=rest.drop ((jy x).flatMap aF).length) ?_ ?_ ?_ ?_ ?_
   ·rw[qp,qE];exact p2
   ·rw[qY];exact w4 D
   ·rw[j,p];omega
   ·intro c R;exact n c (by simpa using R)
   ·refine ag.pure' ⟨⟨dB ⟨b,0,eH⟩,s.len+x.size,s.cap⟩,i4,L _ _ ⟨?_,.inr ⟨b,rest.drop ((jy x).flatMap aF).length,i4,?_,?_,d⟩⟩ ?_ ?_⟩
    ·simp;omega
    ·rw[iS p2,g0 rfl];simp
    ·rw[ze,p3,a];show(s.cap-s.len)*1-i1 (jy x)*1=(s.cap-(s.len+x.size))*1;omega
    ·exact bc.ki p2 (λhn=>hn ⟨0,p1⟩)
    ·rintro M ⟨o,f⟩;cases f;exact .inl ⟨0,p1⟩
 ·rw[g9 d];have k:Seq h (λ_=>True) s 1 aF l:=v.seq w λ_ _=>trivial;have N:=v.cap;refine ag.bind (ag.always (dt r) ?_);rw[g9 λZ=>by rcases Z.2 with h|h<;>first|exact h|(rw[x3]at h;omega)];refine ag.bind (ag.always (dt r) ?_);have U:=XQ (s.len+x.size) s.cap;rw[g9 (by
   have:vn (s.len+x.size) s.cap*I.bytes<=(16*2^32+16*768)*128:=wv i5 (by rw[x3];exact J.2);omega)]
  refine ag.bind (ag.OQ ⟨λY=>(by cases Y),λ_ V=>?_⟩);refine ag.bind (ag.always (dt r) ?_);refine ag.bind (ag.KZ ?_);refine ag.bind (gP w k ?_);refine ag.bind (m ?_);have E:aP C.P (zeroValue e) zv:=(dt r).bind (by rw[O];exact .pure);refine ag.bind (ag.always E ?_);rw[x5,He];unfold newRow;refine ag.bind (ag.bind (ag.sQ (ag.pure' (ag.pure' ?_))));generalize F:Question.cut (Question.appendCap (s.len+x.size) s.cap e) V=cc;have q:s.len+x.size<=cc:=by rw[<-F];simp only[Question.cut];omega
  refine⟨⟨dB ⟨h.size,0,eH⟩,s.len+x.size,cc⟩,i4,L _ _ ⟨?_,.inr ⟨h.size,jf z (cc-(s.len+x.size)),i4,?_,?_,q⟩⟩ (bc.push _ _ _) ?_⟩
  ·simp;omega
  ·simp
  ·rw[ph,hz]
  ·rintro M ⟨o,f⟩;cases f;exact .inr (qm _)
theorem aa.abn(u:C.Ok)(H:aa B h0 h As)(i:Nat)(p:As[i]?=dB (an e s 1 aF l))(r:bZ C.toDr t e 1 z by_)(E:∃i,C.T.get t2=dB i/\i.cX=.str)(v:i1 z=1)(j:0<by_/\by_<=128)
  (x:ByteArray) (n:i1 l+x.size<=2^32) {ty:Nat} {K:Sl->f9->Prop} (F:∀f h',aa B h0 h' (As.set i (an e f 1 aF (l++jy x)))->K f h'):
  aB C.P (qt #[t,t2] ty #[.slice s.ptr s.len s.cap,.string x]) (.one (.sc .slc)) h K:=by
 obtain⟨D,w,c,y,a⟩:=H;have o:=a i _ p;refine RM u r E v j o.1 x n λf h' d k g=>F f h' ?_;refine aa.Ey D w y a (k.mono λb m A q=>A (o.2 b q)) ⟨d,λb m=>⟨d.lt m,?_⟩⟩;rcases g b m with h1|h1
 ·exact .inl (o.2 b h1)
 ·exact .inr h1
end
end Go.Vc
namespace Wl
open Go
structure cw where
 name:ByteArray
 object:Int
 length:Int
 tries:aD
structure aG where
 seq:Int
 next:Int
 p:Int×Int×Int
 extra:Int
 drives:aD
 aH:List cw
def ajX:cw:=⟨⟨#[]⟩,0,0,[]⟩
def ri(l:List cw)(i:Nat):cw:=l.getD i ajX
theorem po{l:List cw}{i:Nat}(h:i<i1 l:=by omega):ri l i=l[i]:=by unfold ri;rw[qe,qd h];rfl
def fo(n a b:Int):Bool:=decide (a<=n)&&decide (n<=b)
def nu(c:UInt8):Bool:=(decide (97<=c.toNat)&&decide (c.toNat<=122))||(decide (48<=c.toNat)&&decide (c.toNat<=57))||decide (c.toNat=45)
def ne(s:ByteArray):Bool:=s.data.toList.all nu&&(decide (1<=s.size)&&decide (s.size<=12))
def fp(a b:ByteArray):Bool:=Op.bytesLess a.toList b.toList
def kp(l:aD)(most:Int)(i:Nat):Bool:=fo (l.getD i 0) 0 most&&(decide (i=0)||decide (l.getD (i-1) 0<l.getD i 0))
def rj(l:aD)(most:Int):Bool:=(qA l.length).all (kp l most)
def countP(p:Int×Int×Int)(n:Int):Int:=if bO p&&decide (0<n)then(n-1)/(p.1*p.2.2)+1 else 0
def ie(m:aG)(x:cw):Bool:=
 ne x.name&&(fo x.object 0 (m.next-1)&&(fo x.length 0 (m.p.1*m.p.2.2*8)&&(x.tries.all (fo · 0 15)&&decide ((x.tries.length:Int)=countP m.p x.length))))
def rk(m:aG)(i:Nat):Bool:=
 ie m (ri m.aH i)&&((decide (i=0)||fp (ri m.aH (i-1)).name (ri m.aH i).name)&&!(m.aH.take i).any λy=>decide (y.object=(ri m.aH i).object))
def lK(m:aG):Bool:=fo m.seq 1 2147483647&&(fo m.next 0 16777216&&(bO m.p&&fo m.extra 0 16))
def bR(m:aG):Bool:=lK m&&(rj m.drives 63&&(decide (i1 m.aH<=12)&&(qA m.aH.length).all (rk m)))
theorem Ht{p:Nat->Bool}{n i:Nat}(a:i<n)(h:p i=eS):(qA n).all p=eS:=List.all_eq_false.2 ⟨i,qG.2 a,by rw[h];simp⟩
theorem uJ{p:Nat->Bool}{n:Nat}(h:∀i,i<n->p i=eR):(qA n).all p=eR:=qZ.2 λi a=>h i (qG.1 a)
def cg(n:Int)(k:Nat):bf:=(qA k).map λi=>b8 (qX n (2^(8*(k-1-i))))
theorem cF(n:Int)(k:Nat):i1 (cg n k)=k:=by simp[cg]
def jI(x:cw):bf:=b8 x.name.size::(x.name.data.toList++(cg x.object 3++(cg x.length 2++x.tries.map b8)))
def gW(m:aG):bf:=
 if bR m then cg m.seq 4++(cg m.next 4++([b8 m.p.1,b8 m.p.2.1,b8 m.p.2.2,b8 m.extra,b8 m.drives.length]++(m.drives.map b8++(b8 m.aH.length::m.aH.flatMap jI))))else[]
def kI(seq a c:Int)(b:bf):bf:=dW 2 (cg seq 4++([b8 a,b8 c,b8 b.length]++b))
def iL(b:bf):Nat:=(i1 b+47)/48
def bu(m:aG):cJ:=(qA (iL (gW m))).map λi:Nat=>kI m.seq i (iL (gW m)) (((gW m).drop (48*i)).take 48)
theorem abo{m:aG}(h:bR m=eR):lK m=eR:=by unfold bR at h;simp at h;exact h.1
theorem Tx{m:aG}(h:lK m=eR):(1<=m.seq/\m.seq<=2147483647)/\(0<=m.next/\m.next<=16777216)/\bO m.p=eR/\0<=m.extra/\m.extra<=16:=by unfold lK fo at h;simpa[and_assoc]using h
theorem xE{m:aG}{c:bf}(h:c∈bu m):i1 c=64:=by unfold bu at h;obtain⟨i,_,rfl⟩:=qu.1 h;exact mU i6 i6 mn
structure dj where
 object:Int
 block:Int
 id:Int
 p:Int×Int×Int
 seed:Int
 data:bf
theorem rn(n:Int):((b8 n).toNat:Int)=n%256:=by have h0:=w5 n (show(256:Int)≠0 by decide);have a:=wq n (show(0:Int)<256 by decide);unfold b8;rw[UInt8.toNat_ofNat'];omega
def jz(r:dj):Bool:=(fo r.object 0 16777215&&(fo r.block 0 7&&bX r.id))&&(bO r.p&&decide ((r.data.length:Int)=r.p.2.2))
def jr(r:dj):bf:=cg r.object 3++(cg r.block 1++(cg r.id 2++([b8 r.p.1,b8 r.p.2.1,b8 r.p.2.2]++(cg r.seed 4++r.data))))
def dE(r:dj):bf:=if jz r then dW 1 (jr r)else[]
def dw(l:bf):Int:=l.foldl (λn x=>n*256+x.toNat) 0
def fx(c:bf):Option (Int×bf):=
 if c.length=64/\dW ((c.getD 3 0).toNat:Int) ((c.drop 4).take 55)=c then dB (((c.getD 3 0).toNat:Int),(c.drop 4).take 55)else eH
def xF(x:bf):dj:=
 ⟨dw (x.take 3),dw ((x.drop 3).take 1),dw ((x.drop 4).take 2),(dw ((x.drop 6).take 1),dw ((x.drop 7).take 1),dw ((x.drop 8).take 1)),dw ((x.drop 9).take 4),(x.drop 13).take (dw ((x.drop 8).take 1)).toNat⟩
def ey(c:bf):Option dj:=
 match fx c with
 |some (k,x)=>if k=1/\bO (xF x).p=eR/\dE (xF x)=c then dB (xF x)else eH
 |none=>eH
theorem abp(n:Int):cg n 1=[b8 n]:=by simp[cg]
theorem abq(n:Int):cg n 2=[b8 (qX n (2^8)),b8 n]:=by simp[cg,zV]
theorem Wi(n:Int):cg n 3=[b8 (qX n (2^16)),b8 (qX n (2^8)),b8 n]:=by simp[cg,zV]
theorem MF(n:Int):cg n 4=[b8 (qX n (2^24)),b8 (qX n (2^16)),b8 (qX n (2^8)),b8 n]:=by simp[cg,zV]
theorem EF{n:Int}(a:0<=n:=by omega)(b:n<256:=by omega):dw [b8 n]=n:=by simp only[dw,zA,wx,rn];omega
theorem fdiv_pow(n:Int)(k:Nat):qX n (2^k)=n/(2^k):=yP _ (Int.pow_nonneg i6)
theorem aez{n:Int}(a:0<=n)(b:n<65536):dw (cg n 2)=n:=by rw[abq,fdiv_pow];simp only[dw,zA,wx,rn];omega
theorem YY{n:Int}(a:0<=n)(b:n<16777216):dw (cg n 3)=n:=by rw[Wi,fdiv_pow,fdiv_pow];simp only[dw,zA,wx,rn];omega
theorem Qz{n:Int}(a:0<=n)(b:n<4294967296):dw (cg n 4)=n:=by rw[MF,fdiv_pow,fdiv_pow,fdiv_pow];simp only[dw,zA,wx,rn];omega
theorem lr(r:dj):jz r=eR↔(0<=r.object/\r.object<=16777215)/\(0<=r.block/\r.block<=7)/\(0<=r.id/\r.id<=65535)/\bO r.p=eR/\(r.data.length:Int)=r.p.2.2:=by unfold jz fo bX;simp[and_assoc]
theorem pA{r:dj}(h:jz r=eR):i1 (jr r)=13+i1 r.data/\r.data.length<=24:=by obtain⟨_,_,_,a,b⟩:=(lr r).1 h;have:=(co r.p).1 a;refine⟨by unfold jr;simp[cF];omega,i5⟩
theorem Ll{r:dj}(h:jz r=eR):i1 (dE r)=64:=by have:=pA h;unfold dE;rw[g0 h];exact mU i6 i6 i5
theorem BU{k:Int}{a:bf}(d:1<=k:=by decide)(b:k<=255:=by decide)(h3:i1 a<=55:=by omega):fx (dW k a)=dB (k,a++qh (55-i1 a) 0):=by
 obtain⟨x,c⟩:∃x,x=a++qh (55-i1 a) 0:=⟨_,rfl⟩
 have e:i1 x=55:=by rw[c];simp;omega
 have f:dW k a=[87,115,1,b8 k]++(x++(lR (mL (dS k a))++[165])):=by unfold dW;rw[g0 ⟨d,b,h3⟩];unfold dS;rw[c];simp[qp]
 have i:((dW k a).getD 3 0)=b8 k:=by rw[f];rfl
 have e2:((dW k a).drop 4).take 55=x:=by rw[f];have:([87,115,1,b8 k]++(x++(lR (mL (dS k a))++[165]))).drop 4=x++(lR (mL (dS k a))++[165]):=rfl;rw[this,List.take_append_of_le_length i5,qi i5]
 have g:((b8 k).toNat:Int)=k:=by rw[rn];omega
 have h:dS k x=dS k a:=by unfold dS;rw[e,c];simp[qp]
 have j:dW k x=dW k a:=by unfold dW;rw[g0 ⟨d,b,i5⟩,g0 ⟨d,b,h3⟩,h]
 unfold fx;rw[i,e2,g,g0 ⟨mU d b h3,j⟩,c]
theorem YZ{r:dj}(h:jz r=eR)(w:0<=r.seed/\r.seed<4294967296)(z:bf):xF (jr r++z)=r:=by
 obtain⟨t,A,h3,s,y⟩:=(lr r).1 h;have x:=(co r.p).1 s;have l1:=cF r.object 3;have l2:=cF r.id 2;have g:=cF r.seed 4;have e:jr r++z=cg r.object 3++([b8 r.block]++(cg r.id 2++([b8 r.p.1]++([b8 r.p.2.1]++([b8 r.p.2.2]++(cg r.seed 4++(r.data++z))))))):=by unfold jr;rw[abp];simp[qp]
 have d:∀(u v:bf) (n:Nat),u.length=n->∀m,(u++v).drop (n+m)=v.drop m:=λu v n b m=>by
  rw[<-zH,<-b,List.drop_left]
 have a:∀(u v:bf) (n:Nat),u.length=n->(u++v).take n=u:=λu v n b=>by rw[<-b,vL]
 have k:(jr r++z).drop 3=[b8 r.block]++(cg r.id 2++([b8 r.p.1]++([b8 r.p.2.1]++([b8 r.p.2.2]++(cg r.seed 4++(r.data++z)))))):=by rw[e];exact d _ _ 3 l1 0
 have i:(jr r++z).drop 4=cg r.id 2++([b8 r.p.1]++([b8 r.p.2.1]++([b8 r.p.2.2]++(cg r.seed 4++(r.data++z))))):=by rw[show 4=3+1 from i4,<-zH,k];rfl
 have f:(jr r++z).drop 6=[b8 r.p.1]++([b8 r.p.2.1]++([b8 r.p.2.2]++(cg r.seed 4++(r.data++z)))):=by rw[show 6=4+2 from i4,<-zH,i];exact d _ _ 2 l2 0
 have l:(jr r++z).drop 7=[b8 r.p.2.1]++([b8 r.p.2.2]++(cg r.seed 4++(r.data++z))):=by rw[show 7=6+1 from i4,<-zH,f];rfl
 have o:(jr r++z).drop 8=[b8 r.p.2.2]++(cg r.seed 4++(r.data++z)):=by rw[show 8=7+1 from i4,<-zH,l];rfl
 have j:(jr r++z).drop 9=cg r.seed 4++(r.data++z):=by rw[show 9=8+1 from i4,<-zH,o];rfl
 have c:(jr r++z).drop 13=r.data++z:=by rw[show 13=9+4 from i4,<-zH,j];exact d _ _ 4 g 0
 have q:dw (((jr r++z).drop 8).take 1)=r.p.2.2:=by rw[o,a _ _ 1 i4,EF]
 unfold xF;rw[q,k,i,f,l,j,c];rw[a [b8 r.block] _ 1 i4,a _ _ 2 l2,a [b8 r.p.1] _ 1 i4,a [b8 r.p.2.1] _ 1 i4,a _ _ 4 g];have t0:(jr r++z).take 3=cg r.object 3:=by rw[e];exact a _ _ 3 l1
 rw[t0,YY i5 i5,EF,aez i5 i5,EF,EF,Qz i5 i5];have:r.p.2.2.toNat=r.data.length:=i5
 rw[this,vL]
theorem Hu{r:dj}(h:jz r=eR)(b:0<=r.seed/\r.seed<4294967296):ey (dE r)=dB r:=by
 have c:=pA h;have a:=((lr r).1 h).2.2.2.1;have e:dE r=dW 1 (jr r):=by unfold dE;rw[g0 h]
 unfold ey;rw[e,BU];dsimp only;rw[YZ h b,g0 ⟨i4,a,e⟩]
theorem Za{c:bf}{r:dj}(h:ey c=dB r):dE r=c/\jz r=eR/\bO r.p=eR:=by
 unfold ey at h;cases hc:fx c with
 |none=>rw[hc]at h;cases h
 |some kx=>
  rw[hc]at h;dsimp only at h;by_cases a:kx.1=1/\bO (xF kx.2).p=eR/\dE (xF kx.2)=c
  ·rw[g0 a]at h;injection h with h
   subst h;refine⟨a.2.2,?_,a.2.1⟩;by_cases d:jz (xF kx.2)=eR
   ·exact d
   ·exfalso;have b:=a.2.2;unfold dE at b;rw[g9 d]at b;unfold fx at hc;rw[<-b]at hc;simp at hc
  ·rw[g9 a]at h;cases h
end Wl
namespace Go.Vc
open Go
section
variable {C:Ctx} {h:f9} {t e ts:Nat}
theorem Kp:∀(l:bf) (b:ByteArray),l.foldl ByteArray.push b=⟨(b.data.toList++l).toArray⟩
 |[],b=>jj
 |x::l,b=>by
  rw[zA,Kp l (b.push x)];simp[ByteArray.push]
theorem XW(j:C.Ok)(I:∃i,C.T.get t=dB i/\i.cX=.slice e)(E:∃i,C.T.get ts=dB i/\i.cX=.str)(F:∃i,C.T.get e=dB i/\i.cX=.int .u8){s:Sl}{l:bf}{p:aC}(w:Seq h p s 1 aF l){K:ByteArray->f9->Prop}(y:K ⟨l.toArray⟩ h):
  aB C.P (convert t ts (.slice s.ptr s.len s.cap)) (.one (.sc .str)) h K:=by
 obtain⟨M,z,A⟩:=E;obtain⟨N,D,B⟩:=I;obtain⟨i3,a3,G⟩:=F;have L:C.P.underlying ts=dB .string:=by have:=j.cX z;rw[A]at this;exact xY this
 have H:C.P.underlying t=dB (.slice e):=by have:=j.cX D;rw[B]at this;exact jQ this
 have u3:C.P.underlying e=dB (.int .u8):=by have:=j.cX a3;rw[G]at this;exact Jw this
 unfold aB convert;refine ag.bind (ag.always (aW H) ?_);refine ag.bind (ag.always (aW L) ?_);refine ag.bind (ag.always (aW u3) ?_);unfold Conv.bytesToString;have g:=gP (P:=C.P) (f:=aF) (k:=1) (K:=λcs h'=>cs=(l.flatMap aF).toArray/\h'=h) (λ_=>rfl) w ⟨i4,i4⟩;cases hp:s.ptr with
 |none=>
  have:l=[]:=by
   cases l with
   |nil=>rfl
   |cons x r=>obtain⟨b,o,u,_⟩:=w.elem 0 x jj;rw[hp]at u;cases u
  subst this;exact ag.pure' ⟨⟨#[]⟩,i4,y⟩
 |some a=>
  rw[hp]at g;dsimp only;have d:ag C.P (loadCells a s.len) h λcs h'=>cs=(l.flatMap aF).toArray/\h'=h:=by
   have:wH 1 s.len (.slice (dB a) s.len s.cap)=loadCells a s.len:=by unfold wH;simp
   rw[<-this];exact g
  refine ag.bind (d.mono ?_);rintro _ _ ⟨rfl,rfl⟩;have q:∀(l:bf) (b:ByteArray),aP C.P (forIn (m:=Sem) (l.flatMap aF) b λc r=>match c with
    |xq xy n=>do pure (ForInStep.yield (r.push (yK n.toNat)))
    |_=>do let r<-stuck "bytesToString: byte expected";pure r) (l.foldl ByteArray.push b):=λl=>by
   induction l with
   |nil=>intro b;exact .pure
   |cons x l ih=>
    intro b;have J:(x::l).flatMap aF=Value.int .u8 x.toNat::l.flatMap aF:=rfl;rw[J,List.forIn_cons];have e2:b.push (yK ((x.toNat:Int)).toNat)=b.push x:=by rw[ql];congr 1;apply wL.1;simp
    refine aP.bind (v:=ForInStep.yield (b.push x)) (by dsimp only;rw[e2];exact .pure) ?_;exact ih _
  refine ag.bind (ag.always (v:=l.foldl ByteArray.push ByteArray.empty) ?_ ?_)
  ·rw[List.forIn_toArray];exact q l _
  ·refine ag.pure' ⟨_,i4,?_⟩;rw[Kp];exact y
end
end Go.Vc
namespace Wl
section
variable {α:Type} (le:α->α->Bool)
def jg(a b:α):Bool:=le a b&&le b a
def cG(l l':List α):Prop:=∀x,l.filter (jg le x)=l'.filter (jg le x)
def Sd(l:List α):Prop:=l.Pairwise λa b=>le a b=eR
structure Ord:Prop where
 trans:∀a b c,le a b=eR->le b c=eR->le a c=eR
 total:∀a b,(le a b||le b a)=eR
variable {le}
theorem Ord.Hv(o:Ord le){a b:α}(h:¬le a b=eR):le b a=eR:=by
 have:=o.total a b;cases h1:le a b with
 |true=>exact absurd h1 h
 |false=>rw[h1]at this;simpa using this
theorem Ord.refl(o:Ord le)(a:α):le a a=eR:=by have:=o.total a a;simpa using this
theorem cG.refl(l:List α):cG le l l:=λ_=>rfl
theorem cG.trans{l1 l2 a:List α}(h:cG le l1 l2)(k:cG le l2 a):cG le l1 a:=λx=>(h x).trans (k x)
theorem cG.symm{l1 l2:List α}(h:cG le l1 l2):cG le l2 l1:=λx=>(h x).symm
theorem cG.app{a b c d:List α}(h:cG le a b)(k:cG le c d):cG le (a++c) (b++d):=λx=>by
 rw[zl,zl,h x,k x]
theorem cG.mem(o:Ord le){l l':List α}(h:cG le l l'){y:α}(b:y∈l'):y∈l:=by have a:y∈l'.filter (jg le y):=qJ.2 ⟨b,nb⟩;rw[<-h y]at a;exact(qJ.1 a).1
theorem cG.rot(o:Ord le){u v:List α}(h:∀x∈u,∀y∈v,¬le x y=eR):cG le (u++v) (v++u):=λz=>by
 rw[zl,zl];by_cases e:u.filter (jg le z)=[]
 ·rw[e];simp
 ·by_cases f:v.filter (jg le z)=[]
  ·rw[f];simp
  ·exfalso;obtain⟨x,i⟩:=List.exists_mem_of_ne_nil _ e;obtain⟨y,g⟩:=List.exists_mem_of_ne_nil _ f;obtain⟨d,a⟩:=qJ.1 i;obtain⟨c,b⟩:=qJ.1 g;unfold jg at a b;simp only[qB]at a b;exact h x d y c (o.trans _ _ _ a.2 b.1)
theorem cG.Tz(o:Ord le){l:List α}(h:cG le [] l):l=[]:=by
 cases l with
 |nil=>rfl
 |cons a l=>exact absurd (cG.mem o h (qO ..)) jj
theorem QA(o:Ord le):∀(l l':List α),Sd le l->Sd le l'->cG le l l'->l=l'
 |[],l',_,_,h=>(cG.Tz o h).symm
 |a::l,[],_,_,h=>absurd (cG.Tz o h.symm) jj
 |a::l,b::l',s,s',h=>by
  have c:a=b:=by
   have g:le a b=eR:=by
    have:=cG.mem o h (y:=b) (qO ..);rcases zb.1 this with e|e
    ·rw[e];exact o.refl _
    ·exact(zF.1 s).1 _ e
   have d:le b a=eR:=by
    have:=cG.mem o h.symm (y:=a) (qO ..);rcases zb.1 this with e|e
    ·rw[e];exact o.refl _
    ·exact(zF.1 s').1 _ e
   have h3:=h a;have f:jg le a a=eR:=nb
   have e2:jg le a b=eR:=by unfold jg;rw[g,d];rfl
   rw[vb f,vb e2]at h3;injection h3
  subst c;rw[QA o l l' (zF.1 s).2 (zF.1 s').2 λx=>by
   have h3:=h x;rw[zp,zp]at h3;split at h3
   ·injection h3
   ·exact h3]
theorem Hw(o:Ord le)(l:List α):Sd le (l.mergeSort le)/\cG le l (l.mergeSort le):=by
 refine⟨yC o.trans o.total l,λx=>?_⟩;have f:(l.filter (jg le x)).Pairwise λa b=>le a b=eR:=by rw[List.pairwise_filter];refine List.Pairwise.imp ?_ (List.pairwise_of_forall (l:=l) (R:=λ_ _=>True) λ_ _=>trivial);intro a b _ e d;unfold jg at e d;simp only[qB]at e d;exact o.trans _ _ _ e.2 d.1
 have g:=List.sublist_mergeSort o.trans o.total f List.filter_sublist;have c:=g.filter (jg le x);rw[List.filter_filter]at c;simp only[Bool.and_self]at c;exact c.eq_of_length ((wT l le).symm.filter _).length_eq
theorem agq(o:Ord le){l l':List α}(s:Sd le l')(h:cG le l l'):l'=l.mergeSort le:=by obtain⟨b,a⟩:=Hw o l;exact QA o _ _ s b (h.symm.trans a)
theorem Sd.app(o:Ord le){u v:List α}(a:Sd le u)(b:Sd le v)(h:∀x∈u,∀y∈v,le x y=eR):Sd le (u++v):=w9.2 ⟨a,b,h⟩
theorem Sd.left{u v:List α}(h:Sd le (u++v)):Sd le u:=(w9.1 h).1
theorem Sd.right{u v:List α}(h:Sd le (u++v)):Sd le v:=(w9.1 h).2.1
theorem Sd.JG{u v:List α}(h:Sd le (u++v)):∀x∈u,∀y∈v,le x y=eR:=(w9.1 h).2.2
theorem Sd.at_(o:Ord le){l:List α}(h:Sd le l){i j:Nat}(a:i<=j)(b:j<i1 l):le (l[i]'(by omega)) l[j]=eR:=by
 by_cases e:i=j
 ·subst e;exact o.refl _
 ·exact zw.1 h i j i5 b i5
theorem abs(o:Ord le){l1 l2 a b f g:List α}(l:Sd le (l1++l2))(p:Sd le (a++b))(h:∀x∈l1,∀y∈b,le x y=eR)(e:∀x∈l2,∀y∈a,¬le x y=eR)
  (j:cG le (l1++a) f) (k:Sd le f) (i:cG le (l2++b) g) (n:Sd le g):Sd le (f++g)/\cG le ((l1++l2)++(a++b)) (f++g):=by
 constructor
 ·refine Sd.app o k n λx d y c=>?_;rcases qz.1 (cG.mem o j d)with d|d<;>rcases qz.1 (cG.mem o i c)with c|c
  ·exact l.JG x d y c
  ·exact h x d y c
  ·exact o.Hv (e y c x d)
  ·exact p.JG x d y c
 ·have m:cG le ((l1++l2)++(a++b)) ((l1++a)++(l2++b)):=by rw[show(l1++l2)++(a++b)=l1++((l2++a)++b)by simp,show(l1++a)++(l2++b)=l1++((a++l2)++b)by simp];exact(cG.refl _).app ((cG.rot o e).app (cG.refl _))
  exact m.trans (j.app i)
end
section
variable {α:Type} {le:α->α->Bool}
theorem yx(o:Ord le):∀{l l':List α},cG le l l'->i1 l=i1 l'
 |[],l',h=>by rw[cG.Tz o h]
 |a::l,l',h=>by
  have q:=cG.mem o h.symm (y:=a) (qO ..);obtain⟨u,v,n⟩:=List.append_of_mem q;have s:∃(u:List α) (b:α) (v:List α),l'=u++b::v/\(∀x∈u,jg le a x=eS)/\jg le a b=eR:=by
   have k:l'.filter (jg le a)≠[]:=λA=>by
    have:a∈l'.filter (jg le a):=qJ.2 ⟨q,nb⟩;rw[A]at this;cases this
   clear n u v q h
   induction l' with
   |nil=>exact absurd i4 k
   |cons c l' ih=>
    by_cases p:jg le a c=eR
    ·exact⟨[],c,l',i4,jj,p⟩
    ·rw[List.filter_cons_of_neg p]at k;obtain⟨u,b,v,e,f,g⟩:=ih k;refine⟨c::u,b,v,o0,λx i=>?_,g⟩;rcases zb.1 i with rfl|i
     ·simpa using p
     ·exact f x i
  obtain⟨u,b,v,rfl,z,E⟩:=s;have F:jg le a a=eR:=nb
  have m:=h a;have t:u.filter (jg le a)=[]:=wO.2 λx i=>by rw[z x i];simp
  rw[vb F,zl,t,wy,vb E]at m;have w:a=b:=by injection m
  subst w;have D:cG le l (u++v):=λx=>by
   have i:=h x;rw[zp,zl,zp]at i;rw[zl];by_cases d:jg le x a=eR
   ·rw[g0 d,g0 d]at i;have r:u.filter (jg le x)=[]:=wO.2 λy B j=>by
     have:=z y B;unfold jg at this d j;simp only[qB]at d j;rw[o.trans _ _ _ d.2 j.1,o.trans _ _ _ j.2 d.1]at this;cases this
    rw[r,wy]at i⊢;injection i
   ·rw[g9 d,g9 d]at i;exact i
  rw[zn,yx o D];simp;omega
end
end Wl
namespace Go.Vc
open Go
theorem MG{P:Program}{id:FuncId}(E:∀(fY off cap:Nat) (i:aD) (w:World),Sort.Holds (Value.int .i64) w fY off i.toArray->i1 i<=9223372036854775807->i1 i<=cap->
   Calls P id #[.slice (dB ⟨fY,off,eH⟩) i.length cap] w λe o=>e=.returned (.slice (dB ⟨fY,off,eH⟩) (Lib.compact i).length cap)/\∃q,o=Sort.putRow (Value.int .i64) (Sort.ahead w q) fY off (Lib.compact i++qh (i1 i-i1 (Lib.compact i)) 0).toArray)
  (F:∀(a:aM) (cap:Nat) (w:World),Calls P id #[.slice a 0 cap] w λe o=>e=.returned (.slice a 0 cap)/\o=w)
  {e:TypeId} {s:Sl} {l:aD} {h:f9} (t:Own h e s 1 av l) (H:i1 l<2^40):
  ac P id #[.slice s.ptr s.len s.cap] h λv h'=>v=.slice s.ptr (Lib.compact l).length s.cap/\Own h' e ⟨s.ptr,i1 (Lib.compact l),s.cap⟩ 1 av (Lib.compact l)/\bc (λb=>¬s.on b) h h':=by
 intro w p;have d:=t.len;have y:=t.cap;rcases t.head with⟨h1,h2,h3⟩|⟨b,rest,h1,h2,h3,h4⟩
 ·subst h3;have z:Lib.compact ([]:aD)=[]:=rfl;rw[d,h1];refine(F eH s.cap w).mono ?_;rintro D o ⟨rfl,rfl⟩;refine⟨_,i4,dC.refl _,by rw[z];rfl,by rw[z];exact⟨i4,.inl ⟨i4,by simpa using h2,i4⟩⟩,by rw[<-p];exact bc.refl _ _⟩
 ·rw[h1,d];have x:w.heap[b]?=dB (.cells (l.flatMap av++rest).toArray e (0,0)):=by rw[p];exact h2
  refine(E b 0 s.cap l w (Qx x) i5 i5).mono ?_;rintro D o ⟨rfl,n,rfl⟩;have r:=lt_of_block x;have B:=Lib.compact_length_le l;obtain⟨l',g⟩:∃l',l'=Lib.compact l++qh (i1 l-i1 (Lib.compact l)) 0:=⟨_,rfl⟩
  rw[<-g];have m:i1 l'=i1 l:=by rw[g];simp;omega
  have c:∀k,k<h.size->(Sort.putRow (Value.int .i64) (Sort.ahead w n) b 0 l'.toArray).heap[k]?=if b=k then dB (.cells (l'.flatMap av++rest).toArray e (0,0))else h[k]?:=by
   intro k A;simp only[Sort.putRow,Sort.mapBlock,Sort.ahead,yl];by_cases f:b=k
   ·subst f;rw[g0 i4,g0 i4,x,q7,Sort.onCells,Tq _ _ _ m]
   ·rw[g9 f,g9 f,p]
  rw[p]at r;have u:Own (Sort.putRow (Value.int .i64) (Sort.ahead w n) b 0 l'.toArray).heap e s 1 av l':=⟨by rw[m];exact d,.inr ⟨b,rest,h1,by rw[c b r,g0 rfl],h3,h4⟩⟩
  have j:=u.cut (λ_=>rfl) (Lib.compact l).length i5;rw[g,vL]at j;refine⟨_,i4,⟨i4,i4,i4,by simp[Sort.putRow,Sort.mapBlock,Sort.ahead]⟩,i4,by rw[h1]at j;rw[g];exact j,by simp[Sort.putRow,Sort.mapBlock,Sort.ahead,p],?_⟩;intro k A G;rw[c k A,g9 λf=>G ⟨0,by rw[h1,f]⟩]
end Go.Vc
namespace Wl
open Go
theorem Ax(a:aD)(p:a.Pairwise (·<=·)):∀m,m<=i1 a->(Lib.compactUpTo a.toArray m).Pairwise (·<·)/\(∀x,x∈Lib.compactUpTo a.toArray m↔∃j,j<m/\a[j]?=dB x)
 |0,_=>⟨by simp[Lib.compactUpTo],λx=>by simp[Lib.compactUpTo]⟩
 |m+1,hm=>by
  obtain⟨v,r⟩:=Ax a p m i5;have b:m<i1 a:=i5
  have u:a.toArray[m]! =a[m]:=m0
  rw[Lib.compactUpTo_succ,u];have q:∀j (f:j<m),a[j]'(by omega)<=a[m]:=λj f=>zw.1 p j m i5 b f;by_cases i:Lib.keeps a.toArray m=eR
  ·rw[g0 i];have o:m=0∨a[m-1]'(by omega)<a[m]:=by
    by_cases k:m=0
    ·exact .inl k
    ·right;have g:a.toArray[m-1]! =a[m-1]'(by omega):=by simp[show m-1<i1 a by omega]
     have z:a[m]≠a[m-1]'(by omega):=λn=>by
      have:=Lib.keeps_neg (d:=a.toArray) (m:=m) i5 (by rw[u,g];exact n);rw[this]at i;cases i
     have:=q (m-1) i5;omega
   have l:∀x∈Lib.compactUpTo a.toArray m,x<a[m]:=λx s=>by
    obtain⟨j,f,h⟩:=(r x).1 s;rw[qd i5]at h;injection h with h
    rcases o with h0|h0
    ·omega
    ·have h3:a[j]'(by omega)<=a[m-1]'(by omega):=by
      by_cases c:j=m-1
      ·subst c;exact Int.le_refl _
      ·exact zw.1 p j (m-1) i5 i5 i5
     omega
   refine⟨w9.2 ⟨v,jj,λx s y w=>?_⟩,λx=>?_⟩
   ·rw[qC.1 w];exact l x s
   ·rw[qz,r,qC];constructor
    ·rintro(⟨j,f,e⟩|rfl)
     ·exact⟨j,i5,e⟩
     ·exact⟨m,i5,qd b⟩
    ·rintro⟨j,f,e⟩;by_cases c:j=m
     ·subst c;rw[qd b]at e;injection e with e;exact .inr e.symm
     ·exact .inl ⟨j,i5,e⟩
  ·rw[g9 i,qN];have k:m≠0:=λh0=>i (by subst h0;exact Lib.keeps_lt_one _ 0 i5);have t:a[m]=a[m-1]'(by omega):=by
    by_cases n:a[m]=a[m-1]'(by omega)
    ·exact n
    ·have g:a.toArray[m-1]! =a[m-1]'(by omega):=by simp[show m-1<i1 a by omega]
     exact absurd (Lib.keeps_pos (d:=a.toArray) (m:=m) (by rw[u,g];exact n)) i
   refine⟨v,λx=>?_⟩;rw[r];constructor
   ·rintro⟨j,f,e⟩;exact⟨j,i5,e⟩
   ·rintro⟨j,f,e⟩;by_cases c:j=m
    ·subst c;refine⟨j-1,i5,?_⟩;rw[qd b]at e;rw[qd i5,<-t];exact e
    ·exact⟨j,i5,e⟩
theorem Ay(l:aD):(ic l).Pairwise (·<=·):=by have:=yC (le:=λx y:Int=>decide (x<=y)) (by intro a b c e d;simp at e d⊢;omega) (by intro a b;simp;omega) l;exact this.imp λh=>j6
theorem Zb(l:aD)(h:∀x∈l,0<=x/\x<64):Lib.compact (ic l)=cM l:=by
 obtain⟨f,c⟩:=Ax (ic l) (Ay l) (ic l).length (qm _);have k:∀x,x∈Lib.compact (ic l)↔x∈l:=λx=>by
  unfold Lib.compact;rw[c,<-BP l x,List.mem_iff_getElem?];constructor
  ·rintro⟨j,_,e⟩;exact⟨j,e⟩
  ·rintro⟨j,e⟩;exact⟨j,(qn.1 e).1,e⟩
 have i:(cM l).Pairwise (·<·):=by unfold cM;refine List.Pairwise.filter _ ?_;rw[List.pairwise_map];exact List.pairwise_lt_range.imp λh=>i5
 have d:∀x,x∈cM l↔x∈l:=λx=>by
  unfold cM;rw[qJ,qu];constructor
  ·rintro⟨_,c⟩;simpa using c
  ·intro g;obtain⟨a,b⟩:=h x g;exact⟨⟨x.toNat,qG.2 i5,i5⟩,l0⟩
 have m:(Lib.compact (ic l)).Perm (cM l):=(List.perm_ext_iff_of_nodup (f.imp λh=>i5) (i.imp λh=>i5)).2 λx=>(k x).trans (d x).symm;exact m.eq_of_pairwise (le:=(·<·)) (λa b _ _ f c=>i5) f i
def cI(o b t:Int):Int:=(128*o+16*b+t)%4294967296
def fg(m:aG)(r:dj):Bool:=jz r&&(decide (r.p=m.p)&&m.aH.any λx=>decide (x.object=r.object)&&(decide (r.block<(x.tries.length:Int))&&decide (r.seed=cI r.object r.block (x.tries.getD r.block.toNat 0))))
def sA(a b:dj):Bool:=decide (a.object<b.object∨(a.object=b.object/\(a.block<b.block∨(a.block=b.block/\a.id<=b.id))))
def oW(a b:dj):Bool:=decide (a.object=b.object/\a.block=b.block/\a.id=b.id)
def MH:dj:=⟨0,0,0,(0,0,0),0,[]⟩
def ro(l:List dj)(k:Nat):Bool:=decide (k=0)||!oW (l.getD k MH) (l.getD (k-1) MH)
def sZ(l:List dj):List dj:=((qA l.length).filter (ro l)).map λi=>l.getD i MH
def kA(m:aG)(c:bf):Option dj:=match ey c with|some r=>if fg m r then dB r else eH|none=>eH
def fy(m:aG)(l:cJ):List dj:=sZ ((l.filterMap (kA m)).mergeSort sA)
theorem aiF:Ord sA:=⟨λa b c e d=>by
 unfold sA at*;rw[decide_eq_true_eq]at*;omega,λa b=>by
 unfold sA;rw[wu,decide_eq_true_eq,decide_eq_true_eq];omega⟩
theorem Zc(m:aG)(l:cJ)(i:Nat)(a:i<i1 l):(l.take (i+1)).filterMap (kA m)=(l.take i).filterMap (kA m)++(kA m l[i]).toList:=by
 have:l.take (i+1)=l.take i++[l[i]]:=by rw[List.take_add_one,qd a];rfl
 rw[this,List.filterMap_append];cases hg:kA m l[i]with
 |none=>simp[hg]
 |some r=>simp[hg]
end Wl
namespace Go.Vc
open Go
section
variable {B:aC} {α:Type} {C:Ctx} {h0 h:f9} {As:List HP} {e t k by_:Nat} {s:Sl} {f:α->bh} {l:List α} {z:bh}
theorem FQ(z:bh)(n:Nat):(yz z.toArray n).toList.length=n*i1 z:=by simp[yz]
theorem RN{z:bh}(d:∀v∈z,v.oneCell'=eR)(n:Nat):∀v∈(yz z.toArray n).toList,v.oneCell'=eR:=by
 intro v c;simp only[yz,vR,qu,Array.mem_toList_iff,Array.mem_range]at c;obtain⟨i,b,rfl⟩:=c;simp only[yf]at b⊢;have h0:0<i1 z:=by
  rcases Nat.eq_zero_or_pos z.length with h|h
  ·rw[h]at b;simp at b
  ·exact h
 have a:=vm i h0;rw[getElem!_pos z.toArray _ j7];exact d _ jj
theorem Own.pB(A:C.Ok)(n:Own h e s k f l)(y:bZ C.toDr t e k z by_)(o:∀x,i1 (f x)=k)(B:i1 z=k)(d:∀v∈z,v.oneCell'=eR)(j:Nat)(w:j<=i1 l){ty:Nat}{K:f9->Prop}
  (u:∀h',Own h' e ⟨s.ptr,j,s.cap⟩ k f (l.take j)->bc (λb=>¬s.on b) h h'->K h'):
  ag C.P (yw #[t] ty #[.slice (if s.cap=j then s.ptr else s.ptr.map (·.add (j*k))) (s.len-j) (s.cap-j)]) h λ_ h'=>K h':=by
 have U:=n.len;have c:=n.cut o j w;unfold yw;refine ag.bind (ag.always (aW (y.under A)) ?_);by_cases g:j=i1 l
 ·have F:s.len-j=0:=i5
  rw[F];generalize (if s.cap=j then s.ptr else s.ptr.map (·.add (j*k)))=q;cases q with
  |none=>exact ag.pure' (u h c (bc.refl _ _))
  |some a=>exact ag.pure' (u h c (bc.refl _ _))
 ·rcases n.head with⟨h1,h2,h3⟩|⟨b,rest,h1,h2,h3,h4⟩
  ·subst h3;simp at w g;omega
  ·have r:s.cap≠j:=i5
   rw[g9 r,h1];obtain⟨m,G⟩:∃m,s.len-j=m+1:=⟨s.len-j-1,i5⟩
   rw[G];obtain⟨Q,R,N,O,J,S,L,T⟩:=y.ex;obtain⟨I,E,D⟩:=tJ A.toOk J;refine ag.bind (ag.always E ?_);have i:I.cells=z.toArray:=by apply yE;rw[D,L]
   rw[i];refine ag.bind ?_;have M:((⟨b,0,eH⟩:f7).add (j*k))=⟨b,j*k,eH⟩:=by simp[add_eq]
   show ag C.P (storeCells ((⟨b,0,eH⟩:f7).add (j*k)) (yz z.toArray (m+1)).toList) h _;rw[M];have p:i1 (l.drop j)=m+1:=i9
   refine fC (e:=e) (pre:=(l.take j).flatMap f) (old:=(l.drop j).flatMap f) (post:=rest) ?_ ?_ ?_ (RN d _) ?_
   ·rw[<-zg,qE];exact h2
   ·rw[dK o,p,FQ,B]
   ·rw[dK o,qY,w4 i5];omega
   ·refine ag.pure' (u _ ⟨i9,.inr ⟨b,(yz z.toArray (m+1)).toList++rest,h1,?_,?_,i7⟩⟩ ?_)
    ·rw[iS h2,g0 rfl];simp
    ·rw[qx,FQ,B,h3,<-Nat.add_mul];dsimp only;congr 1;omega
    ·exact bc.ki h2 λH=>H ⟨0,h1⟩
theorem aa.pB(p:C.Ok)(H:aa B h0 h As)(i:Nat)(g:As[i]?=dB (an e s k f l))(o:bZ C.toDr t e k z by_)(r:∀x,i1 (f x)=k)(w:i1 z=k)(a:∀v∈z,v.oneCell'=eR)(j:Nat)(n:j<=i1 l){ty:Nat}{K:f9->Prop}
  (u:∀h',aa B h0 h' (As.set i (an e ⟨s.ptr,j,s.cap⟩ k f (l.take j)))->K h'):
  ag C.P (yw #[t] ty #[.slice (if s.cap=j then s.ptr else s.ptr.map (·.add (j*k))) (s.len-j) (s.cap-j)]) h λ_ h'=>K h':=
 (H.own i g).pB p o r w a j n λh' x y=>u h' (H.step i g λq m _=>⟨y.mono λb _ c d=>c (m.2 b d),x,λb c=>⟨x.lt c,.inl (m.2 b c)⟩⟩)
end
end Go.Vc
namespace Wl
open Go
theorem SI:∀x y:bf,(Op.bytesLess x y||x==y)=!Op.bytesLess y x
 |[],[]=>rfl
 |[],_::_=>rfl
 |_::_,[]=>by simp[Op.bytesLess]
 |a::x,b::y=>by
  have f:=SI x y;have e:a<b∨a=b∨b<a:=by
   rcases yg a.toNat b.toNat with h|h|h
   ·exact .inl (zY.2 h)
   ·exact .inr (.inl (wL.1 h))
   ·exact .inr (.inr (zY.2 h))
  rcases e with h|rfl|h
  ·have c:¬b<a:=λh'=>by have:=zY.1 h;have:=zY.1 h';omega
   have d:b≠a:=λh'=>by subst h';exact c h
   simp[Op.bytesLess,h,c,d]
  ·have c:¬a<a:=λh'=>by have:=zY.1 h';omega
   simp only[Op.bytesLess,c,decide_false,Bool.false_or,beq_self_eq_true,z8];rw[<-f];congr 1;simp
  ·have c:¬a<b:=λh'=>by have:=zY.1 h;have:=zY.1 h';omega
   have d:a≠b:=λh'=>by subst h';exact c h
   simp[Op.bytesLess,h,c,d]
theorem JH:∀x y z:bf,Op.bytesLess x y=eR->Op.bytesLess y z=eR->Op.bytesLess x z=eR
 |x,[],_,h1,_=>by cases x<;>simp[Op.bytesLess]at h1
 |_,b::y,[],_,h2=>by simp[Op.bytesLess]at h2
 |[],_::_,_::_,_,_=>rfl
 |a::x,b::y,c::z,h1,h2=>by
  simp only[Op.bytesLess,wu,decide_eq_true_eq,qB,beq_iff_eq]at h1 h2⊢;rcases h1 with h1|⟨rfl,h1⟩
  ·rcases h2 with h2|⟨rfl,h2⟩
   ·exact .inl (zY.2 (by have:=zY.1 h1;have:=zY.1 h2;omega))
   ·exact .inl h1
  ·rcases h2 with h2|⟨rfl,h2⟩
   ·exact .inl h2
   ·exact .inr ⟨i4,JH x y z h1 h2⟩
theorem abt(x:bf):Op.bytesLess x x=eS:=by
 have:=SI x x;cases h:Op.bytesLess x x with
 |false=>rfl
 |true=>rw[h]at this;simp at this
def kq(a b:ByteArray):Bool:=!fp b a
theorem MI(a b:ByteArray):kq a b=eR↔fp a b=eR∨a.toList=b.toList:=by unfold kq fp;rw[<-SI,wu,beq_iff_eq]
theorem Hx(a b c:ByteArray)(e:kq a b=eR)(d:kq b c=eR):kq a c=eR:=by
 rw[MI]at e d⊢;unfold fp at*;rcases e with e|e
 ·rcases d with d|d
  ·exact .inl (JH _ _ _ e d)
  ·rw[<-d];exact .inl e
 ·rw[e];exact d
theorem Hy(a b:ByteArray):(kq a b||kq b a)=eR:=by
 unfold kq;cases h:fp b a with
 |false=>rfl
 |true=>
  have:fp a b=eS:=by
   cases h2:fp a b with
   |false=>rfl
   |true=>
    have:=JH _ _ _ h h2;rw[abt]at this;cases this
  rw[this];rfl
def xG(a b:cw):Bool:=kq a.name b.name
def iM(m:aG)(x:cw):aG:={m with seq:=m.seq+1,next:=m.next+1,aH:=(m.aH++[x]).mergeSort xG}
open Classical
theorem mg(a:UInt8):a^^^a=0:=UInt8.xor_self
theorem ta(a b:UInt8):(a^^^b)^^^b=a:=by rw[UInt8.xor_assoc,mg,zW]
theorem cO{c:UInt8}{a t:Row}(h:i1 a=i1 t)(j:Nat):aS (cV c a t) j=aS t j^^^Gf.mul c (aS a j):=by
 simp only[aS,cV,qe,we];by_cases b:j<i1 a
 ·rw[qd b,qd i5];rfl
 ·rw[qS i5,qS i5];simp[Gf.mul_zero]
theorem BV(c:UInt8)(a:Row)(j:Nat):aS (scaleB c a) j=Gf.mul c (aS a j):=by
 simp only[aS,scaleB,qe,qU];cases a[j]? with
 |none=>simp[Gf.mul_zero]
 |some x=>rfl
def aO(n:Nat):Row:=qh n 0
theorem cB(n j:Nat):aS (aO n) j=0:=by simp only[aS,aO,qe,List.getElem?_replicate];split<;>rfl
theorem eJ{n:Nat}{a b:Row}(f:i1 a=n)(e:i1 b=n)(h:∀j,j<n->aS a j=aS b j):a=b:=by apply wP i5;intro j d c;have:=h j i5;simpa[aS,qe,qd d,qd c]using this
inductive Span (n:Nat) (m:aR):Row->Prop
 |zero:Span n m (aO n)
 |add (c:UInt8) (r v:Row):r∈m->Span n m v->Span n m (cV c r v)
section
variable {n:Nat} {m m':aR}
theorem Span.len(a:ba n m){v:Row}(h:Span n m v):i1 v=n:=by
 induction h with
 |zero=>simp[aO]
 |add c r v hr _ ih=>rw[ca (by rw[a r hr,ih])];exact ih
theorem Span.comb(a:ba n m){u v:Row}(e:Span n m u)(b:Span n m v)(c:UInt8):Span n m (cV c u v):=by
 induction e with
 |zero=>
  have:cV c (aO n) v=v:=eJ (n:=n) (by rw[ca (by simp[aO,b.len a])];exact b.len a) (b.len a) λj _=>by
   rw[cO (by simp[aO,b.len a]),cB,Gf.mul_zero,zW]
  rw[this];exact b
 |add d r w hr hw ih=>
  have l1:=b.len a;have l2:=hw.len a;have f:=a r hr;have:cV c (cV d r w) v=cV (Gf.mul c d) r (cV c w v):=eJ (n:=n) (by rw[ca k9];exact l1) (by rw[ca k9,ca];exact l1) λj _=>by
   rw[cO k9,cO i5,cO k9,cO i5,Gf.kH,Gf.mul_assoc]
   ac_rfl
  rw[this];exact .add _ _ _ hr ih
theorem Span.row(b:ba n m){r:Row}(a:r∈m):Span n m r:=by
 have:=Span.add 1 r _ a (.zero (n:=n) (m:=m));have e:cV 1 r (aO n)=r:=eJ (n:=n) (by rw[ca (by simp[aO,b r a])];simp[aO]) (b r a) λj _=>by
  rw[cO (by simp[aO,b r a]),cB,Gf.one_mul,wz]
 rwa [e]at this
theorem Span.sub(a:ba n m)(h:∀r∈m',Span n m r){v:Row}(b:Span n m' v):Span n m v:=by
 induction b with
 |zero=>exact .zero
 |add c r v hr _ ih=>exact(h r hr).comb a ih c
theorem Span.mono(h:∀r∈m',r∈m){v:Row}(a:Span n m' v):Span n m v:=by
 induction a with
 |zero=>exact .zero
 |add c r v hr _ ih=>exact .add c r v (h r hr) ih
theorem Span.lin(d:ba n m)(φ:Row->UInt8)(f:φ (aO n)=0)(g:∀c a t,i1 a=n->i1 t=n->φ (cV c a t)=φ t^^^Gf.mul c (φ a))(e:∀r∈m,φ r=0){v:Row}(b:Span n m v):φ v=0:=by
 induction b with
 |zero=>exact f
 |add c r v hr' b ih=>rw[g c r v (d r hr') (b.len d),ih,e r hr',Gf.mul_zero,zW]
end
def CI(S:Row->Prop)(j:Nat):Prop:=∃v,S v/\(∀i,i<j->aS v i=0)/\aS v j≠0
noncomputable def leads(S:Row->Prop)(n:Nat):Nat:=(qA n).countP λj=>decide (CI S j)
structure Way (n:Nat) (m:aR) (c top:Nat) (rows:aR):Prop where
 even:ba n rows
 len:i1 rows=i1 m
 tle:top<=i1 rows
 span:∀v,Span n rows v↔Span n m v
 cnt:top=leads (Span n m) c
 piv:∃p:Nat->Nat,(∀i,i<top->p i<c)/\(∀i,i<top->∀k,k<i1 rows->aS (aE rows k) (p i)=if k=i then 1 else 0)/\(∀i,i<top->∀j,j<p i->aS (aE rows i) j=0)/\(∀i j,i<j->j<top->p i<p j)
 low:∀k,top<=k->k<i1 rows->∀j,j<c->aS (aE rows k) j=0
theorem mem_row{m:aR}{i:Nat}(h:i<i1 m:=by omega):aE m i∈m:=by rw[bD h];exact qg h
theorem fj{m:aR}{r:Row}(h:r∈m):∃i,i<i1 m/\r=aE m i:=by obtain⟨i,a,rfl⟩:=qK h;exact⟨i,a,(bD a).symm⟩
theorem lS{m:aR}{i j:Nat}{r:Row}(a:i<i1 m:=by omega):aE (m.set i r) j=if i=j then r else aE m j:=by
 simp only[aE,qe,q8];by_cases h:i=j
 ·subst h;simp[a]
 ·simp[h]
theorem Az{m:aR}{i j k:Nat}(d:i<i1 m)(c:j<i1 m):aE (jG m i j) k=if k=j then aE m i else if k=i then aE m j else aE m k:=by
 rw[jG,lS m6,lS d];by_cases b:j=k
 ·rw[g0 b,g0 b.symm]
 ·rw[g9 b,g9 (show¬k=j fromλh=>b h.symm)];by_cases a:i=k
  ·rw[g0 a,g0 a.symm]
  ·rw[g9 a,g9 (show¬k=i fromλh=>a h.symm)]
theorem EG{m:aR}{t c k:Nat}(a:t<i1 m):aE (ky t c m) k=if t=k then scaleB (Gf.inv (aS (aE m t) c)) (aE m t)else aE m k:=by rw[ky,lS a]
section
variable {n:Nat} {m:aR}
theorem abu(l:ba n m){i j:Nat}(b:i<i1 m)(a:j<i1 m)(v:Row):Span n (jG m i j) v↔Span n m v:=by
 refine⟨Span.mono λr d=>?_,Span.mono λr d=>?_⟩
 ·obtain⟨k,c,rfl⟩:=fj d;rw[mf]at c;rw[Az b a];split
  ·exact mem_row b
  ·split
   ·exact mem_row a
   ·exact mem_row c
 ·obtain⟨k,c,rfl⟩:=fj d;have e:∀x,x<i1 m->aE (jG m i j) x∈jG m i j:=λx h=>mem_row (by rw[mf];exact h);by_cases f:k=i
  ·subst f;have:=e j a;rw[Az b a,g0 rfl]at this;exact this
  ·by_cases g:k=j
   ·subst g;have:=e i b;rw[Az b a]at this;by_cases h3:i=k
    ·exact absurd h3.symm f
    ·rw[g9 h3,g0 rfl]at this;exact this
   ·have:=e k c;rw[Az b a,g9 g,g9 f]at this;exact this
theorem abv(f:ba n m){t c:Nat}(d:t<i1 m)(i:aS (aE m t) c≠0)(v:Row):Span n (ky t c m) v↔Span n m v:=by
 have a:=BR f (c:=c) d;have h:=cA f d;have s:∀(x:UInt8) (r:Row),i1 r=n->scaleB x r=cV x r (aO n):=λx r b=>eJ (n:=n) (by rw[pz,b]) (by rw[ca (by simp[aO,b])];simp[aO]) λj _=>by
  rw[BV,cO (by simp[aO,b]),cB,wz]
 refine⟨Span.sub f λr b=>?_,Span.sub a λr b=>?_⟩
 ·obtain⟨k,g,rfl⟩:=fj b;rw[pk]at g;rw[EG d];split
  ·rw[s _ _ h];exact .add _ _ _ (mem_row d) .zero
  ·exact Span.row f (mem_row g)
 ·obtain⟨k,g,rfl⟩:=fj b;have e:∀x,x<i1 m->Span n (ky t c m) (aE (ky t c m) x):=λx p=>Span.row a (mem_row (by rw[pk];exact p));by_cases l:t=k
  ·subst l;have:=e t d;rw[EG d,g0 rfl]at this;have o:=this.comb a .zero (aS (aE m t) c);have q:cV (aS (aE m t) c) (scaleB (Gf.inv (aS (aE m t) c)) (aE m t)) (aO n)=aE m t:=eJ (n:=n) (by rw[ca (by simp[aO,pz,h])];simp[aO]) h λj _=>by
    rw[cO (by simp[aO,pz,h]),cB,wz,BV,<-Gf.mul_assoc,Gf.Pb i,Gf.one_mul]
   rw[q]at o;exact o
  ·have:=e k g;rw[EG d,g9 l]at this;exact this
theorem abw(d:ba n m){t c:Nat}(g:t<i1 m)(v:Row):Span n (fi t c m m.length) v↔Span n m v:=by
 have b:=BS d (c:=c) (k:=i1 m) g;have s:=cA d g;refine⟨Span.sub d λr h=>?_,Span.sub b λr h=>?_⟩
 ·obtain⟨k,a,rfl⟩:=fj h;rw[pm]at a;rw[sY a];split
  ·exact .add _ _ _ (mem_row g) (Span.row d (mem_row a))
  ·exact Span.row d (mem_row a)
 ·obtain⟨k,a,rfl⟩:=fj h;have e:∀x,x<i1 m->Span n (fi t c m m.length) (aE (fi t c m m.length) x):=λx p=>Span.row b (mem_row (by rw[pm];exact p));have i:=e t g;rw[sY g,g9 jj]at i;by_cases l:k=t
  ·subst l;exact i
  ·have o:=e k a;rw[sY a,g0 ⟨a,l⟩]at o;have h3:=i.comb b o (aS (aE m k) c);have f:=cA d a;have q:cV (aS (aE m k) c) (aE m t) (cV (aS (aE m k) c) (aE m t) (aE m k))=aE m k:=eJ (n:=n) (by rw[ca k9,ca];exact f) f λj _=>by
    rw[cO k9,cO i5,ta]
   rw[q]at h3;exact h3
def bU(f g:Nat->UInt8):Nat->UInt8
 |0=>0
 |k+1=>bU f g k^^^Gf.mul (f k) (g k)
theorem fU(f g:Nat->UInt8):∀k,(∀i,i<k->f i=0)->bU f g k=0
 |0,_=>rfl
 |k+1,h=>by rw[bU,fU f g k λi a=>h i i5,h k i5,Gf.zero_mul];rfl
theorem JI(f g:Nat->UInt8)(x:Nat):∀k,x<k->(∀i,i<k->f i=if x=i then 1 else 0)->bU f g k=g x
 |0,hx,_=>i5
 |k+1,hx,h=>by
  rw[bU];by_cases a:x=k
  ·subst a;rw[fU f g x λi b=>by rw[h i i5,g9 i5],h x i5,g0 i4,Gf.one_mul,wz]
  ·rw[JI f g x k i5 λi b=>h i i5,h k i5,g9 a,Gf.zero_mul,zW]
theorem JJ(b a g:Nat->UInt8)(c:UInt8):∀k,bU (λi=>b i^^^Gf.mul c (a i)) g k=bU b g k^^^Gf.mul c (bU a g k)
 |0=>by simp[bU,Gf.mul_zero]
 |k+1=>by
  rw[bU,bU,bU,JJ b a g c k,Gf.kH,Gf.XU,Gf.mul_assoc]
  ac_rfl
theorem MJ(S:Row->Prop)(c:Nat):leads S (c+1)=leads S c+if CI S c then 1 else 0:=by simp only[leads,zV,List.countP_append,List.countP_cons,List.countP_nil];by_cases h:CI S c<;>simp[h]
theorem abx(c:ba n m):Way n m 0 0 m:=⟨c,i4,i5,λ_=>Iff.rfl,by simp[leads],⟨λ_=>0,λi a=>i5,λi a=>i5,λi a=>i5,λi j _ b=>i5⟩,λk _ _ j b=>i5⟩
theorem aeA(hm:ba n m){c b:Nat}{rows:aR}(w:Way n m c b rows)(hc:c<n):Way n m (c+1) (jH (b,rows) c).1 (jH (b,rows) c).2:=by
 obtain⟨H,Y,am,S,L,⟨p,O,p2,p3,p4⟩,g⟩:=w;have hS:∀v,Span n rows v↔Span n m v:=S;have V:Span n rows=Span n m:=funext λv=>propext (hS v);unfold jH;dsimp only;cases hb:jq rows b c with
 |none=>
  have W:=Wh hb;dsimp only;have ao:¬CI (Span n m) c:=by
   rw[<-V];rintro⟨v,hv,hz,ah⟩;apply ah;have hφ:=Span.lin H (λv=>aS v c^^^bU (λi=>aS v (p i)) (λi=>aS (aE rows i) c) b) (by
     simp only[cB];rw[fU _ _ _ λi _=>rfl];rfl) (λx a t ha ht=>by
     simp only[cO (show a.length=i1 t by omega)];rw[JJ,Gf.kH];ac_rfl) (λr hr=>by
     obtain⟨k,G,rfl⟩:=fj hr;by_cases Q:k<b
     ·rw[JI _ _ k b Q λi E=>by rw[p2 i E k G]];exact mg _
     ·rw[W k i5 G,fU _ _ _ λi E=>by rw[p2 i E k G,g9 i5]];rfl) hv
   rw[fU _ _ _ λi E=>hz _ (O i E),zW]at hφ;exact hφ
  refine⟨H,Y,am,S,by rw[MJ,g9 ao,L];rfl,⟨p,λi E=>by have:=O i E;omega,p2,p3,p4⟩,λk B u j d=>?_⟩;rcases zo.1 d with h|rfl
  ·exact g k B u j h
  ·exact W k B u
 |some at_=>
  have hh:=tU hb;obtain⟨h1,T,h3⟩:=hh;dsimp only;have q:b<i1 rows:=i5
  obtain⟨f,y⟩:∃f,f=jG rows b at_:=⟨_,rfl⟩
  have l1:i1 f=i1 rows:=by rw[y,mf]
  have R:ba n f:=by rw[y];exact Hs H q T
  have q1:∀k,aE f k=if k=at_ then aE rows b else if k=b then aE rows at_ else aE rows k:=λk=>by rw[y,Az q T]
  have Z:aE f b=aE rows at_:=by
   rw[q1];by_cases h:b=at_
   ·rw[g0 h,h]
   ·rw[g9 h,g0 rfl]
  have I:aS (aE f b) c≠0:=by rw[Z];exact h3
  obtain⟨s,A⟩:∃s,s=ky b c f:=⟨_,rfl⟩
  have l2:i1 s=i1 rows:=by rw[A,pk,l1]
  have D:ba n s:=by rw[A];exact BR R i5
  have q2:∀k,aE s k=if b=k then scaleB (Gf.inv (aS (aE f b) c)) (aE f b)else aE f k:=λk=>by rw[A,EG i5]
  have ad:∀j,aS (aE f b) j=0->aS (aE s b) j=0:=λj d=>by rw[q2,g0 i4,BV,d,Gf.mul_zero]
  have l:aS (aE s b) c=1:=by rw[q2,g0 i4,BV,Gf.mul_comm,Gf.Pb I]
  obtain⟨M,o⟩:∃M,M=fi b c s rows.length:=⟨_,rfl⟩
  have l3:i1 M=i1 rows:=by rw[o,pm,l2]
  have q3:∀k,k<i1 rows->∀j,aS (aE M k) j=if k=b then aS (aE s b) j else aS (aE f k) j^^^Gf.mul (aS (aE f k) c) (aS (aE s b) j):=λk G j=>by
   rw[o,sY i5];by_cases h:k=b
   ·rw[g9 i5,g0 h,h]
   ·have e:=q2 k;rw[g9 λhh=>h hh.symm]at e;rw[g0 ⟨G,h⟩,g9 h,cO (by rw[cA D,cA D]),e]
  have X:∀j,j<c->aS (aE s b) j=0:=λj d=>ad j (by rw[Z];exact g at_ h1 T j d);have keep:∀k,k<i1 rows->∀j,j<c->aS (aE M k) j=if k=b then 0 else aS (aE f k) j:=λk G j d=>by
   rw[q3 k G,X j d,Gf.mul_zero,zW]
  have K:∀k,k<b->aE f k=aE rows k:=λk G=>by rw[q1,g9 i5,g9 i5]
  have J:∀k,b<=k->k<i1 rows->∀j,j<c->aS (aE f k) j=0:=λk B u j d=>by
   rw[q1];split
   ·exact g b (qm _) q j d
   ·split
    ·exact g at_ h1 T j d
    ·exact g k B u j d
  have z:∀v,Span n M v↔Span n m v:=λv=>by
   rw[o,show rows.length=i1 s by omega,abw D i5,A,abv R i5 I,y,abu H q T,hS]
  have N:CI (Span n m) c:=⟨aE M b,(z _).1 (Span.row (by rw[o];exact BS D i5) (mem_row)),λj d=>by rw[keep b q j d,g0 rfl],by rw[q3 b q,g0 i4,l];decide⟩
  have U:fi b c (ky b c (jG rows b at_)) rows.length=M:=by rw[o,A,y]
  rw[U];refine⟨by rw[o];exact BS D i5,i5,i5,z,by rw[MJ,g0 N,L],⟨λi=>if i<b then p i else c,λi E=>?_,λi E k G=>?_,λi E j d=>?_,λi j ab d=>?_⟩,λk B u j d=>?_⟩
  ·dsimp only;split
   ·have:=O i oi;omega
   ·omega
  ·dsimp only;by_cases hit:i<b
   ·rw[g0 hit,keep k i5 _ (O i hit)];by_cases Q:k<b
    ·rw[g9 i5,K k Q];exact p2 i hit k i5
    ·rw[g9 (show¬k=i by omega)];split
     ·rfl
     ·exact J k i5 i5 _ (O i hit)
   ·have P:i=b:=i5
    subst P;rw[g9 hit,q3 k i5];by_cases F:k=i
    ·rw[g0 F,g0 F];exact l
    ·rw[g9 F,g9 F,l,Gf.mul_one];exact mg _
  ·dsimp only at d;by_cases hit:i<b
   ·rw[g0 hit]at d;have:=O i hit;rw[keep i i5 j i5,g9 i5,K i hit];exact p3 i hit j d
   ·have P:i=b:=i5
    subst P;rw[g9 hit]at d;rw[keep i i5 j d,g0 rfl]
  ·dsimp only;rw[g0 (show i<b by omega)];split
   ·exact p4 i j ab oi
   ·exact O i i5
  ·rcases zo.1 d with h|rfl
   ·rw[keep k i5 j h,g9 i5];exact J k i5 i5 j h
   ·rw[q3 k i5,g9 i5,l,Gf.mul_one];exact mg _
theorem JK(a:ba n m):∀c,c<=n->Way n m c (bL m c).1 (bL m c).2
 |0,_=>abx a
 |c+1,h=>by rw[bL];exact aeA a (JK a c i5) i5
theorem kQ:∀c,bL [] c=(0,[])
 |0=>rfl
 |c+1=>by rw[bL,kQ c];rfl
theorem mz(a:ba n m):cb m=leads (Span n m) n:=by
 rw[<-(JK a n (qm _)).cnt,cb];cases m with
 |nil=>rw[kQ,kQ]
 |cons x t=>rw[eI,bD jj];rw[show((x::t)[0]).length=n from a _ jj]
end
section
variable {n:Nat} {m m':aR}
theorem Zd{S b:Row->Prop}(h:∀v,S v->b v)(n:Nat):leads S n<=leads b n:=by refine List.countP_mono_left λj _ a=>?_;simp only[decide_eq_true_eq]at a⊢;obtain⟨v,d,c⟩:=a;exact⟨v,h v d,c⟩
theorem lT(a:ba n m):cb m<=n:=by rw[mz a];have:=List.countP_le_length (p:=λj=>decide (CI (Span n m) j)) (l:=qA n);simpa[leads]using this
theorem Hz(b:ba n m)(a:ba n m')(h:∀r∈m,r∈m'):cb m<=cb m':=by rw[mz b,mz a];exact Zd (λv=>Span.mono h) n
theorem count_one{P Q:Nat->Bool}(l:List Nat)(d:l.Nodup)(i:∀a∈l,P a=eR->Q a=eR)(e:∀a∈l,∀b∈l,Q a=eR->P a=eS->Q b=eR->P b=eS->a=b):l.countP Q<=l.countP P+1:=by
 induction l with
 |nil=>simp
 |cons x t ih=>
  rw[List.nodup_cons]at d;have g:=ih d.2 (λa c=>i a o1) λa c b f=>e a o1 b n3;simp only[List.countP_cons];cases hQ:Q x with
  |false=>
   have:(if P x=eR then 1 else 0)>=0:=i5
   simp;omega
  |true=>
   cases hP:P x with
   |true=>simp;omega
   |false=>
    have:t.countP Q<=t.countP P:=by
     refine List.countP_mono_left λa c h=>?_;cases hpa:P a with
     |true=>rfl
     |false=>
      have:=e x jj a o1 hQ hP h hpa;subst this;exact absurd c d.1
    simp;omega
theorem QB(g:ba n m){r:Row}(e:i1 r=n){v:Row}(o:Span n (m++[r]) v):∃(c:UInt8) (u:Row),Span n m u/\v=cV c r u:=by
 have k:ba n (m++[r]):=λx b=>by
  rcases qz.1 b with h|h
  ·exact g x h
  ·rw[qC.1 h];exact e
 induction o with
 |zero=>exact⟨0,aO n,.zero,(eJ (n:=n) (by rw[ca (by simp[aO,e])];simp[aO]) k8 λj _=>by rw[cO (by simp[aO,e]),cB,Gf.zero_mul];rfl).symm⟩
 |add d x w b hw ih=>
  obtain⟨c,u,f,rfl⟩:=ih;have a:=f.len g;rcases qz.1 b with h|h
  ·have l:=g x h;refine⟨c,cV d x u,.add d x u h f,eJ (n:=n) (by rw[ca k9,ca];exact a) (by rw[ca k9,ca];exact a) λj _=>?_⟩;rw[cO k9,cO i5,cO k9,cO i5]
   ac_rfl
  ·have i:=qC.1 h;subst i;refine⟨c^^^d,u,f,eJ (n:=n) (by rw[ca k9,ca];exact a) (by rw[ca];exact a) λj _=>?_⟩;rw[cO k9,cO i5,cO i5,Gf.XU]
   ac_rfl
theorem nv(c:ba n m){r:Row}(b:i1 r=n):ba n (m++[r]):=λx a=>by
 rcases qz.1 a with h|h
 ·exact c x h
 ·rw[qC.1 h];exact b
theorem aby(e:ba n m){r:Row}(A:i1 r=n):cb m<=cb (m++[r])/\cb (m++[r])<=cb m+1:=by
 have o:=nv e A;refine⟨Hz e o λx B=>by simp[B],?_⟩;rw[mz e,mz o];refine count_one _ List.nodup_range (λa _ K=>?_) (λa _ b _ E l F k=>?_)
 ·simp only[decide_eq_true_eq]at K⊢;obtain⟨v,I,J⟩:=K;exact⟨v,Span.mono (λx B=>by simp[B]) I,J⟩
 ·simp only[decide_eq_true_eq,decide_eq_false_iff_not]at E l F k;have p:∀a b,CI (Span n (m++[r])) a->¬CI (Span n m) a->CI (Span n (m++[r])) b->¬CI (Span n m) b->¬a<b:=by
   rintro a b ⟨v,M,O,D⟩ l ⟨w,L,h,q⟩ k G;obtain⟨c,u,H,rfl⟩:=QB e A M;obtain⟨d,s,g,rfl⟩:=QB e A L;have l1:=H.len e;have l2:=g.len e;have N:d≠0:=by
    rintro rfl;apply k;refine⟨s,g,λi t=>?_,?_⟩
    ·have:=h i t;rw[cO i5,Gf.zero_mul,zW]at this;exact this
    ·rw[cO i5,Gf.zero_mul,zW]at q;exact q
   apply l;refine⟨cV (Gf.mul c (Gf.inv d)) s u,g.comb e H _,?_⟩;have f:∀j,aS (cV (Gf.mul c (Gf.inv d)) s u) j=aS (cV c r u) j^^^Gf.mul (Gf.mul c (Gf.inv d)) (aS (cV d r s) j):=λj=>by
    rw[cO i5,cO i5,cO i5,Gf.kH,<-Gf.mul_assoc (Gf.mul c (Gf.inv d)) d,Gf.mul_assoc c (Gf.inv d) d,Gf.mul_comm (Gf.inv d) d,Gf.Pb N,Gf.mul_one];have:∀x y z:UInt8,x^^^y=x^^^z^^^(y^^^z):=λx y z=>by
     have:x^^^z^^^(y^^^z)=x^^^y^^^(z^^^z):=by ac_rfl
     rw[this,mg,zW]
    exact this _ _ _
   refine⟨λi t=>?_,?_⟩
   ·rw[f,O i t,h i i5,Gf.mul_zero];rfl
   ·rw[f,h a G,Gf.mul_zero,zW];exact D
  have I:=p a b E l F k;have J:=p b a F k E l;omega
theorem rp(m:aR)(h:ba n m):cb m<=i1 m:=by
 have a:∀k,k<=i1 m->cb (m.take k)<=k:=by
  intro k
  induction k with
  |zero=>intro _;simp[cb,eI,aE,bL]
  |succ k ih=>
   intro e;have c:ba n (m.take k):=λx b=>h x (zD b);have f:=ih i5;rw[zJ i5];have d:=(aby c (h _ (qg (show k<i1 m by omega)))).2;omega
 have:=a m.length (qm _)
 rwa [qi (qm _)]at this
end
def oX(p:Int×Int×Int)(seed:Int)(a:aD):Nat:=cb (dR p seed a)
def gC(p:Int×Int×Int)(seed:Int)(a:aD):Bool:=bO p&&((oX p seed a:Int)==bJ p)
def fV(p:Int×Int×Int):aD:=upto (max 0 (min p.1 16)).toNat
theorem pq{p:Int×Int×Int}(h:bO p=eR):bJ p=p.1+p.2.1:=by rw[bJ,g0 h]
theorem jS(p:Int×Int×Int)(seed:Int)(b:aD):ba (bJ p).toNat (dR p seed b):=by
 intro r a;unfold dR at a;split at a
 ·rename_i c;have:=(co p).1 c;rcases qz.1 a with h|h
  ·obtain⟨x,_,rfl⟩:=qu.1 h;rw[Av,pq c];omega
  ·obtain⟨x,_,rfl⟩:=qu.1 h;exact Tu _ _ _
 ·cases a
theorem aeB(p:Int×Int×Int)(seed:Int)(a:aD):i1 (dR p seed a)<=4+i1 a:=by
 unfold dR;split
 ·rename_i b;have:=(co p).1 b;have c:=List.length_filter_le bX a;simp only[qx,bF,qy,zE];omega
 ·simp
theorem MK(K H:Nat):ba (K+H) (bF K H):=λr a=>by
 obtain⟨x,_,rfl⟩:=qu.1 a;exact Av _ _ _
theorem aeC(p:Int×Int×Int)(seed:Int)(a:aD):(oX p seed a:Int)<=bJ p:=by
 have h:=lT (jS p seed a);have:0<=bJ p:=by
  unfold bJ;split
  ·rename_i b;have:=(co p).1 b;omega
  ·omega
 rw[oX];omega
def fb(a b:aR):aR:=zi (·++·) a b
def lu(n:Nat)(m:aR):aR:=m.map (List.take n)
theorem Lm{r:Row}{n j:Nat}(h:j<n):aS (r.take n) j=aS r j:=by simp only[aS,qe,vf];rw[g0 h]
theorem TA(r:Row)(n j:Nat):aS (r.drop n) j=aS r (n+j):=by simp only[aS,qe,wJ]
theorem Aa(n:Nat)(m:aR)(i:Nat):aE (lu n m) i=(aE m i).take n:=by
 simp only[aE,lu,qe,qU];cases m[i]? with
 |none=>simp
 |some r=>rfl
theorem Pc(n:Nat)(m:aR):i1 (lu n m)=i1 m:=by simp[lu]
theorem Ze{n a bA:Nat}(m:aR)(h:bA<n):jq (lu n m) a bA=jq m a bA:=by unfold jq;rw[Pc];congr 1;funext i;rw[Aa,Lm h]
theorem Pd(n:Nat)(m:aR)(i:Nat)(r:Row):lu n (m.set i r)=(lu n m).set i (r.take n):=by simp[lu,List.map_set]
theorem aeD(n:Nat)(m:aR)(i j:Nat):lu n (jG m i j)=jG (lu n m) i j:=by rw[jG,Pd,Pd,jG,Aa,Aa]
theorem abz(n:Nat)(c:UInt8)(r:Row):(scaleB c r).take n=scaleB c (r.take n):=by simp[scaleB,List.map_take]
theorem ahr(n:Nat)(c:UInt8)(a t:Row):(cV c a t).take n=cV c (a.take n) (t.take n):=by simp[cV,List.take_zipWith]
theorem aeE{n bA:Nat}(h:bA<n)(t:Nat)(m:aR):lu n (ky t bA m)=ky t bA (lu n m):=by rw[ky,Pd,abz,ky,Aa,Lm h]
theorem aeF{n bA:Nat}(h:bA<n)(t k:Nat)(m:aR):lu n (fi t bA m k)=fi t bA (lu n m) k:=by
 apply zG;intro i;simp only[lu,fi,qU,vo];cases m[i]? with
 |none=>rfl
 |some r=>
  simp only[q7];congr 1;have:=Aa n m t;rw[lu]at this;rw[this,Lm h];split
  ·exact ahr _ _ _ _
  ·rfl
theorem aeG{n bA:Nat}(h:bA<n)(s:Nat×aR):((jH s bA).1,lu n (jH s bA).2)=jH (s.1,lu n s.2) bA:=by
 unfold jH;dsimp only;rw[Ze _ h];cases jq s.2 s.1 bA with
 |none=>rfl
 |some i=>dsimp only;rw[aeF h,aeE h,aeD,Pc]
theorem ML(n:Nat)(m:aR):∀c,c<=n->((bL m c).1,lu n (bL m c).2)=bL (lu n m) c
 |0,_=>rfl
 |c+1,h=>by
  have a:=ML n m c i5;rw[bL,bL,aeG (show c<n by omega),a]
theorem mV{a b:aR}(h:i1 a=i1 b):i1 (fb a b)=i1 a:=by simp[fb,h]
theorem JL{a b:aR}(h:i1 a=i1 b){i:Nat}(c:i<i1 a):aE (fb a b) i=aE a i++aE b i:=by rw[bD (by rw[mV h];exact c),bD c,bD i5];simp[fb]
theorem nw{n w:Nat}{a b:aR}(h:i1 a=i1 b)(f:ba n a)(e:ba w b):ba (n+w) (fb a b):=λr d=>by
 obtain⟨i,c,rfl⟩:=fj d;rw[mV h]at c;rw[JL h c,qx,cA f c,cA e]
theorem ahs{n:Nat}{a b:aR}(h:i1 a=i1 b)(d:ba n a):lu n (fb a b)=a:=by apply wP (by rw[Pc,mV h]);intro i e c;have:=Aa n (fb a b) i;rw[bD e,JL h c,List.take_left' (cA d c),bD c]at this;exact this
theorem aeH{n:Nat}{a:aR}(b:ba n a):(bL a n).1=cb a:=by
 rw[cb];cases a with
 |nil=>rw[kQ,kQ]
 |cons x t=>rw[eI,bD jj];rw[show((x::t)[0]).length=n from b _ jj]
theorem Ln{n:Nat}{a b:aR}(h:i1 a=i1 b)(c:ba n a):(bL (fb a b) n).1=cb a:=by have:=congrArg qI (ML n (fb a b) n (qm _));rw[ahs h c]at this;rw[<-aeH c];exact this
def td(w:Nat)(r:Row)(X:aR):Nat->Row
 |0=>aO w
 |k+1=>cV (aS r k) (aE X k) (td w r X k)
theorem iT{n w:Nat}{X:aR}(a:ba w X)(c:i1 X=n)(r:Row):∀k,k<=n->i1 (td w r X k)=w
 |0,_=>by simp[td,aO]
 |k+1,h=>by
  have b:=iT a c r k i5;rw[td,ca (by rw[cA a,b])];exact b
theorem ig{n w:Nat}{X:aR}(a:ba w X)(b:i1 X=n)(r:Row)(j:Nat):∀k,k<=n->aS (td w r X k) j=bU (λi=>aS r i) (λi=>aS (aE X i) j) k
 |0,_=>by rw[td,cB];rfl
 |k+1,h=>by
  have c:=ig a b r j k i5;rw[td,cO (by rw[cA a,iT a b r k i5]),c];rfl
def fJ(n w:Nat)(a b X:aR):Prop:=i1 X=n/\ba w X/\∀i,i<i1 a->td w (aE a i) X n=aE b i
theorem aeI{m a:aR}(d:i1 m=i1 a)(h:∀i,i<i1 m->aE m i=aE a i):m=a:=by
 apply wP d;intro i b c;have:=h i b
 rwa [bD b,bD c]at this
def AA(n:Nat)(X:aR)(k:Nat)(v:Row):UInt8:=aS v (n+k)^^^bU (λi=>aS v i) (λi=>aS (aE X i) k) n
theorem ga{f f' g g':Nat->UInt8}:∀k,(∀i,i<k->f i=f' i)->(∀i,i<k->g i=g' i)->bU f g k=bU f' g' k
 |0,_,_=>rfl
 |k+1,h1,h2=>by rw[bU,bU,ga k (λi a=>h1 i i5) λi a=>h2 i i5,h1 k i5,h2 k i5]
theorem XX(n:Nat)(X:aR)(k:Nat)(c:UInt8)(a t:Row)(h:i1 a=i1 t:=by omega):AA n X k (cV c a t)=AA n X k t^^^Gf.mul c (AA n X k a):=by unfold AA;rw[cO h];have:bU (λi=>aS (cV c a t) i) (λi=>aS (aE X i) k) n=bU (λi=>aS t i^^^Gf.mul c (aS a i)) (λi=>aS (aE X i) k) n:=ga n (λi _=>cO h i) λ_ _=>rfl;rw[this,JJ,Gf.kH];ac_rfl
theorem XY{a b:Row}{n:Nat}(c:i1 a=n)(k:Nat):aS (a++b) (n+k)=aS b k:=by simp only[aS,qe];rw[qj i5,c,zr]
theorem TB{a b:Row}{n j:Nat}(d:i1 a=n)(c:j<n):aS (a++b) j=aS a j:=by simp only[aS,qe];rw[qo i5]
theorem rq{a b:UInt8}:a^^^b=0↔a=b:=by
 constructor
 ·intro h;have:=congrArg (·^^^b) h;simp only[wz]at this
  rwa [ta]at this
 ·rintro rfl;exact mg _
theorem MM{n w:Nat}{a b X:aR}(h:i1 a=i1 b)(f:ba n a)(o:ba w b)(l:i1 X=n)(g:ba w X):fJ n w a b X↔∀k,k<w->∀v,Span (n+w) (fb a b) v->AA n X k v=0:=by
 have e:=nw h f o;constructor
 ·intro q k p v u;refine Span.lin e (AA n X k) ?_ (λc a t y z=>XX n X k c a t) (λr s=>?_) u
  ·unfold AA;rw[cB,fU _ _ n λi _=>cB _ _];rfl
  ·obtain⟨i,d,rfl⟩:=fj s;rw[mV h]at d;rw[JL h d];unfold AA;rw[XY (cA f d),<-q.2.2 i d,ig g l _ k n (qm _),rq];exact ga n (λj m=>(TB (cA f d) m).symm) λ_ _=>rfl
 ·intro x;refine⟨l,g,λi d=>eJ (n:=w) (iT g l _ n (qm _)) (cA o) λk p=>?_⟩;have:=x k p _ (Span.row e (mem_row (show i<i1 (fb a b) by rw[mV h];exact d)));rw[JL h d]at this;unfold AA at this;rw[XY (cA f d),rq]at this;rw[this,ig g l _ k n (qm _)];exact ga n (λj m=>(TB (cA f d) m).symm) λ_ _=>rfl
theorem aiG{n:Nat}{p:Nat->Nat}(d:∀i,i<n->p i<n)(b:∀i j,i<j->j<n->p i<p j):∀i,i<n->p i=i:=by
 have c:∀i,i<n->i<=p i:=by
  intro i
  induction i with
  |zero=>intro _;omega
  |succ i ih=>intro a;have:=ih i5;have:=b i (i+1) i5 a;omega
 have up:∀k i,i+k+1=n->p i<=i:=by
  intro k
  induction k with
  |zero=>intro i a;have:=d i i5;omega
  |succ k ih=>intro i a;have:=ih (i+1) i5;have:=b i (i+1) i5 i5;omega
 intro i a;have:=c i a;have:=up (n-1-i) i i5;omega
def go(n:Nat)(a b:aR):aR:=(((bL (fb a b) n).2).take n).map (List.drop n)
def lL(n:Nat)(a b:aR):Prop:=∀r∈((bL (fb a b) n).2).drop n,r=aO r.length
section
variable {n w:Nat} {a b:aR}
theorem Ab(h:i1 a=i1 b)(f:ba n a)(i:ba w b)(j:cb a=n):i1 (go n a b)=n/\ba w (go n a b):=by have c:=nw h f i;have e:=hY c n;have h3:=rp a f;refine⟨by rw[go,qy,qY,e.2,mV h];omega,λr d=>?_⟩;obtain⟨x,g,rfl⟩:=qu.1 d;rw[ze,e.1 x (zD g)];omega
theorem XZ(h:i1 a=i1 b)(e:ba n a)(d:cb a=n){i:Nat}(c:i<n):aE (go n a b) i=(aE (bL (fb a b) n).2 i).drop n:=by
 simp only[aE,go,qe,qU,vf];rw[g0 c]
 cases(bL (fb a b) n).2[i]? with
 |none=>simp
 |some r=>rfl
theorem TC(h:i1 a=i1 b)(j:ba n a)(q:ba w b)(m:cb a=n):
  (∀v,Span (n+w) (bL (fb a b) n).2 v↔Span (n+w) (fb a b) v)/\(bL (fb a b) n).2.length=i1 a/\(∀i,i<n->∀k,k<i1 a->aS (aE (bL (fb a b) n).2 k) i=if k=i then 1 else 0):=by
 have c:=nw h j q;have W:=JK c n i5;have o:(bL (fb a b) n).1=n:=by rw[Ln h j,m]
 obtain⟨p,g,f,l,e⟩:=W.piv;rw[o]at g f l e;have hid:=aiG g e;have r:(bL (fb a b) n).2.length=i1 a:=by rw[W.len,mV h]
 refine⟨W.span,r,λi d k s=>?_⟩;have:=f i d k i5
 rwa [hid i d]at this
theorem TD{X:aR}{r:Row}{i k:Nat}(c:i<n)(b:∀j,j<n->aS r j=if i=j then 1 else 0):AA n X k r=aS r (n+k)^^^aS (aE X i) k:=by unfold AA;rw[JI _ _ i n c λj a=>b j a]
theorem Ya{X:aR}{r:Row}{k:Nat}(a:∀j,j<n->aS r j=0):AA n X k r=aS r (n+k):=by unfold AA;rw[fU _ _ n a,zW]
theorem mA(h:i1 a=i1 b)(l:ba n a)(p:ba w b)(u:cb a=n){X:aR}(g:fJ n w a b X):X=go n a b/\lL n a b:=by
 have t:=nw h l p;have v:=hY t n;obtain⟨m,D,x⟩:=TC h l p u;have A:=rp a l;have y:=(MM h l p g.1 g.2.1).1 g;obtain⟨z,s2⟩:=Ab h l p u;constructor
 ·refine aeI (by rw[g.1,z]) λi c=>eJ (n:=w) (cA g.2.1 c) (cA s2 (by rw[z];rw[g.1]at c;exact c)) λk B=>?_;rw[g.1]at c;have h3:=y k B _ ((m _).1 (Span.row v.1 (mem_row (show i<(bL (fb a b) n).2.length by omega))));rw[TD c λj o=>x j o i i5]at h3;rw[XZ h l u c,TA];exact(rq.1 h3).symm
 ·intro r s;obtain⟨i,c,rfl⟩:=qK s;rw[ze]at c;rw[wi];have f:n+i<(bL (fb a b) n).2.length:=i5
  have e:=bD f;have d:=cA v.1 f;rw[<-e,d];refine eJ (n:=n+w) d k8 λj o=>?_;rw[cB];by_cases q:j<n
  ·rw[x j q (n+i) i5,g9 i5]
  ·obtain⟨k,rfl⟩:∃k,j=n+k:=⟨j-n,i5⟩
   have h3:=y k i5 _ ((m _).1 (Span.row v.1 (mem_row f)))
   rwa [Ya λj o=>by rw[x j o (n+i) i5,g9 i5]]at h3
theorem ru(h:i1 a=i1 b)(e:ba n a)(g:ba w b)(q:cb a=n)(A:lL n a b):fJ n w a b (go n a b):=by
 have p:=nw h e g;have s:=hY p n;obtain⟨m,G,u⟩:=TC h e g q;have B:=rp a e;obtain⟨y,s2⟩:=Ab h e g q;refine(MM h e g y s2).2 λk F v D=>?_;refine Span.lin s.1 (AA n (go n a b) k) ?_ (λc x t E s=>XX n _ k c x t) (λr o=>?_) ((m v).2 D)
 ·unfold AA;rw[cB,fU _ _ n λi _=>cB _ _];rfl
 ·obtain⟨i,z,rfl⟩:=fj o;by_cases f:i<n
  ·rw[TD f λj l=>u j l i i5,XZ h e q f,TA];exact mg _
  ·rw[Ya λj l=>by rw[u j l i i5,g9 i5]];have:aE (bL (fb a b) n).2 i∈(bL (fb a b) n).2.drop n:=by
    rw[bD z];obtain⟨d,rfl⟩:∃d,i=n+d:=⟨i-n,i5⟩
    rw[<-wi (h:=by rw[ze];omega)];exact qg _
   rw[A _ this,cB]
theorem Wj(h:i1 a=i1 b)(g:ba n a)(f:ba w b)(i:i1 a=n):lL n a b:=by have c:=nw h g f;have e:=hY c n;intro r d;rw[zf (by rw[e.2,mV h];omega)]at d;cases d
end
def TE(l:aD):Prop:=∀a b,a<i1 l->b<i1 l->lQ l a=lQ l b->a=b
theorem JM{l:aD}{i:Nat}(h:i<i1 l):lQ l i=l[i]:=by rw[lQ,qe,qd h];rfl
theorem aeJ{l:aD}{i j k:Nat}(d:i<i1 l)(c:j<i1 l):lQ (tR l i j) k=if k=j then lQ l i else if k=i then lQ l j else lQ l k:=by
 simp only[lQ,tR,qe,q8,zh];by_cases a:j=k
 ·subst a;simp[c]
 ·by_cases b:i=k
  ·subst b;simp[a,d];omega
  ·simp[a,b];omega
theorem swap_inj{l:aD}{i j:Nat}(m:i<i1 l)(g:j<i1 l)(h:TE l):TE (tR l i j):=by
 intro a b p o n;rw[Ts]at p o;have d:∀k,k<i1 l->∃σ,σ<i1 l/\lQ (tR l i j) k=lQ l σ/\(σ=if k=j then i else if k=i then j else k):=λk v=>by
  rw[aeJ m g];by_cases e:k=j
  ·rw[g0 e,g0 e];exact⟨i,m,i4,i4⟩
  ·rw[g9 e,g9 e];by_cases f:k=i
   ·rw[g0 f,g0 f];exact⟨j,g,i4,i4⟩
   ·rw[g9 f,g9 f];exact⟨k,v,i4,i4⟩
 obtain⟨s,q,w,u⟩:=d a p;obtain⟨t,r,e2,c⟩:=d b o;rw[w,e2]at n;have:=h s t q r n;subst this;rw[u]at c;split at c<;>split at c<;>(try split at c)<;>(try split at c)<;>omega
theorem abA{l:aD}(h:TE l):l.Nodup:=by rw[List.nodup_iff_pairwise_ne,zw];intro i j b a c d;have:=h i j b a (by rw[JM b,JM a];exact d);omega
theorem aeK(n:Nat):TE (upto n):=by intro a b d c e;rw[ib]at d c;rw[JM (by rw[ib];exact d),JM (by rw[ib];exact c)]at e;simp[upto]at e;omega
theorem TF(n:Nat)(s:Int):∀k,k<=n->n<=64->TE (gK n s (upto n) k).2
 |0,_,_=>aeK n
 |k+1,hk,hn=>by
  have a:=Ar n s (upto n) k;rw[ib]at a;have:=Aq (gK n s (upto n) k).1 ((n-k:Nat):Int);exact swap_inj i5 i5 (TF n s k i5 hn)
theorem Zf(s:Int)(n k:Nat)(b:k<=n)(a:n<=64):(JC s n k).Nodup:=by have h:=(abA (TF n s k b a)).sublist (List.take_sublist k _);exact(wT _ _).nodup_iff.2 h
theorem EH{n:Nat}(b:1<=n)(a:n<=20)(seed id:Int):(dv n seed id).Nodup:=Zf _ _ _ (Au _ n b a) i5
theorem Wk(n:Nat)(seed id:Int):(dv n seed id).Pairwise (·<=·):=by have:=yC (le:=λx y:Int=>decide (x<=y)) (by intro a b c;simp;omega) (by intro a b;simp;omega) ((gK n (FP (FP (Hr seed id))) (upto n) (JF (FP (Hr seed id)) n)).2.take (JF (FP (Hr seed id)) n));exact this.imp jj
theorem Pe{r:Row}{i j:Nat}{x:UInt8}(a:i<i1 r):aS (r.set i x) j=if j=i then x else aS r j:=by
 simp only[aS,qe,q8];by_cases h:i=j
 ·subst h;simp[a]
 ·simp[h];intro e;exact absurd e.symm h
theorem QC(n:Nat)(l:aD)(c:Int):gu n (l++[c])=(gu n l).set c.toNat 1:=by rw[gu,zN];rfl
theorem EI{n:Nat}:∀(l:aD) (_:∀x∈l,0<=x/\x<(n:Int)) (j:Nat),aS (gu n l) j=if(j:Int)∈l then 1 else 0:=by
 intro l;have d:∀k,k<=i1 l->(∀x∈l,0<=x/\x<(n:Int))->∀j:Nat,aS (gu n (l.take k)) j=if(j:Int)∈l.take k then 1 else 0:=by
  intro k
  induction k with
  |zero=>intro _ _ j;simp[gu];exact cB n j
  |succ k ih=>
   intro g b j;have f:=b _ (qg (show k<i1 l by omega));rw[zJ i5,QC,Pe (by rw[sX];omega),ih i5 b];have a:(j:Int)∈l.take k++[l[k]]↔(j:Int)∈l.take k∨(j:Int)=l[k]:=by rw[qz,qC]
   by_cases h:j=l[k].toNat
   ·rw[g0 h,g0 (a.2 (.inr i5))]
   ·rw[g9 h];by_cases c:(j:Int)∈l.take k
    ·rw[g0 c,g0 (a.2 (.inl c))]
    ·rw[g9 c,g9 λe=>(a.1 e).elim c λh3=>h i5]
 intro b j;have:=d l.length (qm _) b j
 rwa [qi (qm _)]at this
theorem Lo{f f' g:Nat->UInt8}{c:Nat}(b:f c=0)(d:∀i,f' i=if i=c then 1 else f i):∀k,bU f' g k=bU f g k^^^if c<k then g c else 0
 |0=>by simp[bU]
 |k+1=>by
  rw[bU,bU,Lo b d k,d k];by_cases a:k=c
  ·subst a;rw[g0 i4,g9 i5,g0 i5,Gf.one_mul,b,Gf.zero_mul]
  ·rw[g9 a];by_cases h:c<k
   ·rw[g0 h,g0 i5];ac_rfl
   ·rw[g9 h,g9 i5];simp
def fW(w:Nat)(X:aR)(l:aD):Row:=l.foldl (λs c=>cV 1 (aE X c.toNat) s) (aO w)
theorem EJ(w:Nat)(X:aR)(l:aD)(c:Int):fW w X (l++[c])=cV 1 (aE X c.toNat) (fW w X l):=by rw[fW,zN];rfl
theorem rv{n w:Nat}{X:aR}(b:ba w X)(e:i1 X=n){l:aD}(a:∀x∈l,0<=x/\x<(n:Int)):∀k,k<=i1 l->i1 (fW w X (l.take k))=w:=by
 intro k
 induction k with
 |zero=>intro _;simp[fW,aO]
 |succ k ih=>
  intro d;have c:=a _ (qg (show k<i1 l by omega));rw[zJ i5,EJ,ca (by rw[cA b,ih i5])];exact ih i5
theorem Yb{n w:Nat}{X:aR}(b:ba w X)(c:i1 X=n){l:aD}(a:∀x∈l,0<=x/\x<(n:Int)):i1 (fW w X l)=w:=by
 have:=rv b c a l.length (qm _)
 rwa [qi (qm _)]at this
theorem aht{n w:Nat}{X:aR}(a:ba w X)(b:i1 X=n){l:aD}(d:∀x∈l,0<=x/\x<(n:Int))(q:l.Nodup):fW w X l=td w (gu n l) X n:=by
 have m:∀k,k<=i1 l->fW w X (l.take k)=td w (gu n (l.take k)) X n:=by
  intro k
  induction k with
  |zero=>
   intro _;refine eJ (n:=w) (by simp[fW,aO]) (iT a b _ n (qm _)) λj _=>?_;rw[ig a b _ j n (qm _),fU _ _ n λi _=>by simp only[vK,gu,wx];exact cB n i];simp only[vK,fW,wx];exact cB w j
  |succ k ih=>
   intro r;have p:=d _ (qg (show k<i1 l by omega));have o:=rv a b d k i5;rw[zJ i5,EJ,QC,ih i5];refine eJ (n:=w) ?_ (iT a b _ n (qm _)) λj _=>?_
   ·rw[ca (by rw[cA a,iT a b _ n (qm _)])];exact iT a b _ n (qm _)
   ·rw[cO (by rw[cA a,iT a b _ n (qm _)]),ig a b _ j n (qm _),ig a b _ j n (qm _)];have g:l[k]∉l.take k:=λh=>by
     have e:l=l.take k++l[k]::l.drop (k+1):=by rw[<-qP i5,qE]
     rw[e,List.nodup_append]at q;exact q.2.2 _ h _ qO i4
    have h0:aS (gu n (l.take k)) l[k].toNat=0:=by
     rw[EI _ λx p=>d x (zD p),g9];intro h;apply g;have:((l[k].toNat:Nat):Int)=l[k]:=i5
     rwa [this]at h
    rw[Lo (f:=λi=>aS (gu n (l.take k)) i) (c:=l[k].toNat) h0 (λi=>Pe (by rw[sX];omega)) n,g0 i5,Gf.one_mul]
 have:=m l.length (qm _)
 rwa [qi (qm _)]at this
open Go Go.Vc
def iQ(K H w:Nat)(d:Row):aR:=qh H (aO w)++(qA K).map (Hk d w)
def dq(p:Int×Int×Int)(seed:Int)(d:Row):aR:=go (bJ p).toNat (dR p seed (fV p)) (iQ p.1.toNat p.2.1.toNat p.2.2.toNat d)
structure cu (p:Int×Int×Int) (seed:Int) (d:Row) (K H w n:Nat):Prop where
 may:bO p=eR
 full:gC p seed (fV p)=eR
 k:p.1=K
 h:p.2.1=H
 s:p.2.2=w
 n:n=K+H
 k1:1<=K
 k2:K<=16
 h1:1<=H
 h2:H<=4
 w1:1<=w
 w2:w<=24
 len:i1 d=K*w
theorem Zg{p:Int×Int×Int}{seed:Int}{d:Row}(a:bO p=eR)(c:gC p seed (fV p)=eR)(b:(i1 d:Int)=p.1*p.2.2):∃K H w n,cu p seed d K H w n:=by
 have:=(co p).1 a;refine⟨p.1.toNat,p.2.1.toNat,p.2.2.toNat,p.1.toNat+p.2.1.toNat,a,c,i5,i5,i5,i4,i5,i5,i5,i5,i5,i5,?_⟩;have e:p.1=(p.1.toNat:Int):=i5
 have e2:p.2.2=(p.2.2.toNat:Int):=i5
 rw[e,e2,<-Int.natCast_mul]at b;exact Int.ofNat.inj b
section
variable {p:Int×Int×Int} {seed:Int} {d:Row} {K H w n:Nat}
theorem cu.cW(B:cu p seed d K H w n):bJ p=n:=by rw[pq B.may,B.k,B.h,B.n];rfl
theorem cu.rx(B:cu p seed d K H w n):(bJ p).toNat=n:=by rw[B.cW];rfl
theorem Zh(a:p.1=(K:Int))(h:K<=16):fV p=upto K:=by rw[fV];congr 1;omega
theorem Wm(h:K<=16):(upto K).filter bX=upto K:=by rw[List.filter_eq_self];intro x b;simp[upto]at b;obtain⟨a,c,rfl⟩:=b;simp[bX];omega
theorem cu.Tl(B:cu p seed d K H w n):dR p seed (fV p)=bF K H++(qA K).map λi:Nat=>pi n seed (i:Int):=by rw[dR,g0 B.may,Zh B.k B.k2,Wm B.k2,B.k,B.h,B.rx,ql,ql,upto,List.map_map];rfl
theorem cu.HB(B:cu p seed d K H w n):i1 (dR p seed (fV p))=n:=by rw[B.Tl,qx,qy,zE,bF,qy,zE,B.n];omega
theorem cu.JN(B:cu p seed d K H w n):ba n (dR p seed (fV p)):=by
 have:=jS p seed (fV p)
 rwa [B.rx]at this
theorem cu.Pf(B:cu p seed d K H w n):cb (dR p seed (fV p))=n:=by have h:=B.full;rw[gC,B.may,B.cW,oX]at h;simp at h;exact Int.ofNat.inj h
theorem HC(K H w:Nat)(d:Row):i1 (iQ K H w d)=K+H:=by simp[iQ];omega
theorem xH(c:i1 d=K*w):ba w (iQ K H w d):=λr b=>by
 rcases qz.1 b with h|h
 ·rw[(List.mem_replicate.1 h).2];simp[aO]
 ·obtain⟨i,a,rfl⟩:=qu.1 h;rw[qG]at a;exact ahl (by rw[c];exact zK w a)
theorem abB{i:Nat}(a:i<H):aE (iQ K H w d) i=aO w:=by rw[aE,iQ,qe,qo j7];simp[a]
theorem Zi{i:Nat}(a:i<K):aE (iQ K H w d) (H+i)=Hk d w i:=by rw[aE,iQ,qe,qj jj];simp[a]
theorem cu.FR(B:cu p seed d K H w n):dq p seed d=go n (dR p seed (fV p)) (iQ K H w d):=by rw[dq,B.rx,B.k,B.h,B.s];rfl
theorem cu.lens(B:cu p seed d K H w n):i1 (dR p seed (fV p))=i1 (iQ K H w d):=by rw[B.HB,HC,B.n]
theorem cu.oE(B:cu p seed d K H w n):i1 (dq p seed d)=n/\ba w (dq p seed d):=by rw[B.FR];exact Ab B.lens B.JN (xH B.len) B.Pf
theorem cu.fJ(B:cu p seed d K H w n):fJ n w (dR p seed (fV p)) (iQ K H w d) (dq p seed d):=by rw[B.FR];exact ru B.lens B.JN (xH B.len) B.Pf (Wj B.lens B.JN (xH B.len) B.HB)
theorem cu.aiH(B:cu p seed d K H w n){i:Nat}(a:i<H):aE (dR p seed (fV p)) i=my K H i:=by rw[B.Tl,aE,qe,qo (by simpa[bF]using a)];simp[bF,a]
theorem cu.ahu(B:cu p seed d K H w n){i:Nat}(a:i<K):aE (dR p seed (fV p)) (H+i)=pi n seed (i:Int):=by rw[B.Tl,aE,qe,qj (by simp[bF])];simp[bF,a]
theorem cu.low(B:cu p seed d K H w n){i:Nat}(a:i<H):td w (my K H i) (dq p seed d) n=aO w:=by
 have:=B.fJ.2.2 i (by rw[B.HB,B.n];omega)
 rwa [B.aiH a,abB a]at this
theorem cu.high(B:cu p seed d K H w n){i:Nat}(a:i<K):td w (pi n seed (i:Int)) (dq p seed d) n=Hk d w i:=by
 have:=B.fJ.2.2 (H+i) (by rw[B.HB,B.n];omega)
 rwa [B.ahu a,Zi a]at this
theorem cu.n1(B:cu p seed d K H w n):1<=n:=by have:=B.n;have:=B.k1;omega
theorem cu.n2(B:cu p seed d K H w n):n<=20:=by have:=B.n;have:=B.k2;have:=B.h2;omega
theorem cu.sym(B:cu p seed d K H w n)(id:Int):fW w (dq p seed d) (dv n seed id)=td w (pi n seed id) (dq p seed d) n:=
 aht B.oE.2 B.oE.1 (λ_ a=>nt B.n1 B.n2 a) (EH B.n1 B.n2 seed id)
theorem cu.aeL(B:cu p seed d K H w n){i:Nat}(a:i<K):fW w (dq p seed d) (dv n seed (i:Int))=Hk d w i:=by rw[B.sym,B.high a]
theorem cu.abC(B:cu p seed d K H w n)(id:Int):i1 (fW w (dq p seed d) (dv n seed id))=w:=
 Yb B.oE.2 B.oE.1 λ_ a=>nt B.n1 B.n2 a
end
end Wl
namespace Go.Vc
open Go
theorem Wo{α:Type}{c k:Nat}{f:α->bh}:∀{rs:List Sl} {ll:List (List α)} (b:List Sl) (a:List (List α)),i1 rs=i1 ll->bE c k f (rs++b) (ll++a)=bE c k f rs ll++bE c k f b a:=by intro rs ll b a h;unfold bE;exact yG h
theorem aa.aeM{B:aC}{a h:f9}{X:HP}:∀{L M:List HP},aa B a h (L++X::M)->aa B a h (L++M):=λ{L M} H=>by
 have:=H.del L.length
 rwa [List.eraseIdx_append_of_length_le (qm _),zc,List.eraseIdx_cons_zero]at this
section
variable {α:Type} {C:Ctx} {B:aC} {h0 h h':f9} {As:List HP} {e e2 k t t2 by_:Nat} {s s2:Sl} {f:α->bh} {ll l2:List (List α)}
theorem aa.ahv(w:C.Ok)(H:aa B h0 h (dJ e s e2 k f ll::dJ e s2 e2 k f l2::As))(v:bZ C.toDr t e 1 [.slice eH 0 0] 24)(A:∃i e2,C.T.get t2=dB i/\i.cX=.slice e2)(E:i1 ll+i1 l2<=2^32){ty:Nat}{K:Sl->f9->Prop}
  (F:∀d h',aa B h0 h' (dJ e d e2 k f (ll++l2)::As)->K d h'):
  aB C.P (qt #[t,t2] ty #[.slice s.ptr s.len s.cap,.slice s2.ptr s2.len s2.cap]) (.one (.sc .slc)) h K:=by
 obtain⟨rs,r,p⟩:=H.Ez;obtain⟨c,g⟩:∃c,c=bE e2 k f rs ll:=⟨_,rfl⟩
 rw[<-g]at p;have x:aa B h0 h (dJ e s2 e2 k f l2::(As++(an e s 1 bv rs::c))):=p.front;obtain⟨a,m,q⟩:=x.Ez;obtain⟨L2,j⟩:∃L2,L2=bE e2 k f a l2:=⟨_,rfl⟩
 rw[<-j]at q;have o:=q.front;rw[qp]at o;have z:=o.front;have n:aa B h0 h (an e s 1 bv rs::(c++(an e s2 1 bv a::(L2++As)))):=by
  have u:(an e s 1 bv rs::c++(an e s2 1 bv a::L2))++As=an e s 1 bv rs::(c++(an e s2 1 bv a::(L2++As))):=jj
  rw[<-u];exact z
 have y:Seq h (λb=>b<h.size) s2 1 bv a:=n.seq (i1 c+1) (by rw[qw,qj (qm _),zc];rfl) λ_=>rfl;refine n.append w 0 i4 v A i4 i6 (λ_=>rfl) y kl i5 λd h' l=>F d h' ?_;have l:aa B h0 h' ((an e d 1 bv (rs++a)::c)++(an e s2 1 bv a::(L2++As))):=l;have D:=aa.aeM l;refine aa.Hp (rs:=rs++a) (by simp[r,m]) ?_;rw[Wo a l2 r,<-g,<-j];have G:(an e d 1 bv (rs++a)::(c++L2))++As=(an e d 1 bv (rs++a)::c)++(L2++As):=jj
 rw[G];exact D
end
end Go.Vc
