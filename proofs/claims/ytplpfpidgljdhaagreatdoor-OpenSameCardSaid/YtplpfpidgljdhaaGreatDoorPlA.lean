/- Lemmas for the proof of the law; no condition. -/
import Derived.Test.YtplpfpidgljdhaaGreatDoorVcA
import Derived.Sort.Grow
import Derived.Lib.SlicesCompact
import Derived.Lib.RowBridge
set_option linter.unusedVariables false
set_option linter.unusedSimpArgs false
open Array renaming ext' -> yI, getElem?_eq_some_iff -> yT, range -> xu, toList_map -> vY
open List renaming filter_cons_of_pos -> vb, getElem?_cons_zero -> yb, getElem?_mapIdx -> vx, getElem?_take -> vg, mem_or_eq_of_mem_set -> wA, pairwise_mergeSort -> yF, range -> qx, replicate -> qi, set_comm -> vJ, set_eq_take_append_cons_drop -> ye, take_left -> vQ, take_zero -> vP, zipWith -> zf
open Go.Value renaming int -> xF
open Go.IntKind renaming bits -> qH, i64 -> xL, signed -> va, u32 -> xN, u64 -> xO, u8 -> xM, wrap -> qe
open Go.Builtin renaming append_ -> zx, clear_ -> vO, copy_ -> yg, firstCells -> wO, nextslicecap -> vu, zeroCells -> yD
open Go.Instr renaming alloc -> yQ, box -> vC, buildSlice -> zL, fill -> wH, makeSlice -> zA, storeAt -> qG
open Int renaming fdiv -> zN, tmod -> xA
open Option renaming some -> zW
open UInt8 renaming lt_iff_toNat_lt -> wc, ofNat -> yR
open Prod renaming fst -> qt
open BitVec renaming ofInt -> qO, ofNat_toNat -> vM, setWidth_eq -> vN
set_option maxRecDepth 100000
open Option renaming some -> dB, none -> eH
open Bool renaming true -> eX, false -> fz
open Go renaming Value -> f7, Addr -> f8
open Go.Qw renaming cellOf -> f9, Heap -> g0
open List renaming length -> i0
namespace Go.Qw
variable {A B:Prop}
theorem ag{p:Prop}[Decidable p](a:p->A)(b:¬p->B):Br (decide p) A B:=by
 by_cases h:p
 ·rw[hY h];exact a h
 ·rw[hZ h];exact b h
theorem cH{a b:Int}(c:a=b->A)(d:a≠b->B):Br (a==b) A B:=by
 by_cases h:a=b
 ·rw[beq_iff_eq.2 h];exact c h
 ·rw[beq_eq_false_iff_ne.2 h];exact d h
theorem bx{a b:Int}(c:a≠b->A)(d:a=b->B):Br (a !=b) A B:=by
 by_cases h:a=b
 ·rw[show(a !=b)=fz by simp[h]];exact d h
 ·rw[show(a !=b)=eX by simp[h]];exact c h
theorem bo{b:Bool}(a:b=eX->A)(c:b=fz->B):Br b A B:=by
 cases b
 ·exact c i4
 ·exact a i4
theorem aR{b:Bool}(a:b=fz->A)(c:b=eX->B):Br (!b) A B:=by
 cases b
 ·exact a i4
 ·exact c i4
theorem Dp{b:Bool}(h:b=eX)(a:A):Br b A B:=by subst h;exact a
theorem tW{b:Bool}(h:b=fz)(a:B):Br b A B:=by subst h;exact a
theorem aW{σ:Type}{rest:σ->g0->Prop}{B:(σ->g0->Prop)->Prop}(h:B rest):uX rest B:=⟨rest,λ_ _ x=>x,h⟩
theorem bL{σ:Type}{rest:σ->g0->Prop}{B:(σ->g0->Prop)->Prop}(R:σ->g0->Prop)(a:B R)(b:∀s h,R s h->rest s h):uX rest B:=⟨R,b,a⟩
theorem aq{σ:Type}{B:σ->(σ->g0->Prop)->g0->Prop}{s:σ}{h:g0}{τ:Type}(V:τ->σ)(I:τ->g0->Prop)(μ:τ->Nat)(t0:τ)(b:s=V t0)(e:I t0 h)
  (d:∀t h,I t h->B (V t) (λc h'=>∃a,c=V a/\I a h'/\μ a<μ t) h):gK B s h:=⟨τ,V,I,μ,t0,b,e,d⟩
abbrev aw:=Nat->Prop
def aP(p:aw)(h h':g0):Prop:=h.size<=h'.size/\∀b,b<h.size->p b->h'[b]?=h[b]?
def Sl.on(s:Sl)(b:Nat):Prop:=∃o,s.ptr=dB ⟨b,o,eH⟩
variable {p q:aw} {h h' h'':g0}
theorem aP.refl(p:aw)(h:g0):aP p h h:=⟨ql _,λ_ _ _=>rfl⟩
theorem aP.trans(a:aP p h h')(b:aP p h' h''):aP p h h'':=⟨qT a.1 b.1,λk d c=>(b.2 k (qZ d a.1) c).trans (a.2 k d c)⟩
theorem aP.then(a:aP p h h')(b:aP q h' h'')(e:∀k,k<h.size->p k->q k):aP p h h'':=⟨qT a.1 b.1,λk c d=>(b.2 k (qZ c a.1) (e k c d)).trans (a.2 k c d)⟩
theorem aP.mono(a:aP p h h')(d:∀b,b<h.size->q b->p b):aP q h h':=⟨a.1,λk c e=>a.2 k c (d k c e)⟩
theorem aP.push(p:aw)(h:g0)(o:Obj):aP p h (h.push o):=⟨jj,λb a _=>by rw[Array.getElem?_push,hU i5]⟩
theorem dC{a:f8}{v:f7}(b:f9 h a=dB v):a.block<h.size:=by
 unfold f9 at b;cases hb:h[a.block]? with
 |none=>rw[hb]at b;cases b
 |some o=>exact(yT.1 hb).1
theorem lt_of_block{b:Nat}{o:Obj}(a:h[b]?=dB o):b<h.size:=(yT.1 a).1
theorem aP.cell(a:aP p h h'){x:f8}{v:f7}(c:p x.block)(b:f9 h x=dB v):f9 h' x=dB v:=by have:=a.2 _ (dC b) c;unfold f9 at*;rw[this];exact b
theorem aP.block(a:aP p h h'){b:Nat}{o:Obj}(d:p b)(c:h[b]?=dB o):h'[b]?=dB o:=by rw[a.2 b (lt_of_block c) d];exact c
theorem aP.cells(a:aP p h h'){x:f8}(b:p x.block):∀{vs:aT} {i:Nat},bn h x i vs->bn h' x i vs
 |[],_,_=>trivial
 |v::r,i,hc=>⟨a.cell (by unfold Addr.add;split<;>exact b) hc.1,aP.cells a b hc.2⟩
theorem add_eq(b o n:Nat):(⟨b,o,eH⟩:f8).add n=⟨b,o+n,eH⟩:=by
 unfold Addr.add;split
 ·rename_i h;subst h;rfl
 ·rfl
theorem add_zero(a:f8):a.add 0=a:=rfl
theorem BB{h:g0}{b o:Nat}{c:Array f7}{e:TypeId}{f:Nat×Nat}(a:h[b]?=dB (.cells c e f)):f9 h ⟨b,o,eH⟩=c[o]?:=by unfold f9;rw[a];rfl
theorem ZP{h:g0}{b o:Nat}{c:Array f7}{e:TypeId}(a:h[b]?=dB (.cells c e (0,0))):Ti h ⟨b,o,eH⟩=fz:=by unfold Ti;rw[a];simp
structure Seq {α:Type} (h:g0) (p:aw) (s:Sl) (k:Nat) (f:α->aT) (l:List α):Prop where
 len:s.len=i0 l
 elem:∀i x,l[i]?=dB x->∃b o,s.ptr=dB ⟨b,o,eH⟩/\p b/\bn h ⟨b,o+i*k,eH⟩ 0 (f x)
variable {α:Type} {s:Sl} {k:Nat} {f:α->aT} {l:List α}
theorem Seq.ae(c:Seq h p s k f l)(d:aP p h h'):Seq h' p s k f l:=⟨c.len,λi x e=>by
 obtain⟨b,o,g,a,h3⟩:=c.elem i x e;exact⟨b,o,g,a,d.cells a h3⟩⟩
theorem Seq.mono(a:Seq h p s k f l)(c:∀b,p b->q b):Seq h q s k f l:=⟨a.len,λi x d=>by
 obtain⟨b,o,e,g,h3⟩:=a.elem i x d;exact⟨b,o,e,c b g,h3⟩⟩
theorem Seq.nil(h:g0)(p:aw)(c:Nat)(b:cj)(k:Nat)(f:α->aT):Seq h p ⟨b,0,c⟩ k f []:=⟨i4,λi x a=>by simp at a⟩
theorem Seq.bt{X:Type}{g:X->f7}(c:Seq h p s 1 f l){i:Int}(n:Nat)(j:i=n)(m:n<i0 l)(x:X)(d:f l[n]=[g x]){K:X->Prop}(k:K x):
  ∃a:f8,(s.ptr=dB a/\0<=i/\i<((s.len:Nat):Int))/\∃x:X,f9 h (a.add (i.toNat*1))=dB (g x)/\K x:=by
 subst j;obtain⟨b,o,e,_,h3⟩:=c.elem n l[n] (qc m);refine⟨_,⟨e,i5,by rw[c.len];omega⟩,x,?_,k⟩;rw[d]at h3;have:=h3.1;rw[add_eq,w9]at this;rw[add_eq];simpa using this
theorem Seq.cU{X:Type}{g:X->aT}(c:Seq h p s k f l){i:Int}(n:Nat)(j:i=n)(q:n<i0 l)(x:X)(d:f l[n]=g x){K:X->Prop}(m:K x):
  ∃a:f8,(s.ptr=dB a/\0<=i/\i<((s.len:Nat):Int))/\∃x:X,bn h (a.add (i.toNat*k)) 0 (g x)/\K x:=by
 subst j;obtain⟨b,o,e,_,h3⟩:=c.elem n l[n] (qc q);refine⟨_,⟨e,i5,by rw[c.len];omega⟩,x,?_,m⟩;rw[add_eq];rw[d]at h3;simpa using h3
def ak(n:Int):aT:=[xF xL n]
def az(n:UInt8):aT:=[xF xM n.toNat]
def fg(b:Bool):aT:=[.bool b]
def bg(s:Sl):aT:=[.slice s.ptr s.len s.cap]
structure fA {α:Type} (h:g0) (p:aw) (s:Sl) (k:Nat) (f:α->aT) (ll:List (List α)) (rs:List Sl):Prop where
 top:Seq h p s 1 bg rs
 len:i0 rs=i0 ll
 row:∀(i:Nat) (r:Sl) (l:List α),rs[i]?=dB r->ll[i]?=dB l->Seq h p r k f l
variable {ll:List (List α)} {rs:List Sl}
theorem fA.ae(a:fA h p s k f ll rs)(b:aP p h h'):fA h' p s k f ll rs:=⟨a.top.ae b,a.len,λi r l c d=>(a.row i r l c d).ae b⟩
theorem fA.mono(a:fA h p s k f ll rs)(c:∀b,p b->q b):fA h q s k f ll rs:=⟨a.top.mono c,a.len,λi r l d e=>(a.row i r l d e).mono c⟩
theorem fA.GB(a:fA h p s k f ll rs):s.len=i0 ll:=by rw[a.top.len,a.len]
theorem fA.get(c:fA h p s k f ll rs){i:Int}(n:Nat)(g:i=n)(e:n<i0 ll){K:Sl->Prop}(j:∀r,Seq h p r k f ll[n]->rs[n]?=dB r->K r):
  ∃a:f8,(s.ptr=dB a/\0<=i/\i<((s.len:Nat):Int))/\∃x:Sl,f9 h (a.add (i.toNat*1))=dB (.slice x.ptr x.len x.cap)/\K x:=by
 have b:n<i0 rs:=by rw[c.len];exact e
 have d:rs[n]?=dB rs[n]:=qc b;exact c.top.bt n g b rs[n] i4 (j _ (c.row n _ _ d (qc e)) d)
structure Own {α:Type} (h:g0) (e:TypeId) (s:Sl) (k:Nat) (f:α->aT) (l:List α):Prop where
 len:s.len=i0 l
 head:(s.ptr=eH/\s.cap=0/\l=[])∨∃b rest,s.ptr=dB ⟨b,0,eH⟩/\h[b]?=dB (.cells (l.flatMap f++rest).toArray e (0,0))/\rest.length=(s.cap-s.len)*k/\s.len<=s.cap
theorem dl{α:Type}{k:Nat}{f:α->aT}(a:∀x,i0 (f x)=k):∀(l:List α),i0 (l.flatMap f)=i0 l*k
 |[]=>jj
 |x::r=>by rw[za,qw,a,dl a r,ze,zP];omega
theorem GC{α:Type}{k:Nat}{f:α->aT}(a:∀x,i0 (f x)=k):∀(l:List α) (i:Nat) (x:α),l[i]?=dB x->∃pre post,l.flatMap f=pre++f x++post/\pre.length=i*k
 |y::r,0,x,h=>by simp at h;subst h;exact⟨[],r.flatMap f,jj,jj⟩
 |y::r,i+1,x,h=>by
  obtain⟨pre,post,b,c⟩:=GC a r i x j9;exact⟨f y++pre,post,o0,by rw[qw,a,c,zP];omega⟩
theorem Ax{h:g0}{b o:Nat}{e:TypeId}{fr:Nat×Nat}:∀{vs pre post:aT} {i:Nat},h[b]?=dB (.cells (pre++vs++post).toArray e fr)->i0 pre=o+i->bn h ⟨b,o,eH⟩ i vs
 |[],_,_,_,_,_=>trivial
 |v::r,pre,post,i,hb,hl=>by
  refine⟨?_,Ax (pre:=pre++[v]) (post:=post) (by simpa using hb) i9⟩;rw[add_eq,BB hb,<-hl];simp
def jk(h:g0)(b:Nat)(o:Obj):g0:=h.setIfInBounds b o
theorem ij{h:g0}{b c:Nat}{o x:Obj}(a:h[b]?=dB x):(jk h b o)[c]?=if b=c then dB o else h[c]?:=by
 unfold jk;rw[Array.getElem?_setIfInBounds];split
 ·rename_i e;subst e;rw[g9 (lt_of_block a)]
 ·rfl
theorem Wh{h:g0}{b o:Nat}{c:Array f7}{e:TypeId}{f:Nat×Nat}{v:f7}(a:h[b]?=dB (.cells c e f)):Tj h ⟨b,o,eH⟩ v=jk h b (.cells (c.setIfInBounds o v) e f):=by
 apply yU;intro i;rw[ij a];simp only[Tj,wJ];split
 ·rename_i d;subst d;rw[a];rfl
 ·rfl
theorem Wi(h:g0)(b:Nat)(o a:Obj):jk (jk h b o) b a=jk h b a:=by unfold jk;simp
theorem aP.jk{p:aw}{h:g0}{b:Nat}{o x:Obj}(f:h[b]?=dB x)(d:¬p b):aP p h (jk h b o):=⟨by simp[Qw.jk],λc _ a=>by
 rw[ij f,hU λe=>d (by rw[e];exact a)]⟩
theorem eO{P:Program}{b o:Nat}{e:TypeId}{K:Unit->g0->Prop}:∀{vs pre old post:aT} {i:Nat} {h:g0},h[b]?=dB (.cells (pre++old++post).toArray e (0,0))->i0 old=i0 vs->i0 pre=o+i->
  (∀v∈vs,v.oneCell'=eX)->K () (jk h b (.cells (pre++vs++post).toArray e (0,0)))->au P (storeCells ⟨b,o,eH⟩ vs i) h K
 |[],pre,old,post,i,h,hb,hl,hp,hv,hk=>by
  have:old=[]:=q9 (by simpa using hl);subst this;refine au.pure' ?_;have f:jk h b (.cells (pre++[]++post).toArray e (0,0))=h:=by
   apply yU;intro c;rw[ij hb];split
   ·rename_i d;subst d;exact hb.symm
   ·rfl
  rw[f]at hk;exact hk
 |v::r,pre,old,post,i,h,hb,hl,hp,hv,hk=>by
  cases old with
  |nil=>simp at hl
  |cons u old=>
   simp only[storeCells];refine au.bind ?_;rw[add_eq];have d:f9 h ⟨b,o+i,eH⟩=dB u:=by rw[BB hb,<-hp];simp
   refine au.aew (hv v jj) d (ZP hb) ?_;rw[Wh hb];have a:(pre++(u::old)++post).toArray.setIfInBounds (o+i) v=((pre++[v])++old++post).toArray:=by rw[<-hp];apply yI;simp
   rw[a];refine eO (e:=e) (pre:=pre++[v]) (old:=old) (post:=post) ?_ (by simpa using hl) i9 (λx g=>hv x n9) ?_
   ·rw[ij hb,g9 rfl]
   ·rw[Wi];simpa using hk
theorem JK{P:Program}{h:g0}{a:f8}{vs:aT}{n:Nat}{K:Array f7->g0->Prop}(d:i0 vs=n)(c:bn h a 0 vs)(e:K vs.toArray h):au P (loadCells a n) h K:=λw b=>by
 subst b;refine⟨vs.toArray,w,?_,dg.refl w,e⟩;have:=run_loadCells (P:=P) (w:=w) (a:=a) vs 0 #[] c;rw[d]at this;unfold loadCells;rw[this];simp
variable {e:TypeId}
theorem Own.lt(c:Own h e s k f l){b:Nat}(a:s.on b):b<h.size:=by
 rcases c.head with⟨h1,_,_⟩|⟨b',rest,h1,h2,_,_⟩
 ·obtain⟨o,h0⟩:=a;rw[h1]at h0;cases h0
 ·obtain⟨o,h0⟩:=a;rw[h1]at h0;cases h0;exact lt_of_block h2
theorem Own.ae(c:Own h e s k f l)(d:aP p h h')(a:∀b,s.on b->p b):Own h' e s k f l:=⟨c.len,by
 rcases c.head with h1|⟨b,rest,h1,h2,h3,h4⟩
 ·exact .inl h1
 ·exact .inr ⟨b,rest,h1,d.block (a b ⟨0,h1⟩) h2,h3,h4⟩⟩
theorem Own.seq(d:Own h e s k f l)(g:∀x,i0 (f x)=k)(a:∀b,s.on b->p b):Seq h p s k f l:=⟨d.len,λi x c=>by
 rcases d.head with⟨_,_,h1⟩|⟨b,rest,h1,h2,h3,h4⟩
 ·subst h1;simp at c
 ·obtain⟨pre,post,j,m⟩:=GC g l i x c;refine⟨b,0,h1,a b ⟨0,h1⟩,Ax (e:=e) (fr:=(0,0)) (pre:=pre) (post:=post++rest) ?_ i5⟩;rw[h2,j];simp⟩
theorem Own.nil(h:g0)(e:TypeId)(k:Nat)(f:α->aT):Own h e ⟨eH,0,0⟩ k f []:=⟨i4,.inl ⟨i4,i4,i4⟩⟩
theorem Own.cap(a:Own h e s k f l):s.len<=s.cap:=by
 rcases a.head with⟨h1,h2,h3⟩|⟨b,rest,h1,h2,h3,h4⟩
 ·have:=a.len;rw[h3]at this;simp at this;omega
 ·exact h4
theorem au.always{α:Type}{P:Program}{s:Sem α}{v:α}{h:g0}{K:α->g0->Prop}(b:aH P s v)(c:K v h):au P s h K:=λw a=>⟨v,w,b w,dg.refl w,by rw[a];exact c⟩
structure bG (C:AQ) (t e k:Nat) (z:aT) (by_:Nat):Prop where
 ex:∃i j,C.T.get t=dB i/\i.cG=.slice e/\C.T.get e=dB j/\j.size=k/\j.zero=z/\j.bytes=by_
variable {t:Nat} {z:aT} {by_:Nat}
section
variable {C:Ctx} {e:Nat}
theorem bG.under(a:bG C.toAQ t e k z by_)(b:C.Ok):C.P.underlying t=dB (.slice e):=by obtain⟨i,j,c,d,_⟩:=a.ex;have:=b.cG c;rw[d]at this;exact jF this
theorem bG.size(a:bG C.toAQ t e k z by_)(b:C.Ok):aH C.P (sizeOf e) k:=by obtain⟨i,j,_,_,c,d,_⟩:=a.ex;rw[<-d];exact eE b.toOk c
theorem bG.info(h:bG C.toAQ t e k z by_)(l:C.Ok):∃f,C.P.info? e=dB f/\f.size=k/\f.bytes=by_/\∃a,f.zero=dB a/\a.cells=z.toArray:=by obtain⟨i,j,_,_,m,n,h3,g⟩:=h.ex;obtain⟨f,o,p,d,a,b,c⟩:=l.info m;exact⟨f,o,p.trans n,d.trans g,a,b,by apply yI;rw[c,h3]⟩
end
def iU(z:aT):Nat->aT
 |0=>[]
 |n+1=>z++iU z n
theorem ol(z:aT):∀n,i0 (iU z n)=n*i0 z
 |0=>by simp[iU]
 |n+1=>by rw[iU,qw,ol z n,zP];omega
theorem Ng(z:aT):∀(n i:Nat),i<n*i0 z->(iU z n)[i]?=z[i%i0 z]?
 |0,i,h=>mn
 |n+1,i,h=>by
  have a:0<i0 z:=Nat.pos_of_ne_zero λe=>by rw[e]at h;simp at h
  rw[iU];by_cases b:i<i0 z
  ·rw[qm b,Nat.mod_eq_of_lt b]
  ·rw[qh i5,Ng z n (i-i0 z) (by rw[zP]at h;omega)];congr 1
   conv=>rhs;rw[show i=(i-i0 z)+i0 z by omega,Nat.add_mod_right]
theorem Nh(z:aT)(n m:Nat)(c:m=n*i0 z):((xu m).map λi=>z.toArray[i%z.toArray.size]!)=(iU z n).toArray:=by
 apply yU;intro i;subst c;simp only[Array.getElem?_map,Array.getElem?_range,zU];by_cases b:i<n*i0 z
 ·rw[Ng z n i b];have a:0<i0 z:=Nat.pos_of_ne_zero λe=>by rw[e]at b;simp at b
  have:=y7 i a;simp[b,this]
 ·rw[qI (by rw[ol];omega)];simp[b]
theorem Dq(z:aT)(n:Nat):yD z.toArray n=(iU z n).toArray:=Nh z n _ jj
theorem Sk(a:Nat):∀(r c:Nat),Builtin.growBy a r c<=(c+768)*2^r
 |0,c=>by simp[Builtin.growBy]
 |r+1,c=>by
  unfold Builtin.growBy;split
  ·exact qT (Nat.le_add_right c 768) (Nat.le_mul_of_pos_right _ (Nat.two_pow_pos _))
  ·refine qT (Sk a r _) ?_;rw[Nat.pow_succ,Nat.mul_comm (2^r) 2,<-Nat.mul_assoc];exact zD _ i5
theorem agD(o n:Nat)(h:o<n):(o+768)*2^4<=16*n+16*768:=i5
theorem Sm(a b:Nat)(h:b<a:=by omega):vu a b<=16*a+16*768:=by
 unfold vu;split
 ·omega
 ·split
  ·omega
  ·exact qT (Sk a 4 b) (agD _ _ h)
variable {t2:Nat} {v:Sl} {l2:List α}
section
variable {C:Ctx} {e:Nat}
theorem fX{P:Program}{K:Array f7->g0->Prop}(q:∀x,i0 (f x)=k)(g:Seq h p v k f l)(w:K (l.flatMap f).toArray h):
  au P (wO k v.len (.slice v.ptr v.len v.cap)) h K:=by
 cases hp:v.ptr with
 |none=>
  have:l=[]:=by
   cases l with
   |nil=>rfl
   |cons x r=>obtain⟨b,o,c,_⟩:=g.elem 0 x jj;rw[hp]at c;cases c
  subst this;exact au.pure' w
 |some a=>
  refine JK (by rw[dl q,<-g.len]) ?_ w;cases l with
  |nil=>trivial
  |cons s r0=>
   obtain⟨b,o,c,_,_⟩:=g.elem 0 s jj;rw[hp]at c;cases c;have j:∀(r:List α) (n:Nat),(∀i x,r[i]?=dB x->bn h ⟨b,o+(n+i)*k,eH⟩ 0 (f x))->bn h ⟨b,o,eH⟩ (n*k) (r.flatMap f):=by
    intro r
    induction r with
    |nil=>intro n _;trivial
    |cons x r ih=>
     intro n t;have h0:=t 0 x jj;have e:=ih (n+1) (λi y A=>by have:=t (i+1) y (by simpa using A);rw[show n+1+i=n+(i+1)by omega];exact this);rw[za];have app:∀(us vs:aT) (i:Nat),bn h ⟨b,o,eH⟩ i us->bn h ⟨b,o,eH⟩ (i+i0 us) vs->bn h ⟨b,o,eH⟩ i (us++vs):=by
      intro us
      induction us with
      |nil=>intro vs i _ e;simpa using e
      |cons u us ih=>intro vs i c e;exact⟨c.1,ih vs (i+1) c.2 (by rw[show i+1+i0 us=i+(i0 us+1)by omega];exact e)⟩
     refine app _ _ _ ?_ (by rw[q,<-zP];exact e);have d:∀(us:aT) (i m:Nat),bn h ⟨b,o+m,eH⟩ i us->bn h ⟨b,o,eH⟩ (m+i) us:=by
      intro us
      induction us with
      |nil=>intros;trivial
      |cons u us ih=>
       intro i m c;refine⟨?_,ih (i+1) m c.2⟩;have:=c.1;rw[add_eq]at this⊢;rw[<-w5];exact this
     have:=d (f x) 0 ((n+0)*k) h0;simpa using this
   have:=j (s::r0) 0 (λi x z=>by
    obtain⟨D,B,c,_,h3⟩:=g.elem i x z;rw[hp]at c;cases c;simpa using h3)
   simpa using this
theorem TJ(w:C.Ok)(N:bG C.toAQ t e k z by_)(Z:∃i e2,C.T.get t2=dB i/\i.cG=.slice e2)(hz:i0 z=k)(B:0<by_/\by_<=128)(m:∀x,i0 (f x)=k)
  (y:Own h e s k f l) (O:Seq h p v k f l2) (u:∀x,∀c∈f x,c.oneCell'=eX) (V:i0 l+i0 l2<=2^32) {ty:Nat} {K:Sl->g0->Prop}
  (M:∀D h',Own h' e D k f (l++l2)->aP (λb=>¬s.on b) h h'->(∀b,D.on b->s.on b∨h.size<=b)->K D h'):
  bz C.P (zx #[t,t2] ty #[.slice s.ptr s.len s.cap,.slice v.ptr v.len v.cap]) (.one (.sc .slc)) h K:=by
 obtain⟨i2,e2,g1,g2⟩:=Z;have L:C.P.underlying t2=dB (.slice e2):=by have:=w.cG g1;rw[g2]at this;exact jF this
 obtain⟨I,A,x2,x3,zv,x4,Y⟩:=N.info w;unfold bz zx;simp only[zU,yb,qp];refine au.bind (au.always (aG (N.under w)) ?_);refine au.bind (au.always (N.size w) ?_);refine au.bind (au.always (aG L) ?_);refine au.bind (au.pure' ?_);simp only[zg,if_false,wZ,if_true];refine au.bind (au.pure' ?_);have q:=y.len;have F:=O.len;by_cases d:s.len+v.len<=s.cap
 ·rw[g9 d];refine au.bind (fX m O ?_);rcases y.head with⟨p1,p2,p3⟩|⟨b,rest,p1,p2,p3,p4⟩
  ·rw[p1];have E:l2=[]:=q9 i5;subst E;refine au.pure' ⟨⟨eH,s.len+v.len,s.cap⟩,i4,M _ _ ⟨?_,.inl ⟨i4,p2,by simp[p3]⟩⟩ (aP.refl _ _) ?_⟩
   ·simp;omega
   ·rintro S ⟨o,g⟩;cases g
  ·rw[p1];refine au.bind ?_;rw[add_eq,wm];have j:=dl m l;have a:=dl m l2;have H:i0 (l2.flatMap f)<=i0 rest:=by rw[a,p3];exact zD k i5
   refine eO (e:=e) (pre:=l.flatMap f) (old:=rest.take (l2.flatMap f).length) (post:=rest.drop (l2.flatMap f).length) ?_ ?_ ?_ ?_ ?_
   ·rw[qn,qC];exact p2
   ·rw[qR];exact wE H
   ·rw[j,q];omega
   ·intro c X;obtain⟨x,_,J⟩:=zE.1 X;exact u x c J
   ·refine au.pure' ⟨⟨dB ⟨b,0,eH⟩,s.len+v.len,s.cap⟩,i4,M _ _ ⟨?_,.inr ⟨b,rest.drop (l2.flatMap f).length,i4,?_,?_,d⟩⟩ ?_ ?_⟩
    ·simp;omega
    ·rw[ij p2,g9 rfl];simp
    ·rw[zb,p3,a,<-Nat.sub_mul];show(s.cap-s.len-i0 l2)*k=(s.cap-(s.len+v.len))*k;congr 1;omega
    ·exact aP.jk p2 (λhn=>hn ⟨0,p1⟩)
    ·rintro S ⟨o,g⟩;cases g;exact .inl ⟨0,p1⟩
 ·rw[hU d];have r:Seq h (λ_=>True) s k f l:=y.seq m λ_ _=>trivial;have R:=y.cap;refine au.bind (au.always (dc A) ?_);rw[hU λhh=>by rcases hh.2 with h|h<;>first|exact h|(rw[x3]at h;omega)];refine au.bind (au.always (dc A) ?_);have W:=Sm (s.len+v.len) s.cap;rw[hU (by
   have:vu (s.len+v.len) s.cap*I.bytes<=(16*2^32+16*768)*128:=wy i5 (by rw[x3];exact B.2);omega)]
  refine au.bind (au.JC ⟨λU=>(by cases U),λ_ nn=>?_⟩);refine au.bind (au.always (dc A) ?_);refine au.bind (au.Gt ?_);refine au.bind (fX m r ?_);refine au.bind (fX m O ?_);have Q:aH C.P (zeroValue e) zv:=(dc A).bind (by rw[x4];exact .pure);refine au.bind (au.always Q ?_);rw[Y,Dq];unfold newRow;refine au.bind (au.bind (au.oB (au.pure' (au.pure' ?_))));generalize G:Question.cut (Question.appendCap (s.len+v.len) s.cap e) nn=cc;have n:s.len+v.len<=cc:=by rw[<-G];simp only[Question.cut];omega
  refine⟨⟨dB ⟨h.size,0,eH⟩,s.len+v.len,cc⟩,i4,M _ _ ⟨?_,.inr ⟨h.size,iU z (cc-(s.len+v.len)),i4,?_,?_,n⟩⟩ (aP.push _ _ _) ?_⟩
  ·simp;omega
  ·simp
  ·rw[ol,hz]
  ·rintro S ⟨o,g⟩;cases g;exact .inr (ql _)
end
structure bY (h:g0) (a:f8) (e:TypeId) (cs:aT):Prop where
 off:a.off=0
 spot:a.spot=eH
 ff:h[a.block]?=dB (.cells cs.toArray e (0,0))
variable {a:f8} {cs:aT}
theorem bY.addr(c:bY h a e cs):a=⟨a.block,0,eH⟩:=by
 obtain⟨b,o,s⟩:=a;have:=c.off;have:=c.spot
 simp_all
theorem bY.ae(b:bY h a e cs)(d:aP p h h')(c:p a.block):bY h' a e cs:=⟨b.off,b.spot,d.block c b.ff⟩
theorem bY.lt(b:bY h a e cs):a.block<h.size:=lt_of_block b.ff
theorem bY.cell(b:bY h a e cs){j:Nat}{v:f7}(c:cs[j]?=dB v):f9 h (a.add j)=dB v:=by rw[b.addr,add_eq,BB b.ff];simpa using c
theorem bY.cell0(c:bY h a e cs){v:f7}(b:cs[0]?=dB v):f9 h a=dB v:=c.cell (j:=0) b
theorem bY.cells(c:bY h a e cs)(j:Nat)(vs:aT)(d:(cs.drop j).take vs.length=vs):bn h (a.add j) 0 vs:=by
 rw[c.addr,add_eq,wm];have b:i0 vs<=i0 (cs.drop j):=by have:=congrArg List.length d;rw[qR]at this;omega
 rcases Nat.lt_or_ge cs.length j with hj|hj
 ·rw[zb]at b;have:vs=[]:=q9 i5;subst this;trivial
 ·refine Ax (e:=e) (fr:=(0,0)) (pre:=cs.take j) (post:=(cs.drop j).drop vs.length) ?_ i9;have:cs.take j++vs++(cs.drop j).drop vs.length=cs:=by
   conv=>lhs;rw[qn];arg 2;arg 1;rw[<-d]
   rw[qC,qC]
  rw[this];exact c.ff
theorem bY.aF(c:bY h a e cs)(vs:aT)(b:cs.take vs.length=vs):bn h a 0 vs:=c.cells 0 vs b
variable {i:TI}
section
variable {C:Ctx}
theorem uZ(d:C.Ok)(c:C.T.get t=dB i){K:f8->g0->Prop}(f:∀a h',a.block=h.size->bY h' a t i.zero->aP (λ_=>True) h h'->h'.size=h.size+1->K a h'):
  oT C.P (yQ t eX (.tuple #[])) h K:=by
 obtain⟨z,e,b⟩:=rx d.toOk c;unfold oT yQ;refine au.bind (au.always e ?_);refine au.bind (au.bind (au.bind (au.oB (au.pure' (au.pure' (au.pure' ?_))))));refine⟨⟨h.size,0,eH⟩,i4,f _ _ i4 ⟨i4,i4,?_⟩ (aP.push _ _ _) jj⟩;rw[<-b];simp
theorem Sn{v:f7}{P:Program}{K:f8->g0->Prop}(b:∀a h',a.block=h.size->bY h' a t v.cells.toList->aP (λ_=>True) h h'->h'.size=h.size+1->K a h'):
  oT P (vC t v) h K:=by
 unfold oT vC;refine au.bind (au.bind (au.bind (au.oB (au.pure' (au.pure' (au.pure' ?_))))));refine⟨⟨h.size,0,eH⟩,i4,b _ _ i4 ⟨i4,i4,?_⟩ (aP.push _ _ _) jj⟩;simp
theorem run_store(k:C.Ok){a:f8}{e:TypeId}{b:aT}(c:bY h a e b)(j:C.T.get t=dB i)(off:Nat){v:f7}(vs:aT)(o:v.cells=vs.toArray)(f:i.size=i0 vs)
  (d:vs.all (·.oneCell')=eX) (g:off+i0 vs<=i0 b) {K:Unit->g0->Prop}
  (n:∀h',bY h' a e (b.take off++vs++b.drop (off+i0 vs))->aP (·≠a.block) h h'->h'.size=h.size->K () h'):
  au C.P (qG t (.pointer (dB (a.add off))) v) h K:=by
 have l:=c.addr;unfold qG;refine au.bind (au.pure' ?_);unfold storeVar;refine au.bind (au.always (eE k.toOk j) ?_);rw[o,f];simp only[wW,ne_eq,not_true,if_false];rw[l,add_eq,wm];refine eO (e:=e) (pre:=b.take off) (old:=(b.drop off).take vs.length) (post:=b.drop (off+i0 vs)) ?_ ?_ ?_ ?_ ?_
 ·have:b.take off++(b.drop off).take vs.length++b.drop (off+i0 vs)=b:=by rw[<-zI,qn,qC,qC]
  rw[this];exact c.ff
 ·simp;omega
 ·simp;omega
 ·intro x m;have:=qJ.1 d x m;exact this
 ·refine n _ ⟨c.off,c.spot,?_⟩ (aP.jk c.ff jj) (by simp[jk]);rw[ij c.ff,g9 rfl]
theorem BC(k:C.Ok){a:f8}{e:TypeId}{c:aT}(g:bY h a e c)(j:C.T.get t=dB i){v:f7}(vs:aT)(l:v.cells=vs.toArray)(d:i.size=i0 vs)
  (b:vs.all (·.oneCell')=eX) (f:i0 vs<=i0 c) {K:Unit->g0->Prop}
  (m:∀h',bY h' a e (vs++c.drop vs.length)->aP (·≠a.block) h h'->h'.size=h.size->K () h'):
  au C.P (qG t (.pointer (dB a)) v) h K:=
 run_store k g j 0 vs l d b i5 (λh' x y z=>m h' (by simpa using x) y z)
end
section
variable {C:Ctx} {e:Nat}
theorem Dr{a:α}(b:f a=z):∀n,iU z n=(qi n a).flatMap f
 |0=>rfl
 |n+1=>by rw[iU,List.replicate_succ,za,b,Dr b n]
theorem ai(x:Int)(b:-9223372036854775808<=x:=by omega)(c:x<=9223372036854775807:=by omega):qe xL x=x:=by
 show(if(eX&&decide (x%2^64>=2^63))=eX then x%2^64-2^64 else x%2^64)=x;by_cases a:x%2^64>=2^63
 ·rw[g9 (by rw[zX];exact hY a)];omega
 ·rw[hU (by rw[zX];exactλh=>a (ii h))];omega
theorem run_make(o:C.Ok)(w:bG C.toAQ t e k z by_)(p:0<by_/\by_<=128)(l:α)(A:f l=z)(d:i0 z=k){J G:IntKind}{n c:Int}(m b:Nat)(N:n=m)(E:c=b)(s:m<=b)(q:b<=2^32)
  {K:Sl->g0->Prop} (H:∀j h',Own h' e j k f (qi m l)->j.ptr=dB ⟨h.size,0,eH⟩->j.cap=b->aP (λ_=>True) h h'->h'.size=h.size+1->K j h'):
  bz C.P (zA t (.int J n) (.int G c)) (.one (.sc .slc)) h K:=by
 subst N;subst E;obtain⟨u,B,x2,x3,L,M,F⟩:=w.info o;unfold bz zA;refine au.bind (au.always (aG (w.under o)) ?_);refine au.bind (au.pure' ?_);refine au.bind (au.pure' ?_);refine au.bind (au.always (dc B) ?_);have I:qe xL (m:Int)=m:=ai _;have D:qe xL (b:Int)=b:=ai _;have O:¬((u.bytes:Int)*(b:Int)>2^48):=by
  rw[x3];have:by_*b<=128*2^32:=wy p.2 q;have:((by_:Int)*(b:Int))<=((128*2^32:Nat):Int):=by exact_mod_cast this
  omega
 simp only[I,D];rw[hU i9];refine au.bind (au.Gt ?_);refine au.bind (au.always (w.size o) ?_);have y:aH C.P (zeroValue e) L:=(dc B).bind (by rw[M];exact .pure);have fin:∀g:Array f7,(b*k≠0->g=z.toArray)->au C.P (do
   let a<-newRow e ((xu (b*k)).map (g[·%g.size]!))
   pure (Value.slice (dB a) m b)) h (λv h'=>∃x:(Rt.one (.sc .slc)).den,v=(Rt.one (.sc .slc)).enc x/\K x h'):=by
  intro g r;have i:((xu (b*k)).map (g[·%g.size]!))=(iU z b).toArray:=by
   by_cases h0:b*k=0
   ·rw[h0];have:iU z b=[]:=q9 (by rw[ol,d,h0]);rw[this];simp
   ·rw[r h0];exact Nh z b _ (by rw[d])
  rw[i];refine au.bind (au.bind (au.oB (au.pure' (au.pure' ?_))));refine⟨⟨dB ⟨h.size,0,eH⟩,m,b⟩,i4,H _ _ ⟨jj,.inr ⟨h.size,iU z (b-m),i4,?_,?_,s⟩⟩ i4 i4 (aP.push _ _ _) jj⟩
  ·have:iU z b=(qi m l).flatMap f++iU z (b-m):=by rw[Dr A,Dr A,<-qY,List.replicate_append_replicate];congr 2;omega
   rw[this];simp
  ·rw[ol,d]
 simp only[qj];by_cases h0:b*k=0
 ·rw[g9 h0];exact au.bind (au.pure' (fin _ λh=>absurd h0 h))
 ·rw[hU h0];refine au.bind (au.always y ?_);exact au.bind (au.pure' (fin _ λ_=>F))
theorem JL(j:C.Ok)(p:bG C.toAQ t e k z by_)(d:i0 z=k){n:Nat}{parts:Array (Nat×f7)}(l:List α)(D:i0 l=n)(r:n*k<=2^20)
  (b:wH (λi=>dB (i*k,k)) (iU z n).toArray parts.toList=dB (l.flatMap f).toArray) {K:Sl->g0->Prop}
  (w:∀o h',Own h' e o k f l->o.ptr=dB ⟨h.size,0,eH⟩->aP (λ_=>True) h h'->h'.size=h.size+1->K o h'):
  bz C.P (zL t n parts) (.one (.sc .slc)) h K:=by
 obtain⟨u,y,x2,x3,A,B,s⟩:=p.info j;unfold bz zL;refine au.bind (au.always (aG (p.under j)) ?_);refine au.bind (au.always (p.size j) ?_);rw[hU i5];have q:aH C.P (zeroValue e) A:=(dc y).bind (by rw[B];exact .pure);have fin:∀c:Array f7,(n*k≠0->c=z.toArray)->au C.P (do
   let dB cells:=wH (λi=>dB (i*k,k)) ((xu (n*k)).map (c[·%c.size]!)) parts.toList
    |stuck "buildSlice: a part of the wrong size"
   pure (Value.slice (dB (<-newRow e cells)) n n)) h (λv h'=>∃x:(Rt.one (.sc .slc)).den,v=(Rt.one (.sc .slc)).enc x/\K x h'):=by
  intro c m;have g:((xu (n*k)).map (c[·%c.size]!))=(iU z n).toArray:=by
   by_cases h0:n*k=0
   ·rw[h0];have:iU z n=[]:=q9 (by rw[ol,d,h0]);rw[this];simp
   ·rw[m h0];exact Nh z n _ (by rw[d])
  rw[g,b];refine au.bind (au.bind (au.oB (au.pure' (au.pure' ?_))));refine⟨⟨dB ⟨h.size,0,eH⟩,n,n⟩,i4,w _ _ ⟨D.symm,.inr ⟨h.size,[],i4,jj,jj,ql _⟩⟩ i4 (aP.push _ _ _) jj⟩
 by_cases h0:n*k=0
 ·rw[g9 h0];exact au.bind (au.pure' (fin _ λh=>absurd h0 h))
 ·rw[hU h0];refine au.bind (au.always q ?_);exact au.bind (au.pure' (fin _ λ_=>s))
theorem Own.set{i:TI}(A:C.Ok)(u:Own h e s k f l)(p:∀x,i0 (f x)=k)(z:C.T.get t=dB i){x:Int}(n:Nat)(E:x=n)(v:n<i0 l){g:f7}(y:α)(G:g.cells=(f y).toArray)(q:i.size=k)
  (o:(f y).all (·.oneCell')=eX) {K:g0->Prop} (F:∀h',Own h' e s k f (l.set n y)->aP (λb=>¬s.on b) h h'->h'.size=h.size->K h'):
  ∃a:f8,(s.ptr=dB a/\0<=x/\x<((s.len:Nat):Int))/\au C.P (qG t (.pointer (dB (a.add (x.toNat*k)))) g) h λ_ h'=>K h':=by
 subst E;rcases u.head with⟨_,_,h3⟩|⟨b,rest,h1,h2,h3,h4⟩
 ·subst h3;simp at v
 ·refine⟨_,⟨h1,i5,by rw[u.len];omega⟩,?_⟩;unfold qG;refine au.bind (au.pure' ?_);unfold storeVar;refine au.bind (au.always (eE A.toOk z) ?_);rw[G,q];have r:=p y;simp only[wW,r,ne_eq,not_true,if_false];rw[add_eq,wm,qj];have d:l=l.take n++l[n]::l.drop (n+1):=by rw[<-qK v,qC]
  have j:l.set n y=l.take n++y::l.drop (n+1):=ye.trans (g9 v);have m:i0 ((l.take n).flatMap f)=n*k:=by rw[dl p,qR,wE i5]
  refine eO (e:=e) (pre:=(l.take n).flatMap f) (old:=f l[n]) (post:=(l.drop (n+1)).flatMap f++rest) ?_ ?_ ?_ ?_ ?_
  ·have:l.flatMap f++rest=(l.take n).flatMap f++f l[n]++((l.drop (n+1)).flatMap f++rest):=by have w:=congrArg (List.flatMap f) d;rw[qY,za]at w;rw[w];simp
   rw[<-this];exact h2
  ·rw[p,p]
  ·rw[m];omega
  ·intro c B;have:=qJ.1 o c B;exact this
  ·refine F _ ⟨by rw[zC];exact u.len,.inr ⟨b,rest,h1,?_,h3,h4⟩⟩ (aP.jk h2 λD=>D ⟨0,h1⟩) (by simp[jk]);rw[ij h2,g9 i4,j];simp
end
def grow(c:Nat->Nat)(n i:Nat):Nat->Nat:=λb=>if b<n then c b else i
theorem gQ{c:Nat->Nat}{n i b:Nat}(h:b<n):grow c n i b=c b:=g9 h
theorem pP{c:Nat->Nat}{n i b:Nat}(h:n<=b:=by omega):grow c n i b=i:=hU i5
structure dS {α:Type} (h:g0) (c:Nat->Nat) (i:Nat) (e:TypeId) (s:Sl) (k:Nat) (f:α->aT) (l:List α):Prop where
 own:Own h e s k f l
 bu:∀b,s.on b->c b=i
structure kM (h:g0) (c:Nat->Nat) (i:Nat) (a:f8) (e:TypeId) (cs:aT):Prop where
 box:bY h a e cs
 bu:c a.block=i
structure mL (h0 h:g0) (c:Nat->Nat):Prop where
 ae:aP (λb=>b<h0.size) h0 h
 bu:∀b,b<h0.size->c b=0
variable {h0:g0} {c:Nat->Nat} {j n m:Nat}
section
variable {i:Nat}
theorem dS.keep(d:dS h c j e s k f l)(n:aP (λb=>c b≠i) h h')(g:j≠i):dS h' (grow c h.size m) j e s k f l:=
 ⟨d.own.ae n λb a=>by rw[d.bu b a];exact g,λb a=>by rw[gQ (d.own.lt a)];exact d.bu b a⟩
theorem kM.keep(d:kM h c j a e cs)(g:aP (λb=>c b≠i) h h')(f:j≠i):kM h' (grow c h.size m) j a e cs:=
 ⟨d.box.ae g (by rw[d.bu];exact f),by rw[gQ d.box.lt];exact d.bu⟩
theorem mL.keep(d:mL h0 h c)(e:aP (λb=>c b≠i) h h')(f:i≠0):mL h0 h' (grow c h.size m):=
 ⟨d.ae.then e λb a _=>by rw[d.bu b a];exact f.symm,λb a=>by rw[gQ (qZ a d.ae.1)];exact d.bu b a⟩
theorem mL.refl(h:g0):mL h h (λ_=>0):=⟨aP.refl _ _,λ_ _=>rfl⟩
theorem dS.seq(a:dS h c j e s k f l)(d:∀x,i0 (f x)=k):Seq h (λb=>c b=j) s k f l:=a.own.seq d a.bu
theorem dS.TK(a:dS h c j e s k f l)(d:∀x,i0 (f x)=k):Seq h (λb=>b<h.size) s k f l:=a.own.seq d λ_ g=>a.own.lt g
theorem dS.nil(h:g0)(c:Nat->Nat)(i:Nat)(e:TypeId)(k:Nat)(f:α->aT):dS h c i e ⟨eH,0,0⟩ k f []:=⟨Own.nil h e k f,λb a=>by obtain⟨o,d⟩:=a;cases d⟩
theorem aP.bu(a:aP (λ_=>True) h h')(c:Nat->Nat)(i:Nat):aP (λb=>c b≠i) h h':=a.mono λ_ _ _=>trivial
end
variable {ti:TI}
section
variable {C:Ctx} {i e:Nat}
theorem sQ(e:C.Ok)(_:mL h0 h c)(i:Nat)(d:C.T.get t=dB ti){K:f8->g0->Prop}(f:∀a h',kM h' (grow c h.size i) i a t ti.zero->aP (λb=>c b≠i) h h'->K a h'):
  oT C.P (yQ t eX (.tuple #[])) h K:=
 uZ e d λa h' x y z _=>f a h' ⟨y,by rw[pP]⟩ (z.bu c i)
theorem Ni(P:Program)(_:mL h0 h c)(i:Nat){v:f7}{K:f8->g0->Prop}(d:∀a h',kM h' (grow c h.size i) i a t v.cells.toList->aP (λb=>c b≠i) h h'->K a h'):
  oT P (vC t v) h K:=
 Sn λa h' x y z _=>d a h' ⟨y,by rw[pP]⟩ (z.bu c i)
theorem kM.store(m:C.Ok)(g:kM h c i a e cs)(l:C.T.get t=dB ti)(off:Nat){v:f7}(vs:aT)(p:v.cells=vs.toArray)(k:ti.size=i0 vs)
  (f:vs.all (·.oneCell')=eX) (d:off+i0 vs<=i0 cs) {K:Unit->g0->Prop}
  (o:∀h',kM h' (grow c h.size i) i a e (cs.take off++vs++cs.drop (off+i0 vs))->aP (λb=>c b≠i) h h'->K () h'):
  au C.P (qG t (.pointer (dB (a.add off))) v) h K:=
 run_store m g.box l off vs p k f d λh' x y z=>o h' ⟨x,by rw[gQ g.box.lt];exact g.bu⟩ (y.mono λb _ j n=>j (by rw[n];exact g.bu))
theorem kM.jr(l:C.Ok)(j:kM h c i a e cs)(k:C.T.get t=dB ti){v:f7}(vs:aT)(m:v.cells=vs.toArray)(f:ti.size=i0 vs)
  (d:vs.all (·.oneCell')=eX) (g:i0 vs<=i0 cs) {K:Unit->g0->Prop}
  (n:∀h',kM h' (grow c h.size i) i a e (vs++cs.drop vs.length)->aP (λb=>c b≠i) h h'->K () h'):
  au C.P (qG t (.pointer (dB a)) v) h K:=
 j.store l k 0 vs m f d i5 (λh' x y=>n h' (by simpa using x) y)
theorem vh(r:C.Ok)(_:mL h0 h c)(i:Nat)(f:α->aT)(B:bG C.toAQ t e k z by_)(j:0<by_/\by_<=128)(d:α)(v:f d=z)(g:i0 z=k){D w:IntKind}{n q:Int}(m:Nat)(E:n=m)(s:q=m)(l:m<=2^32)
  {K:Sl->g0->Prop} (A:∀a h',dS h' (grow c h.size i) i e a k f (qi m d)->aP (λb=>c b≠i) h h'->K a h'):
  bz C.P (zA t (.int D n) (.int w q)) (.one (.sc .slc)) h K:=
 run_make r B j d v g m m E s (ql _) l λa h' x y _ z _=>A a h' ⟨x,λb u=>by obtain⟨o,p⟩:=u;rw[y]at p;cases p;rw[pP (ql _)]⟩ (z.bu c i)
theorem GD(p:C.Ok)(_:mL h0 h c)(i:Nat)(f:α->aT)(s:bG C.toAQ t e k z by_)(j:i0 z=k){n:Nat}{parts:Array (Nat×f7)}(l:List α)(u:i0 l=n)(g:n*k<=2^20)
  (a:wH (λi=>dB (i*k,k)) (iU z n).toArray parts.toList=dB (l.flatMap f).toArray) {K:Sl->g0->Prop}
  (r:∀d h',dS h' (grow c h.size i) i e d k f l->aP (λb=>c b≠i) h h'->K d h'):
  bz C.P (zL t n parts) (.one (.sc .slc)) h K:=
 JL p s j l u g a λd h' x y z _=>r d h' ⟨x,λb q=>by obtain⟨o,m⟩:=q;rw[y]at m;cases m;rw[pP (ql _)]⟩ (z.bu c i)
theorem dS.append(r:C.Ok)(g:dS h c i e s k f l)(D:bG C.toAQ t e k z by_)(o:∃i e2,C.T.get t2=dB i/\i.cG=.slice e2)(A:i0 z=k)(m:0<by_/\by_<=128)(q:∀x,i0 (f x)=k)
  (E:Seq h p v k f l2) (a:∀x,∀c∈f x,c.oneCell'=eX) (n:i0 l+i0 l2<=2^32) {ty:Nat} {K:Sl->g0->Prop}
  (B:∀d h',dS h' (grow c h.size i) i e d k f (l++l2)->aP (λb=>c b≠i) h h'->K d h'):
  bz C.P (zx #[t,t2] ty #[.slice s.ptr s.len s.cap,.slice v.ptr v.len v.cap]) (.one (.sc .slc)) h K:=
 TJ r D o A m q g.own E a n λd h' x y w=>B d h' ⟨x,λb u=>by
  rcases w b u with w|w
  ·rw[gQ (g.own.lt w)];exact g.bu b w
  ·exact pP w⟩ (y.mono λb _ j o=>j (g.bu b o))
theorem dS.set(u:C.Ok)(j:dS h c i e s k f l)(q:∀x,i0 (f x)=k)(r:C.T.get t=dB ti){x:Int}(n:Nat)(A:x=n)(E:n<i0 l){d:f7}(y:α)(D:d.cells=(f y).toArray)(o:ti.size=k)
  (g:(f y).all (·.oneCell')=eX) {K:g0->Prop} (B:∀h',dS h' (grow c h.size i) i e s k f (l.set n y)->aP (λb=>c b≠i) h h'->K h'):
  ∃a:f8,(s.ptr=dB a/\0<=x/\x<((s.len:Nat):Int))/\au C.P (qG t (.pointer (dB (a.add (x.toNat*k)))) d) h λ_ h'=>K h':=
 j.own.set u q r n A E y D o g λh' z w _=>B h' ⟨z,λb p=>by rw[gQ (j.own.lt p)];exact j.bu b p⟩ (w.mono λb _ m v=>m (j.bu b v))
end
section
variable {C:Ctx} {i e:Nat}
theorem grow_grow{c:Nat->Nat}{n m i:Nat}(h:n<=m):grow (grow c n i) m i=grow c n i:=by
 funext b;unfold grow;split
 ·rfl
 ·rw[hU i5]
theorem aP.step(a:aP (λb=>c b≠i) h h'){d:g0}(b:aP (λb=>grow c h.size i b≠i) h' d):aP (λb=>c b≠i) h d:=
 a.then b λx e f=>by rw[gQ e];exact f
theorem dS.push(F:C.Ok)(w:dS h c i e s k f l)(B:bG C.toAQ t e k z by_)(H:i0 z=k)(q:0<by_/\by_<=128)(E:∀x,i0 (f x)=k)
  (m:∀x,∀c∈f x,c.oneCell'=eX) (x:α) {parts:Array (Nat×f7)} (a:wH (λi=>dB (i*k,k)) (iU z 1).toArray parts.toList=dB ([x].flatMap f).toArray)
  (D:1*k<=2^20) (r:i0 l+1<=2^32) {ty:Nat} {K:Sl->g0->Prop}
  (M:∀n h',dS h' (grow c h.size i) i e n k f (l++[x])->aP (λb=>c b≠i) h h'->K n h'):
  bz C.P (zL t 1 parts) (.one (.sc .slc)) h λv g=>bz C.P (zx #[t,t] ty #[.slice s.ptr s.len s.cap,.slice v.ptr v.len v.cap]) (.one (.sc .slc)) g K:=by
 refine JL F B H [x] i4 D a λv g O J A _=>?_;have o:aP (λb=>c b≠i) h g:=A.bu c i;have y:dS g (grow c h.size i) i e s k f l:=⟨w.own.ae A λ_ _=>trivial,λb G=>by rw[gQ (w.own.lt G)];exact w.bu b G⟩
 have j:h.size<=g.size:=A.1;obtain⟨I,Q,N,x2,_⟩:=B.ex;refine y.append F B ⟨I,e,N,x2⟩ H q E (O.seq (p:=λ_=>True) E λ_ _=>trivial) m r λn L d u=>?_;rw[grow_grow j]at d;exact M n L d (o.step u)
structure ahG (h:g0) (c:Nat->Nat) (top lo:Nat) (e:TypeId) (s:Sl) (k:Nat) (f:α->aT) (ll:List (List α)) (rs:List Sl):Prop where
 own:dS h c top e s 1 bg rs
 len:i0 rs=i0 ll
 row:∀(i:Nat) r l,rs[i]?=dB r->ll[i]?=dB l->Seq h (λb=>b<h.size/\lo<=c b/\c b<lo+i0 ll) r k f l
theorem jQ:∀x,∀c∈bg x,c.oneCell'=eX:=by intro x c a;simp only[bg,qu]at a;subst a;rfl
end
structure ahH {α:Type} (h:g0) (r:Nat) (g:α->f7) (kvs:List (Int×α)):Prop where
 ex:∃es clock,h[r]?=dB (.map es clock)/\es.toList.map (λe=>(e.key,e.val))=kvs.map (λp=>(Value.int .i64 p.1,g p.2))
variable {P:Program} {r:Nat} {g:α->f7} {kvs:List (Int×α)}
theorem Nj(x n:Int)(b:0<n):x%n=if x.tmod n<0 then x.tmod n+n else x.tmod n:=by
 have d:=vL x b;have e:-n<x.tmod n:=Int.lt_tmod_of_pos x b;have c:=Int.tmod_add_mul_tdiv x n;have a:0<=(if x.tmod n<0 then x.tmod n+n else x.tmod n)/\(if x.tmod n<0 then x.tmod n+n else x.tmod n)<n:=by split<;>omega
 have e2:x=(if x.tmod n<0 then x.tmod n+n else x.tmod n)+n*(if x.tmod n<0 then x.tdiv n-1 else x.tdiv n):=by
  split
  ·rw[Int.mul_sub];omega
  ·omega
 conv=>lhs;rw[e2]
 rw[Int.add_mul_emod_self_left];exact Int.emod_eq_of_lt a.1 a.2
theorem aD{α:Type}(l:List α)(k:Nat)(h:k<i0 l:=by omega):l.take (k+1)=l.take k++[l[k]]:=zJ h
theorem eS:∀x,∀c∈ak x,c.oneCell'=eX:=by intro x c a;simp only[ak,qu]at a;subst a;rfl
theorem gU:∀x,∀c∈az x,c.oneCell'=eX:=by intro x c a;simp only[az,qu]at a;subst a;rfl
theorem up{h c d:g0}(a:aP (λb=>b<h.size) h c)(b:aP (λb=>b<c.size) c d):aP (λb=>b<h.size) h d:=
 a.then b λ_ e _=>qZ e a.1
theorem any{h c:g0}(a:aP (λ_=>True) h c):aP (λb=>b<h.size) h c:=a.mono λ_ _ _=>trivial
theorem Seq.up{α:Type}{h h':g0}{s:Sl}{k:Nat}{f:α->aT}{l:List α}(d:Seq h (λb=>b<h.size) s k f l)(a:aP (λb=>b<h.size) h h'):Seq h' (λb=>b<h'.size) s k f l:=
 (d.ae a).mono λ_ c=>qZ c a.1
theorem fA.up{α:Type}{h h':g0}{s:Sl}{k:Nat}{f:α->aT}{l:List (List α)}{rs:List Sl}(d:fA h (λb=>b<h.size) s k f l rs)(a:aP (λb=>b<h.size) h h'):fA h' (λb=>b<h'.size) s k f l rs:=
 (d.ae a).mono λ_ c=>qZ c a.1
theorem fA.TL{α:Type}{h:g0}{p:aw}{s:Sl}{k:Nat}{f:α->aT}{b:List (List α)}{rs:List Sl}(m:fA h p s k f b rs){i:Int}(n:Nat)(g:i=n)(o:n<i0 b){K:f8->Sl->Prop}
  (l:∀a r,f9 h (a.add (i.toNat*1))=dB (.slice r.ptr r.len r.cap)->Seq h p r k f b[n]->rs[n]?=dB r->K a r):
  ∃a:f8,(s.ptr=dB a/\0<=i/\i<((s.len:Nat):Int))/\∃x:Sl,f9 h (a.add (i.toNat*1))=dB (.slice x.ptr x.len x.cap)/\K a x:=by
 obtain⟨a,j,x,e,c,d⟩:=m.get n g o (K:=λr=>Seq h p r k f b[n]/\rs[n]?=dB r) λr c d=>⟨c,d⟩;exact⟨a,j,x,e,l a x e c d⟩
theorem Seq.drop{α:Type}{h:g0}{p:aw}{s:Sl}{w:Nat}{f:α->aT}{l:List α}(c:Seq h p s w f l)(k:Nat)(m:s.len<=s.cap):
  Seq h p ⟨if s.cap=k then s.ptr else s.ptr.map (·.add (k*w)),s.len-k,s.cap-k⟩ w f (l.drop k):=by
 have d:=c.len;refine⟨p6,λi x a=>?_⟩;rw[wP]at a;obtain⟨b,o,e,g,h3⟩:=c.elem _ x a;have j:=(qk.1 a).1;refine⟨b,o+k*w,?_,g,?_⟩
 ·dsimp only;rw[hU i5,e,qQ,add_eq]
 ·rw[show o+k*w+i*w=o+(k+i)*w by rw[Nat.add_mul];omega];exact h3
theorem Seq.take{α:Type}{h:g0}{p:aw}{s:Sl}{w:Nat}{f:α->aT}{l:List α}(b:Seq h p s w f l)(k:Nat)(c:k<=i0 l):
  Seq h p ⟨s.ptr,k,s.cap⟩ w f (l.take k):=by
 refine⟨i9,λi x a=>?_⟩;rw[vg]at a;split at a
 ·exact b.elem i x a
 ·cases a
theorem getD_lt{α:Type}{l:List α}{d:α}{i:Nat}(h:i<i0 l:=by omega):l.getD i d=l[i]:=by rw[qd,qc h];rfl
structure HP where
 p:g0->aw->Prop
 loc:∀{h h':g0} {q:aw},p h q->aP q h h'->p h' q
 mono:∀{h:g0} {q q':aw},p h q->(∀b,q b->q' b)->p h q'
def emp:HP:=⟨λ_ _=>True,λ_ _=>trivial,λ_ _=>trivial⟩
def af{α:Type}(e:TypeId)(s:Sl)(k:Nat)(f:α->aT)(l:List α):HP:=
 ⟨λh q=>Own h e s k f l/\∀b,s.on b->q b,λa d=>⟨a.1.ae d a.2,a.2⟩,λa c=>⟨a.1,λb g=>c b (a.2 b g)⟩⟩
def ac(a:f8)(e:TypeId)(b:aT):HP:=
 ⟨λh q=>bY h a e b/\q a.block,λx d=>⟨x.1.ae d x.2,x.2⟩,λx c=>⟨x.1,c _ x.2⟩⟩
def lm{α:Type}(s:Sl)(k:Nat)(f:α->aT)(l:List α):HP:=
 ⟨λh q=>Seq h q s k f l,λa c=>a.ae c,λa b=>a.mono b⟩
def fP{α:Type}(e:TypeId)(s:Sl)(k:Nat)(f:α->aT)(m:List (List α)):HP:=
 ⟨λh q=>∃(rs:List Sl) (j:aw),Own h e s 1 bg rs/\(∀b,s.on b->q b/\¬j b)/\(∀b,j b->q b)/\rs.length=i0 m/\∀(i:Nat) r l,rs[i]?=dB r->m[i]?=dB l->Seq h j r k f l,
  λ⟨rs,j,a,b,c,d,e⟩ hp=>⟨rs,j,a.ae hp λx g=>(b x g).1,b,c,d,λi r l n o=>(e i r l n o).ae (hp.mono λx _ g=>c x g)⟩,
  λ⟨rs,j,a,b,c,d,e⟩ hq=>⟨rs,j,a,λx g=>⟨hq x (b x g).1,(b x g).2⟩,λx g=>hq x (c x g),d,e⟩⟩
structure aa (B:aw) (h0 h:g0) (As:List HP):Prop where
 low:∀b,B b->b<h0.size
 ae:aP B h0 h
 ex:∃c:Nat->Nat,(∀b,B b->c b=0)/\∀(i:Nat) (A:HP),As[i]?=dB A->A.p h (λb=>b<h.size/\c b=i+1)
abbrev Sp(a h:g0)(As:List HP):Prop:=aa (λb=>b<a.size) a h As
variable {As:List HP} {A2 D:HP}
section
variable {B:aw} {Bs:List HP} {A:HP} {i:Nat}
theorem Sp.refl(h:g0):Sp h h []:=⟨λ_ h=>h,aP.refl _ _,λ_=>0,λ_ _=>rfl,λi A a=>by simp at a⟩
theorem aa.at(H:aa B h0 h As)(i:Nat)(d:As[i]?=dB A):A.p h (λb=>b<h.size):=by obtain⟨c,_,e⟩:=H.ex;exact A.mono (e i A d) λ_ a=>a.1
theorem aa.fin(H:aa B h0 h As)(i:Nat)(e:As[i]?=dB A):A.p h (λb=>¬B b/\b<h.size):=by obtain⟨c,f,g⟩:=H.ex;exact A.mono (g i A e) λb d=>⟨λa=>by have:=f b a;omega,d.1⟩
theorem Sp.fresh(H:Sp h0 h As)(i:Nat)(c:As[i]?=dB A):A.p h (λb=>h0.size<=b/\b<h.size):=
 A.mono (aa.fin H i c) λb a=>⟨i5,a.2⟩
theorem aa.comp(H:aa B h0 h As)(R:Sp h h' Bs):aa B h0 h' (As++Bs):=by
 obtain⟨j,g,p,l,m⟩:=H;obtain⟨_,e,k,n,q⟩:=R;have c:=g.1;refine⟨j,g.then e λb a _=>qZ a c,λb=>if b<h.size then p b else if k b=0 then 0 else As.length+k b,λb a=>?_,λi A d=>?_⟩
 ·dsimp only;rw[g9 (qZ (j b a) c)];exact l b a
 ·by_cases o:i<i0 As
  ·rw[qm o]at d;refine A.mono (A.loc (m i A d) (e.mono λb _ a=>a.1)) λb a=>⟨qZ a.1 e.1,?_⟩
   dsimp only;rw[g9 a.1];exact a.2
  ·rw[qh i5]at d;refine A.mono (q _ A d) λb a=>⟨a.1,?_⟩
   have:¬b<h.size:=λf=>by have:=n b f;omega
   dsimp only;rw[hU this,hU i5];omega
theorem aa.up(H:aa B h0 h As)(R:aP (λb=>b<h.size) h h'):aa B h0 h' As:=by have:=H.comp (Bs:=[]) ⟨λ_ h=>h,R,λ_=>0,λ_ _=>rfl,λi A a=>by simp at a⟩;simpa using this
theorem Sp.one(R:aP (λb=>b<h.size) h h')(d:A.p h' λb=>h.size<=b/\b<h'.size):Sp h h' [A]:=by
 refine⟨λ_ h=>h,R,λb=>if b<h.size then 0 else 1,λb a=>g9 a,λi A2 c=>?_⟩;cases i with
 |succ i=>simp at c
 |zero=>
  simp at c;subst c;exact A.mono d λb a=>⟨a.2,by dsimp only;rw[hU i5]⟩
theorem Sp.zip(R:aP (λb=>b<h.size) h h'):Sp h h' []:=aa.up (Sp.refl h) R
theorem aa.enter(q:aw)(c:Nat->Nat)(e:∀b,q b->b<h.size)(a:∀(i:Nat) (A:HP),As[i]?=dB A->A.p h λb=>q b/\c b=i+1):aa (λb=>b<h.size/\¬q b) h h As:=by
 classical
 refine⟨λb d=>d.1,aP.refl _ _,λb=>if q b then c b else 0,λb d=>hU d.2,λi A f=>A.mono (a i A f) λb d=>⟨e b d.1,?_⟩⟩;dsimp only;rw[g9 d.1];exact d.2
theorem aa.Wj(q:aw)(d:∀b,q b->b<h.size)(a:A.p h q):aa (λb=>b<h.size/\¬q b) h h [A]:=
 .enter q (λ_=>1) d λi A2 c=>by
  cases i with
  |succ i=>simp at c
  |zero=>simp at c;subst c;exact A.mono a λb e=>⟨e,i4⟩
theorem aa.BD(l:∀b,B b->b<h0.size)(f:aP B h0 h)(z:∀b,B b->c b=0)(a:∀(i:Nat) (A:HP),As[i]?=dB A->A.p h λb=>b<h.size/\c b=i+1)
  (k:aP (λb=>¬(b<h.size/\c b=i+1)) h h') (m:D.p h' λb=>b<h'.size/\((b<h.size/\c b=i+1)∨h.size<=b)):aa B h0 h' (As.set i D):=by
 refine⟨l,f.then k λb _ d n=>by have:=z b d;omega,grow c h.size (i+1),λb d=>?_,λj A e=>?_⟩
 ·rw[gQ (qZ (l b d) f.1)];exact z b d
 ·rw[qU]at e;split at e
  ·rename_i g;subst g;split at e
   ·injection e with e
    subst e;refine D.mono m λb d=>⟨d.1,?_⟩
    rcases d.2 with h1|h1
    ·rw[gQ h1.1];exact h1.2
    ·exact pP h1
   ·cases e
  ·rename_i g;refine A.mono (A.loc (a j A e) (k.mono λb _ d n=>i5)) λb d=>⟨qZ d.1 k.1,?_⟩
   rw[gQ d.1];exact d.2
theorem aa.step(H:aa B h0 h As)(i:Nat)(f:As[i]?=dB A)(k:∀q:aw,A.p h q->(∀b,q b->b<h.size)->aP (λb=>¬q b) h h'/\D.p h' λb=>b<h'.size/\(q b∨h.size<=b)):aa B h0 h' (As.set i D):=by obtain⟨e,p,c,z,a⟩:=H;obtain⟨g,j⟩:=k _ (a i A f) λb d=>d.1;exact aa.BD e p z a g j
theorem aa.eJ(H:aa B h0 h As)(i:Nat)(e:As[i]?=dB A)(f:∀q:aw,A.p h q->D.p h q):aa B h0 h (As.set i D):=
 H.step i e λq d a=>⟨aP.refl _ _,D.mono (f q d) λb c=>⟨a b c,.inl c⟩⟩
theorem aa.merge(H:aa B h0 h As)(i j:Nat)(t:i≠j)(o:As[i]?=dB A)(q:As[j]?=dB A2)
  (s:∀m l:aw,(∀b,m b->¬l b)->A.p h m->A2.p h l->D.p h λb=>m b∨l b):aa B h0 h ((As.set i D).set j emp):=by
 obtain⟨r,p,c,z,a⟩:=H;refine⟨r,p,λb=>if c b=j+1 then i+1 else c b,λb f=>?_,λk n d=>?_⟩
 ·have:=z b f;dsimp only;rw[hU i5];exact this
 ·rw[qU]at d;split at d
  ·split at d
   ·cases d;trivial
   ·cases d
  ·rename_i u;rw[qU]at d;split at d
   ·rename_i g;subst g;split at d
    ·injection d with d
     subst d;refine D.mono (s _ _ (λb e v=>i5) (a i A o) (a j A2 q)) λb f=>?_;rcases f with e|e
     ·exact⟨e.1,by dsimp only;rw[hU i5];exact e.2⟩
     ·exact⟨e.1,by dsimp only;rw[g9 e.2]⟩
    ·cases d
   ·rename_i g;refine n.mono (a k n d) λb f=>⟨f.1,?_⟩
    dsimp only;rw[hU i5];exact f.2
theorem aa.pick(H:aa B h0 h As)(f:Nat->Nat)(k:∀i j,f i=f j->i=j)(l:∀(i:Nat) (A2:HP),Bs[i]?=dB A2->As[f i]?=dB A2):aa B h0 h Bs:=by
 obtain⟨m,p,c,z,a⟩:=H
 classical
 refine⟨m,p,λb=>if e:∃i,c b=f i+1 then e.choose+1 else 0,λb e=>?_,λi A2 g=>?_⟩
 ·have:=z b e;dsimp only;rw[dif_neg];rintro⟨i,g⟩;omega
 ·refine A2.mono (a _ _ (l i A2 g)) λb e=>⟨e.1,?_⟩
  have d:∃i,c b=f i+1:=⟨i,e.2⟩
  dsimp only;rw[dif_pos d];have o:=d.choose_spec;have n:=k d.choose i i5;rw[n]
theorem aa.take(H:aa B h0 h As)(n:Nat)(a:∀(i:Nat) (A2:HP),Bs[i]?=dB A2->As[n+i]?=dB A2):aa B h0 h Bs:=H.pick (λi=>n+i) (λ_ _ h=>i5) a
end
section
variable {B:aw} {C:Ctx} {i e:Nat}
theorem aa.own(H:aa B h0 h As)(i:Nat)(a:As[i]?=dB (af e s k f l)):Own h e s k f l:=(H.at i a).1
theorem aa.seq(H:aa B h0 h As)(i:Nat)(a:As[i]?=dB (af e s k f l))(c:∀x,i0 (f x)=k):Seq h (λb=>b<h.size) s k f l:=(H.at i a).1.seq c (H.at i a).2
theorem aa.rd(H:aa B h0 h As)(i:Nat)(a:As[i]?=dB (lm s k f l)):Seq h (λb=>b<h.size) s k f l:=H.at i a
theorem aa.box(H:aa B h0 h As)(i:Nat)(b:As[i]?=dB (ac a e cs)):bY h a e cs:=(H.at i b).1
theorem aa.nr(H:aa B h0 h As)(i:Nat)(q:As[i]?=dB (af e s k f l)){β:Type}{n o:Nat}{g:β->aT}{p:List β}(m:aP (λb=>¬s.on b) h h')(r:Own h' n s o g p):aa B h0 h' (As.set i (af n s o g p)):=
 H.step i q λ_ c j=>⟨m.mono λb _ a d=>a (c.2 b d),r,λb a=>⟨qZ (j b (c.2 b a)) m.1,.inl (c.2 b a)⟩⟩
theorem aa.tw(H:aa B h0 h As)(i:Nat)(l:As[i]?=dB (ac a e cs)){c:aT}(j:aP (λb=>b≠a.block) h h')(m:bY h' a e c):aa B h0 h' (As.set i (ac a e c)):=
 H.step i l λq d g=>⟨j.mono λb _ k f=>k (by rw[f];exact d.2),m,⟨qZ (g _ d.2) j.1,.inl d.2⟩⟩
theorem aa.freeze(H:aa B h0 h As)(i:Nat)(c:As[i]?=dB (af e s k f l))(b:∀x,i0 (f x)=k):aa B h0 h (As.set i (lm s k f l)):=H.eJ i c λ_ a=>a.1.seq b a.2
theorem aa.set(m:C.Ok)(H:aa B h0 h As)(i:Nat)(g:As[i]?=dB (af e s k f l))(j:∀x,i0 (f x)=k)(o:C.T.get t=dB ti){x:Int}(n:Nat)(p:x=n)(u:n<i0 l){b:f7}(y:α)(r:b.cells=(f y).toArray)(d:ti.size=k)
  (c:(f y).all (·.oneCell')=eX) {K:g0->Prop} (q:∀h',aa B h0 h' (As.set i (af e s k f (l.set n y)))->K h'):
  ∃a:f8,(s.ptr=dB a/\0<=x/\x<((s.len:Nat):Int))/\au C.P (qG t (.pointer (dB (a.add (x.toNat*k)))) b) h λ_ h'=>K h':=
 (H.own i g).set m j o n p u y r d c λh' z w _=>q h' (H.nr i g w z)
theorem aa.push(E:C.Ok)(H:aa B h0 h As)(i:Nat)(D:As[i]?=dB (af e s k f l))(Q:bG C.toAQ t e k z by_)(N:i0 z=k)(p:0<by_/\by_<=128)(A:∀x,i0 (f x)=k)
  (m:∀x,∀c∈f x,c.oneCell'=eX) (x:α) {parts:Array (Nat×f7)} (g:wH (λi=>dB (i*k,k)) (iU z 1).toArray parts.toList=dB ([x].flatMap f).toArray)
  (u:1*k<=2^20) (q:i0 l+1<=2^32) {ty:Nat} {K:Sl->g0->Prop}
  (O:∀o h',aa B h0 h' (As.set i (af e o k f (l++[x])))->K o h'):
  bz C.P (zL t 1 parts) (.one (.sc .slc)) h λv I=>bz C.P (zx #[t,t] ty #[.slice s.ptr s.len s.cap,.slice v.ptr v.len v.cap]) (.one (.sc .slc)) I K:=by
 obtain⟨M,F,c,y,a⟩:=H;have w:=a i _ D;have J:dS h c (i+1) e s k f l:=⟨w.1,λb j=>(w.2 b j).2⟩
 refine J.push E Q N p A m x g u q λo h' d r=>O o h' ?_;refine aa.BD M F y a (r.mono λb j L G=>L ⟨j,G⟩) ⟨d.own,λb j=>⟨d.own.lt j,?_⟩⟩;have:=d.bu b j;by_cases n:b<h.size
 ·rw[gQ n]at this;exact .inl ⟨n,this⟩
 ·exact .inr i5
theorem aa.append(D:C.Ok)(H:aa B h0 h As)(i:Nat)(A:As[i]?=dB (af e s k f l))(O:bG C.toAQ t e k z by_)(I:∃i e2,C.T.get t2=dB i/\i.cG=.slice e2)(M:i0 z=k)(o:0<by_/\by_<=128)(y:∀x,i0 (f x)=k)
  (Q:Seq h p v k f l2) (j:∀x,∀c∈f x,c.oneCell'=eX) (q:i0 l+i0 l2<=2^32) {ty:Nat} {K:Sl->g0->Prop}
  (N:∀n h',aa B h0 h' (As.set i (af e n k f (l++l2)))->K n h'):
  bz C.P (zx #[t,t2] ty #[.slice s.ptr s.len s.cap,.slice v.ptr v.len v.cap]) (.one (.sc .slc)) h K:=by
 obtain⟨L,E,c,w,a⟩:=H;have u:=a i _ A;have G:dS h c (i+1) e s k f l:=⟨u.1,λb g=>(u.2 b g).2⟩
 refine G.append D O I M o y Q j q λn h' d r=>N n h' ?_;refine aa.BD L E w a (r.mono λb g J F=>J ⟨g,F⟩) ⟨d.own,λb g=>⟨d.own.lt g,?_⟩⟩;have:=d.bu b g;by_cases m:b<h.size
 ·rw[gQ m]at this;exact .inl ⟨m,this⟩
 ·exact .inr i5
theorem JM{h h':g0}{n:Nat}(i:n=h.size)(d:Own h' e s k f l)(g:s.ptr=dB ⟨n,0,eH⟩)(c:aP (λ_=>True) h h'):Sp h h' [af e s k f l]:=
 .one (any c) ⟨d,λb a=>⟨by obtain⟨o,a⟩:=a;rw[g]at a;cases a;omega,d.lt a⟩⟩
theorem aa.make(p:C.Ok)(H:aa B h0 h As)(f:α->aT)(v:bG C.toAQ t e k z by_)(g:0<by_/\by_<=128)(c:α)(r:f c=z)(d:i0 z=k){A s:IntKind}{n l:Int}(m b:Nat)(D:n=m)(q:l=b)(j:m<=b)(i:b<=2^32)
  {K:Sl->g0->Prop} (u:∀a h',a.len=m->a.cap=b->aa B h0 h' (As++[af e a k f (qi m c)])->K a h'):
  bz C.P (zA t (.int A n) (.int s l)) (.one (.sc .slc)) h K:=
 run_make p v g c r d m b D q j i λa h' x y w o _=>u a h' (by rw[x.len];simp) w (H.comp (JM i4 x y o))
theorem aa.lit(j:C.Ok)(H:aa B h0 h As)(f:α->aT)(o:bG C.toAQ t e k z by_)(d:i0 z=k){n:Nat}{parts:Array (Nat×f7)}(l:List α)(p:i0 l=n)(c:n*k<=2^20)
  (a:wH (λi=>dB (i*k,k)) (iU z n).toArray parts.toList=dB (l.flatMap f).toArray) {K:Sl->g0->Prop}
  (m:∀b h',aa B h0 h' (As++[af e b k f l])->K b h'):
  bz C.P (zL t n parts) (.one (.sc .slc)) h K:=
 JL j o d l p c a λb h' x y g _=>m b h' (H.comp (JM i4 x y g))
theorem JN{h h':g0}(d:a.block=h.size)(c:bY h' a e cs)(b:aP (λ_=>True) h h'):Sp h h' [ac a e cs]:=
 .one (any b) ⟨c,i5,c.lt⟩
theorem aa.alloc(d:C.Ok)(H:aa B h0 h As)(c:C.T.get t=dB ti){K:f8->g0->Prop}(e:∀a h',aa B h0 h' (As++[ac a t ti.zero])->K a h'):
  oT C.P (yQ t eX (.tuple #[])) h K:=
 uZ d c λa h' x y b _=>e a h' (H.comp (JN x y b))
theorem aa.boxed(H:aa B h0 h As){P:Program}{v:f7}{K:f8->g0->Prop}(c:∀a h',aa B h0 h' (As++[ac a t v.cells.toList])->K a h'):
  oT P (vC t v) h K:=
 Sn λa h' x y b _=>c a h' (H.comp (JN x y b))
theorem aa.store(j:C.Ok)(H:aa B h0 h As)(i:Nat)(f:As[i]?=dB (ac a e cs))(g:C.T.get t=dB ti)(off:Nat){v:f7}(vs:aT)(k:v.cells=vs.toArray)(d:ti.size=i0 vs)
  (c:vs.all (·.oneCell')=eX) (b:off+i0 vs<=i0 cs) {K:Unit->g0->Prop}
  (l:∀h',aa B h0 h' (As.set i (ac a e (cs.take off++vs++cs.drop (off+i0 vs))))->K () h'):
  au C.P (qG t (.pointer (dB (a.add off))) v) h K:=
 run_store j (H.box i f) g off vs k d c b λh' x y _=>l h' (H.tw i f y x)
theorem aa.jr(j:C.Ok)(H:aa B h0 h As)(i:Nat)(g:As[i]?=dB (ac a e cs))(f:C.T.get t=dB ti){v:f7}(vs:aT)(k:v.cells=vs.toArray)(c:ti.size=i0 vs)
  (b:vs.all (·.oneCell')=eX) (d:i0 vs<=i0 cs) {K:Unit->g0->Prop}
  (l:∀h',aa B h0 h' (As.set i (ac a e (vs++cs.drop vs.length)))->K () h'):
  au C.P (qG t (.pointer (dB a)) v) h K:=
 H.store j i g f 0 vs k c b i5 (λh' x=>l h' (by simpa using x))
theorem aa.nil(H:aa B h0 h As)(e k:Nat)(f:α->aT):aa B h0 h (As++[af e ⟨eH,0,0⟩ k f []]):=
 H.comp (.one (aP.refl _ _) ⟨Own.nil h e k f,λb a=>by obtain⟨o,a⟩:=a;cases a⟩)
theorem aa.HU(H:aa B h0 h As)(e k:Nat)(f:α->aT):aa B h0 h (As++[fP e ⟨eH,0,0⟩ k f []]):=
 H.comp (.one (aP.refl _ _) ⟨[],λ_=>False,Own.nil h e 1 bg,λb a=>(by obtain⟨o,a⟩:=a;cases a),λ_ a=>a.elim,rfl,λi r l h=>mn⟩)
theorem aa.tz(Z:C.Ok)(H:aa B h0 h As)(i j:Nat)(z:i≠j){I:List (List α)}{r:Sl}{x:List α}(T:As[i]?=dB (fP e s k f I))(hj:As[j]?=dB (lm r k f x))(he:bG C.toAQ t e 1 [.slice eH 0 0] 24)
  (ab:i0 I+1<=2^32) {ty:Nat} {K:Sl->g0->Prop} (hk:∀O h',aa B h0 h' ((As.set j emp).set i (fP e O k f (I++[x])))->K O h'):
  bz C.P (zL t 1 #[(0,.slice r.ptr r.len r.cap)]) (.one (.sc .slc)) h λv p=>bz C.P (zx #[t,t] ty #[.slice s.ptr s.len s.cap,.slice v.ptr v.len v.cap]) (.one (.sc .slc)) p K:=by
 have H2:=H.merge i j z T hj (D:=⟨λh q=>∃(rs:List Sl) (g:aw),Own h e s 1 bg rs/\(∀b,s.on b->q b/\¬g b)/\(∀b,g b->q b)/\rs.length=i0 I/\(∀(i:Nat) r l,rs[i]?=dB r->I[i]?=dB l->Seq h g r k f l)/\Seq h g r k f x,
  λ⟨rs,g,a,b,c,d,e,f⟩ hp=>⟨rs,g,a.ae hp λx n=>(b x n).1,b,c,d,λi r l p y=>(e i r l p y).ae (hp.mono λx _ n=>c x n),f.ae (hp.mono λx _ n=>c x n)⟩,
  λ⟨rs,g,a,b,c,d,e,f⟩ hq=>⟨rs,g,a,λx n=>⟨hq x (b x n).1,(b x n).2⟩,λx n=>hq x (c x n),d,e,f⟩⟩)
  (λg X Y hA hB=>by
   obtain⟨rs,V,a,b,c,d,e'⟩:=hA;refine⟨rs,λb=>V b∨X b,a,λx n=>⟨.inl (b x n).1,λN=>N.elim (b x n).2 (Y x (b x n).1)⟩,λx n=>n.elim (λh=>.inl (c x h)) .inr,d,λi r l p y=>(e' i r l p y).mono λ_ h=>.inl h,Seq.mono hB λ_ h=>.inr h⟩)
 have o:i<i0 As:=(qk.1 T).1;obtain⟨lo,pp,c,W,a⟩:=H2;have ha:=a i _ (by rw[zF (Ne.symm z),zk o]);obtain⟨rs,g,a1,a2,a3,a4,a5,a6⟩:=ha;let S:Nat->Nat:=λb=> @ite _ (g b) (Classical.propDecidable _) (i0 As+2) (c b);have G:∀b,g b->b<h.size/\c b=i+1:=a3;have ho:dS h S (i+1) e s 1 bg rs:=⟨a1,λb m=>by
  have:=a2 b m;show @ite _ (g b) (Classical.propDecidable _) _ _=_;rw[hU this.2];exact this.1.2⟩
 refine ho.push Z he i4 i6 (λ_=>rfl) jQ r i4 i6 i5 λO h' A F=>hk O h' ?_;rw[vJ _ _ (Ne.symm z)];rw[<-yy (l:=As) (i:=i),vJ _ _ z];have J:∀b,g b->S b≠i+1:=λb m=>by
  show @ite _ (g b) (Classical.propDecidable _) _ _≠_;rw[g9 m];omega
 refine aa.BD lo pp W a (F.mono λb m hn hc=>hn ⟨m,?_⟩) ⟨rs++[r],λb=>g b/\b<h.size,A.own,λb m=>?_,λb m=>⟨qZ m.2 F.1,.inl ⟨m.2,(G b m.1).2⟩⟩,by simp[a4],λR r' l' p y=>?_⟩
 ·by_cases E:g b
  ·exact(G b E).2
  ·have w:@ite _ (g b) (Classical.propDecidable _) (i0 As+2) (c b)=i+1:=hc;rw[hU E]at w;exact w
 ·have u:=A.bu b m;by_cases o:b<h.size
  ·rw[gQ o]at u;have L:¬g b:=λE=>J b E u;have w:@ite _ (g b) (Classical.propDecidable _) (i0 As+2) (c b)=i+1:=u;rw[hU L]at w;exact⟨⟨A.own.lt m,.inl ⟨o,w⟩⟩,λN=>L N.1⟩
  ·exact⟨⟨A.own.lt m,.inr i5⟩,λN=>o N.2⟩
 ·have M:∀{U:Sl} {l:List α},Seq h g U k f l->Seq h' (λb=>g b/\b<h.size) U k f l:=λhs=>
   (hs.mono (q:=λb=>g b/\b<h.size) λb m=>⟨m,(G b m).1⟩).ae (F.mono λb _ m=>J b m.1)
  by_cases Q:R<i0 rs
  ·rw[qm Q]at p;rw[qm i5]at y;exact M (a5 R r' l' p y)
  ·have:R=i0 rs:=by have:=(qk.1 p).1;simp at this;omega
   subst this;simp at p;rw[a4]at y;simp at y;subst p;subst y;exact M a6
theorem aa.rows(H:aa B h0 h As)(i:Nat){g:List (List α)}(m:As[i]?=dB (fP e s k f g)):∃rs,fA h (λb=>b<h.size) s k f g rs:=by obtain⟨rs,p,a,b,c,d,e⟩:=H.at i m;exact⟨rs,a.seq (λ_=>rfl) λx j=>(b x j).1,d,λi r l n o=>(e i r l n o).mono c⟩
end
theorem ZQ(vs:aT):∀(pre old post:aT),i0 old=i0 vs->((vs.zipIdx 0).foldl (λ(cs:Array f7) (p:f7×Nat)=>cs.setIfInBounds (i0 pre+p.2) p.1) (pre++old++post).toArray)=(pre++vs++post).toArray:=by
 have b:∀(vs pre old post:aT) (k:Nat),i0 old=i0 vs->i0 pre=i0 pre->∀n,n+k=i0 pre->((vs.zipIdx k).foldl (λ(cs:Array f7) (p:f7×Nat)=>cs.setIfInBounds (n+p.2) p.1) (pre++old++post).toArray)=(pre++vs++post).toArray:=by
  intro vs
  induction vs with
  |nil=>intro pre old post k a _ n _;rw[q9 a];rfl
  |cons v vs ih=>
   intro pre old post k a _ n c;cases old with
   |nil=>simp at a
   |cons u old=>
    rw[List.zipIdx_cons,zy];have e:(pre++(u::old)++post).toArray.setIfInBounds (n+k) v=((pre++[v])++old++post).toArray:=by rw[c];apply yI;simp
    dsimp only;rw[e,ih (pre++[v]) old post (k+1) k7 i4 n i9];simp
 intro pre old post h;exact b vs pre old post 0 h i4 pre.length i5
theorem Nk{a:Nat->Option (Nat×Nat)}{i:Nat}{v:f7}{vs pre old post:aT}{rest:List (Nat×f7)}(d:v.cells=vs.toArray)(b:a i=dB (i0 pre,i0 vs))(c:i0 old=i0 vs):
  wH a (pre++old++post).toArray ((i,v)::rest)=wH a (pre++vs++post).toArray rest:=by
 conv=>lhs;unfold wH
 simp only[b,d];rw[hU i9];congr 1;have:=ZQ vs pre old post c;simpa using this
section
variable {C:Ctx}
theorem Ds(c:C.Ok)(l:C.T.get t=dB i){m:List (Nat×TypeId)}(j:i.cG=.struct m){ps:List (Nat×Nat)}(h:placesOf C.T m=dB ps){vs:List (Nat×f7)}{cells:Array f7}
  (a:wH (λn=>ps[n]?) i.zero.toArray vs=dB cells):aH C.P (Instr.build t vs.toArray) (.agg cells):=by
 obtain⟨z,p,d⟩:=rx c.toOk l;have b:i.zero.toArray=z.cells:=by rw[<-d]
 have k:=c.cG l;rw[j]at k;obtain⟨q,o,rfl⟩:=oR k;refine p.bind ((aG o).bind ?_);have e:aH C.P (q.mapM λf=>(do pure (f.offset,<-sizeOf f.type):Sem (Nat×Nat))) ps.toArray:=by rw[Array.mapM_eq_mapM_toList];intro w;have:=tO c.toOk h w;rw[map_eq_pure_bind,Sem.run_bind,this];rfl
 refine e.bind ?_;have g:wH (λn=>ps.toArray[n]?) z.cells vs.toArray.toList=dB cells:=by rw[<-b];simpa using a
 rw[g];exact .pure
end
theorem take_set{α:Type}(l:List α)(n:Nat)(x:α)(h:n<i0 l):l.take n++[x]++l.drop (n+1)=l.set n x:=by rw[ye,g9 h];simp
section
variable {B:aw} {C:Ctx} {e:Nat}
theorem aa.storeAt(j:C.Ok)(H:aa B h0 h As)(i:Nat)(g:As[i]?=dB (ac a e cs))(f:C.T.get t=dB ti){off:Nat}{v:f7}(k:v.cells=#[v])(d:ti.size=1)
  (c:v.oneCell'=eX) (b:off<i0 cs) {K:Unit->g0->Prop}
  (l:∀h',aa B h0 h' (As.set i (ac a e (cs.set off v)))->K () h'):
  au C.P (qG t (.pointer (dB (a.add off))) v) h K:=
 H.store j i g f off [v] k d m7 i9 λh' x=>l h' (by rw[<-take_set _ _ _ b];simpa using x)
theorem aa.storeAll(j:C.Ok)(H:aa B h0 h As)(i:Nat)(g:As[i]?=dB (ac a e cs))(f:C.T.get t=dB ti){v:f7}(vs:aT)(k:v.cells=vs.toArray)(c:ti.size=i0 vs)
  (b:vs.all (·.oneCell')=eX) (d:i0 vs=i0 cs) {K:Unit->g0->Prop}
  (l:∀h',aa B h0 h' (As.set i (ac a e vs))->K () h'):
  au C.P (qG t (.pointer (dB a)) v) h K:=
 H.jr j i g f vs k c b i5 λh' x=>l h' (by rw[zc i5,qE]at x;exact x)
end
theorem sS(n:Nat)(a:n<=9223372036854775807:=by omega):qe xL (n:Int)=n:=ai _
abbrev Rd{α:Type}(h:g0)(s:Sl)(k:Nat)(f:α->aT)(l:List α):Prop:=Seq h (λb=>b<h.size) s k f l
abbrev eT{α:Type}(h:g0)(s:Sl)(k:Nat)(f:α->aT)(a:List (List α)):Prop:=∃rs,fA h (λb=>b<h.size) s k f a rs
section
variable {B:aw} {e:Nat}
theorem eT.up(a:eT h s k f ll)(c:aP (λb=>b<h.size) h h'):eT h' s k f ll:=by obtain⟨rs,a⟩:=a;exact⟨rs,fA.up a c⟩
theorem eT.len(a:eT h s k f ll):s.len=i0 ll:=by obtain⟨rs,a⟩:=a;exact a.GB
theorem eT.get(b:eT h s k f ll){i:Int}(n:Nat)(c:i=n)(g:n<i0 ll){K:Sl->Prop}(e:∀r,Rd h r k f ll[n]->K r):
  ∃a:f8,(s.ptr=dB a/\0<=i/\i<((s.len:Nat):Int))/\∃x:Sl,f9 h (a.add (i.toNat*1))=dB (.slice x.ptr x.len x.cap)/\K x:=by
 obtain⟨rs,b⟩:=b;exact b.get n c g λr d _=>e r d
theorem Seq.isSome{p:aw}(c:Seq h p s k f l)(d:l≠[]):s.ptr.isNone=fz:=by
 cases l with
 |nil=>exact absurd i4 d
 |cons x t=>obtain⟨b,o,a,_⟩:=c.elem 0 x jj;rw[a];rfl
theorem Seq.isNil{p:aw}(b:Seq h p s k f l)(a:s.ptr.isNone=eX):l=[]:=by
 cases l with
 |nil=>rfl
 |cons x t=>rw[b.isSome jj]at a;cases a
theorem aa.Dt(H:aa B h0 h As)(i:Nat)(a:As[i]?=dB (fP e s k f ll)):eT h s k f ll:=H.rows i a
end
section
variable {B:aw} {Bs:List HP} {A:HP}
theorem aa.del(H:aa B h0 h As)(i:Nat):aa B h0 h (As.eraseIdx i):=
 H.pick (λj=>if j<i then j else j+1) (λa b d=>by split at d<;>split at d<;>omega) λj A e=>by
  rw[List.getElem?_eraseIdx]at e;split at e
  ·rename_i c;rw[g9 c];exact e
  ·rename_i c;rw[hU c];exact e
theorem aa.call(H:aa B h0 h As)(i:Nat)(w:As[i]?=dB A)(q:aw)(K:∀q':aw,A.p h q'->∀b,q b->q' b)(R:aa (λb=>b<h.size/\¬q b) h h' (D::Bs)):aa B h0 h' (As.set i D++Bs):=by
 classical
 obtain⟨F,z,g,u,x⟩:=H;obtain⟨_,t,j,I,G⟩:=R;have s:=z.1;have E:=(qk.1 w).1;have o:∀b,q b->b<h.size/\g b=i+1:=K _ (x i A w);have v:∀b,B b->b<h.size/\¬q b:=λb a=>⟨qZ (F b a) s,λr=>by have:=u b a;have:=o b r;omega⟩
 let c:Nat->Nat:=λb=>if b<h.size/\¬q b then(if g b=i+1 then 0 else g b)else if j b=0 then 0 else if j b=1 then i+1 else As.length+j b-1
 have e:∀b,b<h.size/\¬q b->g b≠i+1->c b=g b:=λb a L=>by show ite _ _ _=_;rw[g9 a,hU L]
 have f:∀b,j b≠0->c b=if j b=1 then i+1 else As.length+j b-1:=λb a=>by
  have:¬(b<h.size/\¬q b):=λr=>a (I b r);show ite _ _ _=_;rw[hU this,hU a]
 refine⟨F,z.then t λb _ a=>v b a,c,λb a=>?_,λk m d=>?_⟩
 ·have:=u b a;rw[e b (v b a) i5];exact this
 ·by_cases y:k<i0 As
  ·rw[qm q0,qU]at d;split at d
   ·rename_i n;subst n;injection d with d
    subst d;refine D.mono (G 0 D i4) λb a=>⟨a.1,?_⟩
    rw[f b i5,g9 a.2]
   ·rename_i n;have l:∀b,b<h.size/\g b=k+1->b<h.size/\¬q b:=λb a=>⟨a.1,λr=>by have:=o b r;omega⟩
    refine m.mono (m.loc (x k m d) (t.mono λb _ a=>l b a)) λb a=>⟨qZ a.1 t.1,?_⟩
    rw[e b (l b a) i5];exact a.2
  ·rw[qh q0]at d;rw[zC]at d;have J:=G (k-i0 As+1) m m8;refine m.mono J λb a=>⟨a.1,?_⟩
   rw[f b i5,hU i5];omega
end
section
variable {B:aw} {Bs:List HP} {A:HP} {e:Nat}
theorem aa.off(H:aa B h0 h As)(i j:Nat)(n:i≠j)(m:As[i]?=dB (af e s k f l))(o:As[j]?=dB A):A.p h (λb=>b<h.size/\¬s.on b):=by
 obtain⟨_,_,c,_,a⟩:=H;refine A.mono (a j A o) λb g=>⟨g.1,λd=>?_⟩
 have:=(a i _ m).2 b d;omega
theorem aa.base(H:aa B h0 h As)(i:Nat)(j:As[i]?=dB (af e s k f l)){b:Nat}(g:B b):¬s.on b:=λd=>by
 obtain⟨_,_,c,z,a⟩:=H;have:=(a i _ j).2 b d;have:=z b g;omega
theorem aa.afa(H:aa B h0 h (As++[D]))(i:Nat)(k:i<i0 As):aa B h0 h (As.set i D):=
 H.pick (λj=>if j<i0 As then(if j=i then As.length else j)else j+1) (λa b c=>by split at c<;>split at c<;>(try split at c)<;>(try split at c)<;>omega) λj A e=>by
  have f:j<i0 As:=by have:=(qk.1 e).1;simpa using this
  rw[g9 f];rw[qU]at e;split at e
  ·rename_i d;subst d;rw[g9 i4,qh (ql _),qW];exact e
  ·rename_i d;rw[hU λg=>d g.symm,qm f];exact e
theorem aa.aci(H:aa B h0 h As)(i j:Nat){A2:HP}(m:As[i]?=dB A)(n:As[j]?=dB A2):aa B h0 h ((As.set i A2).set j A):=by
 have k:=(qk.1 m).1;have g:=(qk.1 n).1;refine H.pick (λx=>if x=j then i else if x=i then j else x) (λa b c=>by split at c<;>split at c<;>(try split at c)<;>(try split at c)<;>omega) λx o d=>?_;rw[qU,qU]at d;by_cases e:j=x
 ·subst e;simp[g]at d;subst d;simpa using m
 ·by_cases l:i=x
  ·subst l;simp[e,k]at d;subst d;rw[hU λf=>e f.symm,g9 rfl];exact n
  ·simp[e,l]at d;rw[hU λf=>e f.symm,hU λf=>l f.symm];exact d
end
def bv{α:Type}(e k:Nat)(f:α->aT)(rs:List Sl)(a:List (List α)):List HP:=zf (λr l=>af e r k f l) rs a
section
variable {e:Nat}
theorem FU(h:i0 rs=i0 ll):i0 (bv e k f rs ll)=i0 ll:=by simp[bv,h]
theorem ie(h:i0 rs=i0 ll)(i:Nat)(b:i<i0 ll):(bv e k f rs ll)[i]?=dB (af e (rs[i]'(by omega)) k f ll[i]):=by
 have a:i<i0 rs:=i5
 simp[bv,zH,qc b,qc a]
theorem tZ(h:i0 rs=i0 ll)(r:Sl)(l:List α):bv e k f (rs++[r]) (ll++[l])=bv e k f rs ll++[af e r k f l]:=by unfold bv;rw[yM h];rfl
theorem kN(h:i0 rs=i0 ll)(i:Nat)(r:Sl)(l:List α):(bv e k f rs ll).set i (af e r k f l)=bv e k f (rs.set i r) (ll.set i l):=by
 apply zq;intro j;simp only[bv,qU,zH,List.length_zipWith];by_cases a:i=j
 ·subst a;by_cases b:i<i0 ll
  ·have:i<i0 rs:=i5
   simp[b,this];omega
  ·have:¬i<i0 rs:=i5
   simp[b];omega
 ·simp[a]
theorem Nl(h:i0 rs=i0 ll)(i:Nat)(a:i<i0 ll)(l:List α):(bv e k f rs ll).set i (af e (rs[i]'(by omega)) k f l)=bv e k f rs (ll.set i l):=by rw[kN h,List.set_getElem_self]
theorem aa.Nm{B:aw}{n h:g0}{s:Sl}{a:Nat}(H:aa B n h (af a s 1 bg rs::bv e k f rs ll))(d:i0 rs=i0 ll)(j:∀x,i0 (f x)=k):eT h s k f ll:=by
 refine⟨rs,H.seq 0 i4 λ_=>rfl,d,λi r l g b=>?_⟩;have c:i<i0 ll:=(qk.1 b).1;have m:=ie (e:=e) (k:=k) (f:=f) d i c;have h3:=H.seq (i+1) m0 j;have a:rs[i]'(by omega)=r:=by rw[qc i5]at g;simpa using g
 have e2:ll[i]=l:=by rw[qc c]at b;simpa using b
 rw[a,e2]at h3;exact h3
end
theorem Seq.mE{X:Type}{g:X->f7}(e:Seq h p s 1 f l){i:Int}(n:Nat)(j:i=n)(r:n<i0 l)(x:X)(m:f l[n]=[g x]){K:f8->X->Prop}(q:∀a:f8,f9 h (a.add (i.toNat*1))=dB (g x)->K a x):
  ∃a:f8,(s.ptr=dB a/\0<=i/\i<((s.len:Nat):Int))/\∃x:X,f9 h (a.add (i.toNat*1))=dB (g x)/\K a x:=by
 subst j;obtain⟨b,o,k,_,h3⟩:=e.elem n l[n] (qc r);rw[m]at h3;have d:=h3.1;rw[add_eq,w9]at d;have c:f9 h ((⟨b,o,eH⟩:f8).add ((n:Int).toNat*1))=dB (g x):=by rw[add_eq];simpa using d
 exact⟨_,⟨k,i5,by rw[e.len];omega⟩,x,c,q _ c⟩
theorem Seq.mB{h:g0}{p:aw}{s:Sl}{rs:List Sl}(e:Seq h p s 1 bg rs){i:Int}(n:Nat)(f:i=n)(l:n<i0 rs){K:f8->Sl->Prop}
  (k:∀a:f8,f9 h (a.add (i.toNat*1))=dB (.slice rs[n].ptr rs[n].len rs[n].cap)->p (a.add (i.toNat*1)).block->K a rs[n]):
  ∃a:f8,(s.ptr=dB a/\0<=i/\i<((s.len:Nat):Int))/\∃x:Sl,f9 h (a.add (i.toNat*1))=dB (.slice x.ptr x.len x.cap)/\K a x:=by
 subst f;obtain⟨b,o,g,j,h3⟩:=e.elem n rs[n] (qc l);have d:=h3.1;rw[add_eq,w9]at d;have c:f9 h ((⟨b,o,eH⟩:f8).add ((n:Int).toNat*1))=dB (.slice rs[n].ptr rs[n].len rs[n].cap):=by rw[add_eq];simpa using d
 exact⟨_,⟨g,i5,by rw[e.len];omega⟩,rs[n],c,k _ c (by rw[add_eq];exact j)⟩
section
variable {B:aw} {e:Nat}
theorem Own.cut(a:Own h e s k f l)(c:∀x,i0 (f x)=k)(j:Nat)(d:j<=i0 l):Own h e ⟨s.ptr,j,s.cap⟩ k f (l.take j):=by
 have g:=a.len;refine⟨i9,?_⟩;rcases a.head with⟨h1,h2,h3⟩|⟨b,rest,h1,h2,h3,h4⟩
 ·subst h3;exact .inl ⟨h1,h2,jj⟩
 ·refine .inr ⟨b,(l.drop j).flatMap f++rest,h1,?_,?_,i7⟩
  ·rw[<-qn,<-qY,qC];exact h2
  ·rw[qw,dl c,zb,h3,<-Nat.add_mul];dsimp only;congr 1;omega
theorem aa.cut(H:aa B h0 h As)(i:Nat)(c:As[i]?=dB (af e s k f l))(b:∀x,i0 (f x)=k)(j:Nat)(d:j<=i0 l):aa B h0 h (As.set i (af e ⟨s.ptr,j,s.cap⟩ k f (l.take j))):=
 H.eJ i c λ_ a=>⟨a.1.cut b j d,a.2⟩
end
section
variable {B:aw} {C:Ctx} {e:Nat}
end
section
variable {C:Ctx} {ty e:Nat} {B:aw}
theorem Own.HV(D:C.Ok)(E:bG C.toAQ t e k z by_)(j:∀x,i0 (f x)=k)(q:Own h e s k f l)(F:Seq h p v k f l2)(g:∀x,∀c∈f x,c.oneCell'=eX){K:Int->g0->Prop}
  (y:∀n h',Own h' e s k f (l2.take l.length++l.drop l2.length)->aP (λb=>¬s.on b) h h'->K n h'):
  bz C.P (yg #[t,t2] ty #[.slice s.ptr s.len s.cap,.slice v.ptr v.len v.cap]) (.one (.sc (.int .i64))) h K:=by
 unfold bz yg;simp only[zU,yb,qp];refine au.bind (au.always (aG (E.under D)) ?_);refine au.bind (au.pure' ?_);refine au.bind (au.always (E.size D) ?_);have a:=q.len;have d:=F.len;obtain⟨m,i⟩:∃m,m=Nat.min v.len s.len:=⟨_,rfl⟩
 rw[<-i];have B:m<=i0 l2:=by rw[i,<-d];exact Nat.min_le_left _ _
 have o:m<=i0 l:=by rw[i,<-a];exact vZ _ _
 have I:m=min l2.length l.length:=by rw[i,a,d]
 have r:=F.take m B;have H:l2.take l.length++l.drop l2.length=l2.take m++l.drop m:=by
  rcases Nat.le_total l2.length l.length with hh|hh
  ·rw[qg hh,show m=i0 l2 by omega,qN]
  ·rw[show m=i0 l by omega,zc hh,List.drop_length]
 rw[H]at y;have u:wO k m (.slice v.ptr v.len v.cap)=wO k m (.slice v.ptr m v.cap):=by cases v.ptr<;>rfl
 rw[u];refine au.bind (fX (v:=⟨v.ptr,m,v.cap⟩) j r ?_);rcases q.head with⟨h1,h2,h3⟩|⟨b,rest,h1,h2,h3,h4⟩
 ·rw[h1];subst h3;have:m=0:=by simpa using o
  subst this;refine au.pure' ⟨_,i4,y _ h ?_ (aP.refl _ _)⟩;simpa using q
 ·rw[h1];refine au.bind ?_;have A:l.flatMap f++rest=(l.take m).flatMap f++((l.drop m).flatMap f++rest):=by rw[<-qn,<-qY,qC]
  rw[A]at h2;refine eO (e:=e) (pre:=[]) (old:=(l.take m).flatMap f) (post:=(l.drop m).flatMap f++rest) (by simpa using h2) (by rw[dl j,dl j,qR,qR];congr 1;omega) i4 ?_ ?_
  ·intro c G;obtain⟨x,_,w⟩:=zE.1 G;exact g x c w
  ·refine au.pure' ⟨_,i4,y _ _ ⟨by rw[a,qw,qR,zb];omega,.inr ⟨b,rest,h1,?_,h3,h4⟩⟩ (aP.jk h2 λJ=>J ⟨0,h1⟩)⟩;rw[ij h2,g9 i4,qY];simp
theorem aa.HV(j:C.Ok)(H:aa B h0 h As)(i:Nat)(b:As[i]?=dB (af e s k f l))(g:bG C.toAQ t e k z by_)(d:∀x,i0 (f x)=k)(m:Seq h p v k f l2)(a:∀x,∀c∈f x,c.oneCell'=eX){K:Int->g0->Prop}
  (o:∀n h',aa B h0 h' (As.set i (af e s k f (l2.take l.length++l.drop l2.length)))->K n h'):
  bz C.P (yg #[t,t2] ty #[.slice s.ptr s.len s.cap,.slice v.ptr v.len v.cap]) (.one (.sc (.int .i64))) h K:=
 (H.own i b).HV j g d m a λn h' x y=>o n h' (H.nr i b y x)
end
def JO(d:Sl)(w i:Nat):Sl:=⟨if d.cap=i*w then d.ptr else d.ptr.map (·.add (i*w*1)),(i+1)*w-i*w,d.cap-i*w⟩
def Du{α:Type}(l:List α)(w i:Nat):List α:=(l.drop (i*w)).take w
theorem Seq.piece{α:Type}{h:g0}{p:aw}{s:Sl}{f:α->aT}{l:List α}(d:Seq h p s 1 f l)(a:s.len<=s.cap)(w i:Nat)(g:(i+1)*w<=i0 l):Seq h p (JO s w i) 1 f (Du l w i):=by
 have b:=d.drop (i*w) a;have e:(i+1)*w=i*w+w:=zP i w;have c:=b.take w l9;have e2:(i+1)*w-i*w=w:=i5
 unfold JO Du;rw[e2];exact c
theorem adm{α:Type}{l:List α}{w i:Nat}(a:(i+1)*w<=i0 l):i0 (Du l w i)=w:=by have e:(i+1)*w=i*w+w:=zP i w;simp only[Du,qR,zb];omega
def HP.sep(A D:HP):HP:=
 ⟨λh q=>∃i f:aw,(∀b,i b->¬f b)/\(∀b,i b->q b)/\(∀b,f b->q b)/\A.p h i/\D.p h f,
  λ⟨i,f,a,b,c,d,e⟩ hp=>⟨i,f,a,b,c,A.loc d (hp.mono λx _ g=>b x g),D.loc e (hp.mono λx _ g=>c x g)⟩,
  λ⟨i,f,a,b,c,d,e⟩ hq=>⟨i,f,a,λx g=>hq x (b x g),λx g=>hq x (c x g),d,e⟩⟩
def HP.ex{ι:Type}(F:ι->HP):HP:=⟨λh q=>∃i,(F i).p h q,λ⟨i,a⟩ hp=>⟨i,(F i).loc a hp⟩,λ⟨i,a⟩ hq=>⟨i,(F i).mono a hq⟩⟩
def HP.and(A:HP)(P:Prop):HP:=⟨λh q=>A.p h q/\P,λa c=>⟨A.loc a.1 c,a.2⟩,λa b=>⟨A.mono a.1 b,a.2⟩⟩
variable {E:HP}
section
variable {B:aw} {Bs:List HP} {A:HP} {i:Nat}
theorem aa.split(H:aa B h0 h As)(i:Nat)(m:As[i]?=dB (A.sep D)):aa B h0 h (As.set i A++[D]):=by
 classical
 obtain⟨t,p,c,z,a⟩:=H;obtain⟨w,o,q,n,s2,u,r⟩:=a i _ m;have v:=(qk.1 m).1;refine⟨t,p,λb=>if o b then As.length+1 else c b,λb e=>?_,λj X d=>?_⟩
 ·have s:=z b e;dsimp only;rw[hU];exact s;intro k;have:=(s2 b k).2;omega
 ·by_cases g:j<i0 As
  ·rw[qm l4,qU]at d;split at d
   ·rename_i f;subst f
    first|rw[g9 g]at d|skip
    injection d with d
    subst d;refine A.mono u λb e=>⟨(n b e).1,?_⟩
    dsimp only;rw[hU (q b e)];exact(n b e).2
   ·rename_i f;refine X.mono (a j X d) λb e=>⟨e.1,?_⟩
    dsimp only;rw[hU];exact e.2;intro k;have:=(s2 b k).2;omega
  ·rw[qh l4]at d;rw[zC]at d;have l:j=i0 As:=by have:=(qk.1 d).1;simp at this;omega
   subst l;simp at d;subst d;refine D.mono r λb e=>⟨(s2 b e).1,?_⟩
   dsimp only;rw[g9 e]
theorem aa.join(H:aa B h0 h As)(i j:Nat)(b:i≠j)(f:As[i]?=dB A)(l:As[j]?=dB D):aa B h0 h ((As.set i (A.sep D)).set j emp):=
 H.merge i j b f l λk d e g c=>⟨k,d,e,λ_ a=>.inl a,λ_ a=>.inr a,g,c⟩
theorem aa.TM{ι:Type}{F:ι->HP}(H:aa B h0 h As)(i:Nat)(g:As[i]?=dB (HP.ex F)):∃x,aa B h0 h (As.set i (F x)):=by
 obtain⟨f,p,c,z,a⟩:=H;obtain⟨x,e⟩:=a i _ g;refine⟨x,f,p,c,z,λj X b=>?_⟩;rw[qU]at b;split at b
 ·rename_i d;subst d;split at b
  ·injection b with b;subst b;exact e
  ·cases b
 ·exact a j X b
theorem aa.close'{ι:Type}{F:ι->HP}(H:aa B h0 h As)(i:Nat)(x:ι)(b:As[i]?=dB (F x)):aa B h0 h (As.set i (HP.ex F)):=H.eJ i b λ_ a=>⟨x,a⟩
theorem aa.fact{P:Prop}(H:aa B h0 h As)(i:Nat)(a:As[i]?=dB (A.and P)):P:=(H.at i a).2
theorem aa.acj{P:Prop}(H:aa B h0 h As)(i:Nat)(b:As[i]?=dB (A.and P)):aa B h0 h (As.set i A):=H.eJ i b λ_ a=>a.1
theorem aa.agE{P:Prop}(H:aa B h0 h As)(i:Nat)(c:As[i]?=dB A)(b:P):aa B h0 h (As.set i (A.and P)):=H.eJ i c λ_ a=>⟨a,b⟩
theorem aa.cons(H:aa B h0 h As)(i:Nat)(g:As[i]?=dB A):aa B h0 h (A::As.set i emp):=by
 obtain⟨k,p,c,z,a⟩:=H;have l:=(qk.1 g).1;refine⟨k,p,λb=>if c b=i+1 then 1 else if c b=0 then 0 else c b+1,λb e=>?_,λj X d=>?_⟩
 ·have:=z b e;dsimp only;rw[hU i5,g9 this]
 ·cases j with
  |zero=>
   simp at d;subst d;refine A.mono (a i A g) λb e=>⟨e.1,by dsimp only;rw[g9 e.2]⟩
  |succ j=>
   rw[qp,qU]at d;split at d
   ·rename_i f;injection d with d;subst d;trivial
   ·rename_i f;refine X.mono (a j X d) λb e=>⟨e.1,by dsimp only;rw[hU i5,hU i5];omega⟩
theorem aa.rest(H:aa B h0 h (A::As)):aa B h0 h As:=H.pick (λj=>j+1) (λa b h=>i5) λj X c=>m4
end
structure iK (α β:Type) where
 p:g0->aw->α->β->Prop
 loc:∀{h h':g0} {q:aw} {a:α} {b:β},p h q a b->aP q h h'->p h' q a b
 mono:∀{h:g0} {q q':aw} {a:α} {b:β},p h q a b->(∀x,q x->q' x)->p h q' a b
def cm{α:Type}(k:Nat)(f:α->aT):iK Sl (List α):=⟨λh q s l=>Seq h q s k f l,λa c=>a.ae c,λa b=>a.mono b⟩
def su{α:Type}(k:Nat)(f:α->aT):iK Sl (List α):=⟨λh q s l=>Seq h q s k f l/\(l=[]->s.ptr=eH),λa c=>⟨a.1.ae c,a.2⟩,λa b=>⟨a.1.mono b,a.2⟩⟩
def bC{α β:Type}(E:iK α β)(k:Nat)(f:α->aT):iK Sl (List β):=
 ⟨λh q s ll=>∃rs:List α,Seq h q s k f rs/\rs.length=i0 ll/\∀(i:Nat) r l,rs[i]?=dB r->ll[i]?=dB l->E.p h q r l,
  λ⟨rs,a,b,c⟩ hp=>⟨rs,a.ae hp,b,λi r l d e=>E.loc (c i r l d e) hp⟩,λ⟨rs,a,b,c⟩ hq=>⟨rs,a.mono hq,b,λi r l d e=>E.mono (c i r l d e) hq⟩⟩
def afb{α β:Type}(E:iK α β)(P:α->β->Prop):iK α β:=⟨λh q a b=>E.p h q a b/\P a b,λa d=>⟨E.loc a.1 d,a.2⟩,λa c=>⟨E.mono a.1 c,a.2⟩⟩
def EA{α β:Type}(E:iK α β)(a:α)(b:β):HP:=⟨λh q=>E.p h q a b,λx d=>E.loc x d,λx c=>E.mono x c⟩
abbrev dQ{α β:Type}(E:iK α β)(h:g0)(a:α)(b:β):Prop:=E.p h (λb=>b<h.size) a b
def bp{α β:Type}(e:TypeId)(s:Sl)(k:Nat)(f:α->aT)(E:iK α β)(m:List β):HP:=
 ⟨λh q=>∃(rs:List α) (j:aw),Own h e s k f rs/\(∀b,s.on b->q b/\¬j b)/\(∀b,j b->q b)/\rs.length=i0 m/\∀(i:Nat) r l,rs[i]?=dB r->m[i]?=dB l->E.p h j r l,
  λ⟨rs,j,a,b,c,d,e⟩ hp=>⟨rs,j,a.ae hp λx g=>(b x g).1,b,c,d,λi r l n o=>E.loc (e i r l n o) (hp.mono λx _ g=>c x g)⟩,
  λ⟨rs,j,a,b,c,d,e⟩ hq=>⟨rs,j,a,λx g=>⟨hq x (b x g).1,(b x g).2⟩,λx g=>hq x (c x g),d,e⟩⟩
variable {β:Type} {b:β}
section
variable {E:iK α β} {ll:List β} {a:α}
theorem dQ.up(x:dQ E h a b)(c:aP (λb=>b<h.size) h h'):dQ E h' a b:=E.mono (E.loc x c) λ_ d=>qZ d c.1
theorem bC.kb(x:(bC E k f).p h q s ll):∃rs:List α,Seq h q s k f rs/\rs.length=i0 ll/\∀(i:Nat) (d:i<i0 rs) (e:i<i0 ll),E.p h q rs[i] ll[i]:=by obtain⟨rs,a,b,c⟩:=x;exact⟨rs,a,b,λi d e=>c i _ _ (qc d) (qc e)⟩
theorem bC.len(x:(bC E k f).p h q s ll):s.len=i0 ll:=by obtain⟨rs,a,b,c⟩:=x;rw[a.len,b]
theorem bC.nil(h:g0)(q:aw)(a:cj)(c:Nat):(bC E k f).p h q ⟨a,0,c⟩ []:=⟨[],Seq.nil h q c a k f,i4,λi r l b=>by simp at b⟩
theorem bC.take(x:(bC E k f).p h q s ll)(n:Nat)(j:n<=i0 ll):(bC E k f).p h q ⟨s.ptr,n,s.cap⟩ (ll.take n):=by
 obtain⟨rs,a,b,c⟩:=x;refine⟨rs.take n,a.take n i5,o0,λi r l d e=>?_⟩;rw[vg]at d e;split at d
 ·rename_i g;rw[g9 g]at e;exact c i r l d e
 ·cases d
theorem bC.get{X:Type}{g:X->f7}(x:(bC E 1 f).p h q s ll){i:Int}(n:Nat)(c:i=n)(j:n<i0 ll)(u:α->X)(b:∀r,f r=[g (u r)]){K:X->Prop}(e:∀r,E.p h q r ll[n]->K (u r)):
  ∃a:f8,(s.ptr=dB a/\0<=i/\i<((s.len:Nat):Int))/\∃x:X,f9 h (a.add (i.toNat*1))=dB (g x)/\K x:=by
 obtain⟨rs,d,k,h3⟩:=bC.kb x;exact d.bt n c i5 (u (rs[n]'(by omega))) (b _) (e _ (h3 n i5 j))
theorem bC.mB{E:iK Sl β}(x:(bC E 1 bg).p h q s ll){i:Int}(n:Nat)(b:i=n)(d:n<i0 ll){K:Sl->Prop}(c:∀r,E.p h q r ll[n]->K r):
  ∃a:f8,(s.ptr=dB a/\0<=i/\i<((s.len:Nat):Int))/\∃x:Sl,f9 h (a.add (i.toNat*1))=dB (.slice x.ptr x.len x.cap)/\K x:=
 bC.get (g:=λr:Sl=>Value.slice r.ptr r.len r.cap) x n b d id (λ_=>rfl) c
theorem bC.toeT{γ:Type}{d:Nat}{g:γ->aT}{l:List (List γ)}(x:dQ (bC (cm d g) 1 bg) h s l):eT h s d g l:=by obtain⟨rs,a,b,c⟩:=x;exact⟨rs,a,b,c⟩
theorem bC.impl{α':Type}{e:Type}{E':iK α e}(u:β->e)(j:∀{h q a b},E.p h q a b->E'.p h q a (u b))(x:(bC E k f).p h q s ll):(bC E' k f).p h q s (ll.map u):=by
 obtain⟨rs,a,b,c⟩:=x;refine⟨rs,a,o0,λi r l g d=>?_⟩;rw[qP]at d;cases h3:ll[i]? with
 |none=>rw[h3]at d;cases d
 |some y=>rw[h3]at d;simp at d;subst d;exact j (c i r y g h3)
end
section
variable {E:iK α β} {C:Ctx} {e:Nat} {B:aw} {ll:List β}
theorem aa.ua(H:aa B h0 h As)(e k:Nat)(f:α->aT)(E:iK α β):aa B h0 h (As++[bp e ⟨eH,0,0⟩ k f E []]):=
 H.comp (.one (aP.refl _ _) ⟨[],λ_=>False,Own.nil h e k f,λb a=>(by obtain⟨o,a⟩:=a;cases a),λ_ a=>a.elim,rfl,λi r l h=>mn⟩)
theorem aa.KN(H:aa B h0 h As)(i:Nat)(m:As[i]?=dB (bp e s k f E ll))(g:∀x,i0 (f x)=k):dQ (bC E k f) h s ll:=by obtain⟨rs,p,a,b,c,d,e⟩:=H.at i m;exact⟨rs,a.seq g λx j=>(b x j).1,d,λi r l n o=>E.mono (e i r l n o) c⟩
theorem aa.JP(H:aa B h0 h As)(i:Nat)(m:As[i]?=dB (bp e s k f E ll))(g:∀x,i0 (f x)=k):aa B h0 h (As.set i (EA (bC E k f) s ll)):=
 H.eJ i m λq ⟨rs,p,a,b,c,d,e⟩=>⟨rs,a.seq g λx j=>(b x j).1,d,λi r l n o=>E.mono (e i r l n o) c⟩
theorem aa.eAt{a:α}{b:β}(H:aa B h0 h As)(i:Nat)(c:As[i]?=dB (EA E a b)):dQ E h a b:=H.at i c
theorem aa.Nn(H:aa B h0 h As)(i:Nat)(g:As[i]?=dB (bp e s k f E ll)):s.len=i0 ll/\s.len<=s.cap:=by obtain⟨rs,j,a,b,c,d,e⟩:=H.at i g;exact⟨by rw[a.len,d],a.cap⟩
theorem aa.nX(hC:C.Ok)(H:aa B h0 h As)(i j:Nat)(I:i≠j){a:α}{b:β}(Y:As[i]?=dB (bp e s k f E ll))(hj:As[j]?=dB (EA E a b))(he:bG C.toAQ t e k z by_)(hz:i0 z=k)(X:0<by_/\by_<=128)(hw:∀x,i0 (f x)=k)
  (Q:∀x,∀c∈f x,c.oneCell'=eX) {parts:Array (Nat×f7)} (J:wH (λi=>dB (i*k,k)) (iU z 1).toArray parts.toList=dB ([a].flatMap f).toArray) (V:1*k<=2^20)
  (ab:i0 ll+1<=2^32) {ty:Nat} {K:Sl->g0->Prop} (hk:∀T h',aa B h0 h' ((As.set j emp).set i (bp e T k f E (ll++[b])))->K T h'):
  bz C.P (zL t 1 parts) (.one (.sc .slc)) h λv y=>bz C.P (zx #[t,t] ty #[.slice s.ptr s.len s.cap,.slice v.ptr v.len v.cap]) (.one (.sc .slc)) y K:=by
 have H2:=H.merge i j I Y hj (D:=⟨λh q=>∃(rs:List α) (g:aw),Own h e s k f rs/\(∀b,s.on b->q b/\¬g b)/\(∀b,g b->q b)/\rs.length=i0 ll/\(∀(i:Nat) r l,rs[i]?=dB r->ll[i]?=dB l->E.p h g r l)/\E.p h g a b,
  λ⟨rs,g,a,b,c,d,e,f⟩ hp=>⟨rs,g,a.ae hp λx n=>(b x n).1,b,c,d,λi r l y G=>E.loc (e i r l y G) (hp.mono λx _ n=>c x n),E.loc f (hp.mono λx _ n=>c x n)⟩,
  λ⟨rs,g,a,b,c,d,e,f⟩ hq=>⟨rs,g,a,λx n=>⟨hq x (b x n).1,(b x n).2⟩,λx n=>hq x (c x n),d,e,f⟩⟩)
  (λg q2 hd hA hB=>by
   obtain⟨rs,q3,a,b,c,d,e'⟩:=hA;refine⟨rs,λb=>q3 b∨q2 b,a,λx n=>⟨.inl (b x n).1,λO=>O.elim (b x n).2 (hd x (b x n).1)⟩,λx n=>n.elim (λh=>.inl (c x h)) .inr,d,λi r l y G=>E.mono (e' i r l y G) λ_ h=>.inl h,E.mono hB λ_ h=>.inr h⟩)
 have u:i<i0 As:=(qk.1 Y).1;obtain⟨lo,pp,c,zz,ax⟩:=H2;have ha:=ax i _ (by rw[zF (Ne.symm I),zk u]);obtain⟨rs,g,a1,a2,a3,a4,a5,a6⟩:=ha;let Z:Nat->Nat:=λb=> @ite _ (g b) (Classical.propDecidable _) (i0 As+2) (c b);have M:∀b,g b->b<h.size/\c b=i+1:=a3;have ho:dS h Z (i+1) e s k f rs:=⟨a1,λb m=>by
  have:=a2 b m;show @ite _ (g b) (Classical.propDecidable _) _ _=_;rw[hU this.2];exact this.1.2⟩
 refine ho.push hC he hz X hw Q a J V i5 λT h' F L=>hk T h' ?_;rw[vJ _ _ (Ne.symm I)];rw[<-yy (l:=As) (i:=i),vJ _ _ I];have N:∀b,g b->Z b≠i+1:=λb m=>by
  show @ite _ (g b) (Classical.propDecidable _) _ _≠_;rw[g9 m];omega
 refine aa.BD lo pp zz ax (L.mono λb m hn hc=>hn ⟨m,?_⟩) ⟨rs++[a],λb=>g b/\b<h.size,F.own,λb m=>?_,λb m=>⟨qZ m.2 L.1,.inl ⟨m.2,(M b m.1).2⟩⟩,by simp[a4],λW r' l' y G=>?_⟩
 ·by_cases A:g b
  ·exact(M b A).2
  ·have w:@ite _ (g b) (Classical.propDecidable _) (i0 As+2) (c b)=i+1:=hc;rw[hU A]at w;exact w
 ·have o:=F.bu b m;by_cases u:b<h.size
  ·rw[gQ u]at o;have R:¬g b:=λA=>N b A o;have w:@ite _ (g b) (Classical.propDecidable _) (i0 As+2) (c b)=i+1:=o;rw[hU R]at w;exact⟨⟨F.own.lt m,.inl ⟨u,w⟩⟩,λO=>R O.1⟩
  ·exact⟨⟨F.own.lt m,.inr i5⟩,λO=>u O.2⟩
 ·have S:∀{rr:α} {l:β},E.p h g rr l->E.p h' (λb=>g b/\b<h.size) rr l:=λhs=>
   E.loc (E.mono hs (q':=λb=>g b/\b<h.size) λb m=>⟨m,(M b m).1⟩) (L.mono λb _ m=>N b m.1)
  by_cases U:W<i0 rs
  ·rw[qm U]at y;rw[qm i5]at G;exact S (a5 W r' l' y G)
  ·have:W=i0 rs:=by have:=(qk.1 y).1;simp at this;omega
   subst this;simp at y;rw[a4]at G;simp at G;subst y;subst G;exact S a6
theorem aa.ahk{O:TI}(Y:C.Ok)(H:aa B h0 h As)(i j:Nat)(y:i≠j){a:α}{b:β}(N:As[i]?=dB (bp e s k f E ll))(hj:As[j]?=dB (EA E a b))(V:∀x,i0 (f x)=k)(ht:C.T.get t=dB O){x:Int}(n:Nat)(g:x=n)(hn:n<i0 ll){G:f7}(hv:G.cells=(f a).toArray)(L:O.size=k)
  (J:(f a).all (·.oneCell')=eX) {K:g0->Prop} (hk:∀h',aa B h0 h' ((As.set j emp).set i (bp e s k f E (ll.set n b)))->K h'):
  ∃a:f8,(s.ptr=dB a/\0<=x/\x<((s.len:Nat):Int))/\au C.P (qG t (.pointer (dB (a.add (x.toNat*k)))) G) h λ_ h'=>K h':=by
 have Z:=H.merge i j y N hj (D:=⟨λh q=>∃(rs:List α) (m:aw),Own h e s k f rs/\(∀b,s.on b->q b/\¬m b)/\(∀b,m b->q b)/\rs.length=i0 ll/\(∀(i:Nat) r l,rs[i]?=dB r->ll[i]?=dB l->E.p h m r l)/\E.p h m a b,
  λ⟨rs,m,a,b,c,d,e,f⟩ hp=>⟨rs,m,a.ae hp λx g=>(b x g).1,b,c,d,λi r l o u=>E.loc (e i r l o u) (hp.mono λx _ g=>c x g),E.loc f (hp.mono λx _ g=>c x g)⟩,
  λ⟨rs,m,a,b,c,d,e,f⟩ hq=>⟨rs,m,a,λx g=>⟨hq x (b x g).1,(b x g).2⟩,λx g=>hq x (c x g),d,e,f⟩⟩)
  (λm W X hA hB=>by
   obtain⟨rs,S,a,b,c,d,e'⟩:=hA;refine⟨rs,λb=>S b∨W b,a,λx g=>⟨.inl (b x g).1,λhh=>hh.elim (b x g).2 (X x (b x g).1)⟩,λx g=>g.elim (λh=>.inl (c x h)) .inr,d,λi r l o u=>E.mono (e' i r l o u) λ_ h=>.inl h,E.mono hB λ_ h=>.inr h⟩)
 have M:i<i0 As:=(qk.1 N).1;obtain⟨lo,pp,c,U,ax⟩:=Z;have ha:=ax i _ (by rw[zF (Ne.symm y),zk M]);obtain⟨rs,m,a1,I,a3,a4,a5,a6⟩:=ha;refine a1.set Y V ht n g i5 a hv L J λh' z w _=>hk h' ?_;rw[vJ _ _ (Ne.symm y)];rw[<-yy (l:=As) (i:=i),vJ _ _ y];have keep:∀{R:α} {l:β},E.p h m R l->E.p h' m R l:=λhs=>E.loc hs (w.mono λb _ v F=>(I b F).2 v);refine aa.BD lo pp U ax (w.mono λb _ v F=>v (I b F).1) ⟨rs.set n a,m,z,λb v=>⟨⟨qZ (I b v).1.1 w.1,.inl (I b v).1⟩,(I b v).2⟩,λb v=>⟨qZ (a3 b v).1 w.1,.inl (a3 b v)⟩,by simp[a4],λi' r' Q o u=>?_⟩;rw[qU]at o u;split at o
 ·rename_i A;rw[g9 A]at u;split at o
  ·injection o with o;subst o
   have e:Q=b:=by rw[g9 i5]at u;exact(zW.inj u).symm
   subst e;exact keep a6
  ·cases o
 ·rename_i A;rw[hU A]at u;exact keep (a5 i' r' Q o u)
end
section
variable {E:iK α β} {e:Nat} {B:aw}
theorem aa.afc(H:aa B h0 h As)(i j:Nat)(d:i≠j){a:α}{b:β}(q:As[i]?=dB (af e s k f [a]))(t:As[j]?=dB (EA E a b)):aa B h0 h ((As.set i (bp e s k f E [b])).set j emp):=
 H.merge i j d q t λw o p g v=>⟨[a],o,g.1,λx n=>⟨.inl (g.2 x n),p x (g.2 x n)⟩,λ_ u=>.inr u,i4,λi r l c m=>by
  cases i with
  |succ i=>simp at c
  |zero=>simp at c m;subst c;subst m;exact v⟩
theorem aa.vy{α:Type}{f:α->aT}{l:List α}(H:aa B h0 h As)(i:Nat)(c:As[i]?=dB (af e s k f l))(b:∀x,i0 (f x)=k):aa B h0 h (As.set i (EA (cm k f) s l)):=H.eJ i c λ_ a=>a.1.seq b a.2
end
variable {e2:Nat}
section
variable {B:aw} {e:Nat}
theorem aa.adn(H:aa B h0 h (As++(af e s 1 bg rs::bv e2 k f rs ll)))(y:i0 rs=i0 ll)(D:∀x,i0 (f x)=k)(n:Nat)(K:n<=i0 ll):aa B h0 h (As++[bp e ⟨s.ptr,n,s.cap⟩ 1 bg (cm k f) (ll.take n)]):=by
 classical
 obtain⟨I,p,c,z,a⟩:=H;refine⟨I,p,λb=>if c b>i0 As then As.length+1 else c b,λb d=>?_,λj X g=>?_⟩
 ·have:=z b d;dsimp only;rw[hU i5];exact this
 ·by_cases m:j<i0 As
  ·rw[qm m]at g;refine X.mono (a j X (by rw[qm m];exact g)) λb d=>⟨d.1,?_⟩
   dsimp only;rw[hU i5];exact d.2
  ·rw[qh i5]at g;have u:j=i0 As:=by have:=(qk.1 g).1;simp at this;omega
   subst u;simp at g;subst g;have A:=a As.length (af e s 1 bg rs) (by rw[qh (ql _)];simp);refine⟨rs.take n,λb=>b<h.size/\c b>i0 As+1,A.1.cut (λ_=>rfl) n i5,λb d=>?_,λb d=>?_,by simp[y],λi r l o h3=>?_⟩
   ·have t:=A.2 b d;refine⟨⟨t.1,?_⟩,λJ=>i5⟩;dsimp only;rw[g9 i5]
   ·refine⟨d.1,?_⟩;dsimp only;rw[g9 i5]
   ·rw[vg]at o h3;split at o
    ·rename_i v;rw[g9 v]at h3;have w:i<i0 ll:=(qk.1 h3).1;have E:=ie (e:=e2) (k:=k) (f:=f) y i w;have q:=a (i0 As+(i+1)) _ (by rw[qh i5];simpa using E);have F:rs[i]'(by omega)=r:=by rw[qc i5]at o;simpa using o
     have G:ll[i]=l:=by rw[qc w]at h3;simpa using h3
     rw[F,G]at q;exact q.1.seq D λb d=>⟨(q.2 b d).1,by have:=(q.2 b d).2;omega⟩
    ·cases o
theorem aa.MD{s:Sl}{a:List (List α)}(H:aa B h0 h As)(i:Nat)(c:As[i]?=dB (fP e s k f a)):aa B h0 h (As.set i (bp e s 1 bg (cm k f) a)):=H.eJ i c λ_ b=>b
end
theorem KO{h h':g0}{p:aw}(a:aP p h h'):∀{L:bR},L.ok h->(∀x∈L,p x.1.block)->L.ok h'
 |[],_,_=>trivial
 |x::L,hk,hq=>⟨a.cell (hq x jj) hk.1,KO a hk.2 λy b=>hq y o0⟩
theorem lI{h h':g0}(d:aP (λb=>b<h.size) h h'){L:bR}(c:L.ok h):L.ok h':=KO d c (by
 clear d
 induction L with
 |nil=>intro x a;cases a
 |cons y L ih=>
  intro x a;rcases qX.1 a with rfl|a
  ·exact dC c.1
  ·exact ih c.2 x a)
theorem bz.both{P:Program}{s:Sem f7}{h:g0}{K:Sl->g0->Prop}{Q:g0->Prop}(d:bz P s (.one (.sc .slc)) h λ_ h'=>Q h')(e:bz P s (.one (.sc .slc)) h K):bz P s (.one (.sc .slc)) h λx h'=>Q h'/\K x h':=by intro w a;obtain⟨k,m,c,i,n,a3,a4⟩:=d w a;obtain⟨l,j,b,o,x2,g,f⟩:=e w a;rw[c]at b;cases b;exact⟨_,_,c,i,x2,g,a4,f⟩
theorem aa.nt{α:Type}{B:aw}{C:Ctx}{o h:g0}{As:List HP}{e t k d:Nat}{z:aT}{K:Sl->g0->Prop}(g:C.Ok)(H:aa B o h As)(f:α->aT)(q:bG C.toAQ t e k z d)(c:i0 z=k){n:Nat}{parts:Array (Nat×f7)}(l:List α)(r:i0 l=n)(b:n*k<=2^20)
  (a:wH (λi=>dB (i*k,k)) (iU z n).toArray parts.toList=dB (l.flatMap f).toArray) {L:bR} (j:L.ok h) (m:bz C.P (zL t n parts) (.one (.sc .slc)) h K):
  bz C.P (zL t n parts) (.one (.sc .slc)) h λx h'=>L.ok h'/\K x h':=
 bz.both ((Sp.refl h).lit g f q c l r b a λ_ _ p=>lI p.ae j) m
section
variable {B:aw} {Bs:List HP} {A:HP} {i:Nat}
theorem aa.front(H:aa B h0 h (As++Bs)):aa B h0 h (Bs++As):=
 H.pick (λj=>if j<i0 Bs then As.length+j else if j<i0 Bs+i0 As then j-i0 Bs else j)
  (λa b c=>j7) λj X d=>by
  try dsimp only
  split
  ·rename_i e;rw[qm e]at d;rw[qh i5,zn];exact d
  ·rename_i e;rw[qh i5]at d;have:=(qk.1 d).1;rw[g9 i5,qm this];exact d
theorem aa.be(H:aa B h0 h (As++[A])):aa B h0 h (A::As):=H.front
theorem aa.cb(H:aa B h0 h As)(R:Sp h h' [A]):aa B h0 h' (A::As):=(H.comp R).be
theorem aa.nY(H:aa B h0 h (A::As)):aa B h0 h As:=H.rest
theorem aa.oV(H:aa B h0 h (A::D::As)):aa B h0 h (A::As):=H.del 1
theorem aa.oW{ι:Type}{F:ι->HP}(H:aa B h0 h (HP.ex F::As)):∃x,aa B h0 h (F x::As):=H.TM 0 i4
theorem aa.ub{ι:Type}{F:ι->HP}(x:ι)(H:aa B h0 h (F x::As)):aa B h0 h (HP.ex F::As):=H.close' 0 x i4
theorem aa.mg(H:aa B h0 h (A.sep D::As)):aa B h0 h (D::A::As):=(H.split 0 i4).be
theorem aa.jd(H:aa B h0 h (D::A::As)):aa B h0 h (A.sep D::As):=by have a:aa B h0 h (emp::A.sep D::As):=H.join 1 0 i6 i4 i4;exact a.rest
theorem aa.gV(H:aa B h0 h (A::D::As)):aa B h0 h (D::A::As):=H.aci 0 1 i4 i4
end
theorem Seq.mC{h:g0}{p:aw}{s:Sl}{rs:List Sl}(c:Seq h p s 1 bg rs){i:Int}(n:Nat)(b:i=n)(e:n<i0 rs){K:Sl->Prop}(d:K rs[n]):
  ∃a:f8,(s.ptr=dB a/\0<=i/\i<((s.len:Nat):Int))/\∃x:Sl,f9 h (a.add (i.toNat*1))=dB (.slice x.ptr x.len x.cap)/\K x:=
 c.bt (g:=λr:Sl=>Value.slice r.ptr r.len r.cap) n b e rs[n] i4 d
def St(B:aw)(a:g0)(As:List HP)(Q:g0->Prop):Prop:=∀(Bs:List HP) (h':g0),aa B a h' (Bs++As)->Q h'
variable {Q:g0->Prop}
section
variable {B:aw} {Bs:List HP} {A:HP}
theorem St.at(x:St B h0 As Q)(Bs:List HP)(H:aa B h0 h (Bs++As)):Q h:=x Bs h H
theorem St.base(b:Q h0)(a:∀h',aP B h0 h'->Q h'):St B h0 As Q:=λ_ _ H=>a _ H.ae
theorem St.eG(j:Nat)(c:As[j]?=dB A)(a:∀h',A.p h' (λb=>b<h'.size)->Q h'):St B h0 As Q:=λBs h' H=>a _ (H.at (i0 Bs+j) (by rw[qh i5,zn];exact c))
theorem St.cons(x:St B h0 As Q):St B h0 (A::As) Q:=λBs h' H=>x (Bs++[A]) h' (by rw[qn];exact H)
end
section
variable {E:iK Sl β} {ll:List β}
theorem bC.ahl(x:(bC E 1 bg).p h q s ll){i:Int}(n:Nat)(g:i=n)(l:n<i0 ll){K:Sl->Prop}(k:∀(a:f8) (r:Sl),s.ptr=dB a->f9 h (a.add (n*1))=dB (.slice r.ptr r.len r.cap)->E.p h q r ll[n]->K r):
  ∃a:f8,(s.ptr=dB a/\0<=i/\i<((s.len:Nat):Int))/\∃x:Sl,f9 h (a.add (i.toNat*1))=dB (.slice x.ptr x.len x.cap)/\K x:=by
 subst g;obtain⟨rs,e,m,h3⟩:=bC.kb x;obtain⟨b,o,d,e2,j⟩:=e.elem n (rs[n]'(by omega)) (qc i5);have f:=j.1;rw[add_eq,w9]at f;have c:f9 h ((⟨b,o,eH⟩:f8).add (n*1))=dB (.slice (rs[n]'(by omega)).ptr (rs[n]'(by omega)).len (rs[n]'(by omega)).cap):=by rw[add_eq];exact f
 refine⟨_,⟨d,i5,by rw[e.len];omega⟩,rs[n]'(by omega),by rw[qj];exact c,k _ _ d c (h3 n i5 l)⟩
theorem bC.pick(x:(bC E 1 bg).p h q s ll)(n:Nat)(l:n<i0 ll){a:f8}{r:Sl}(g:s.ptr=dB a)(i:f9 h (a.add (n*1))=dB (.slice r.ptr r.len r.cap)):E.p h q r ll[n]:=by
 obtain⟨rs,j,t,h3⟩:=bC.kb x;obtain⟨b,o,d,e2,k⟩:=j.elem n (rs[n]'(by omega)) (qc i5);rw[g]at d;injection d with d
 subst d;have f:=k.1;rw[add_eq,w9]at f;have c:f9 h ((⟨b,o,eH⟩:f8).add (n*1))=dB (.slice (rs[n]'(by omega)).ptr (rs[n]'(by omega)).len (rs[n]'(by omega)).cap):=by rw[add_eq];exact f
 rw[i]at c;have e:=h3 n i5 l;generalize rs[n]'(by omega)=r' at c e;obtain⟨m,l1,u⟩:=r;obtain⟨v,l2,w⟩:=r';simp at c;obtain⟨rfl,rfl,rfl⟩:=c;exact e
end
theorem Dv{α:Type}{l:List α}(f:l.Nodup){a b:Nat}(c:a<i0 l)(d:b<i0 l)(h:l[a]=l[b]):a=b:=by
 have e:=zj.1 f;rcases yh a b with hlt|he|hgt
 ·exact absurd h (e a b c d hlt)
 ·exact he
 ·exact absurd h.symm (e b a d c hgt)
theorem aa.bA{B:aw}{k h:g0}{As:List HP}(H:aa B k h As)(L:List Nat)(g:∀j∈L,j<i0 As:=by simp)(m:L.Nodup:=by decide):aa B k h (L.map λj=>As.getD j emp):=by
 refine H.pick (λi=>if h:i<i0 L then L[i]else As.length+i) (λa b c=>?_) λi A2 e=>?_
 ·try dsimp only at c
  split at c<;>split at c
  ·exact Dv m _ _ c
  ·have:=g _ (qf (l:=L) (n:=a) o7);omega
  ·have:=g _ (qf (l:=L) (n:=b) o7);omega
  ·omega
 ·try dsimp only
  rw[qP]at e;split
  ·rename_i d;rw[qc d]at e;have f:=g _ (qf d);simp only[qQ,zW.injEq]at e;rw[<-e,qd,qc f];rfl
  ·rename_i d;rw[qI i5]at e;simp at e
theorem St.mk'{B:aw}{a:g0}{As:List HP}{Q:g0->Prop}(x:∀h',aa B a h' As->Q h'):St B a As Q:=λBs h' H=>x h' (H.take Bs.length λi A b=>by
 rw[qh i5,zn];exact b)
theorem St.here{B:aw}{a h:g0}{As:List HP}{Q:g0->Prop}(x:St B a As Q)(H:aa B a h As):Q h:=x [] h H
theorem St.mono{B:aw}{b:g0}{As:List HP}{Q a:g0->Prop}(x:St B b As Q)(c:∀h,Q h->a h):St B b As a:=λBs h' H=>c _ (x Bs h' H)
theorem aa.aO{B:aw}{m h:g0}{As:List HP}(H:aa B m h As)(k:Nat)(L:List Nat)(p:k<=i0 As:=by simp)(f:∀j∈L,j<k:=by simp)(o:L.Nodup:=by decide):aa B m h (L.map (λj=>As.getD j emp)++As.drop k):=by
 refine H.pick (λi=>if h:i<i0 L then L[i]else k+(i-i0 L)) (λa b d=>?_) λi A2 e=>?_
 ·try dsimp only at d
  split at d<;>split at d
  ·exact Dv o _ _ d
  ·have:=f _ (qf (l:=L) (n:=a) o7);omega
  ·have:=f _ (qf (l:=L) (n:=b) o7);omega
  ·omega
 ·try dsimp only
  by_cases c:i<i0 L
  ·rw[dif_pos c];rw[qm m4,qP,qc c]at e;have g:=f _ (qf c);simp only[qQ,zW.injEq]at e;rw[<-e,qd,qc i5];rfl
  ·rw[dif_neg c];rw[qh m4,qq,wP]at e;exact e
section
variable {E:iK α β} {C:Ctx} {e:Nat} {B:aw} {rs:List α} {ll:List β}
def Fix(E:iK α β)(k:Nat)(f:α->aT)(h:g0)(q:aw)(s:Sl)(rs:List α)(a:List β):Prop:=Seq h q s k f rs/\rs.length=i0 a/\∀(i:Nat) r l,rs[i]?=dB r->a[i]?=dB l->E.p h q r l
theorem Fix.ae(x:Fix E k f h q s rs ll)(a:aP q h h'):Fix E k f h' q s rs ll:=⟨x.1.ae a,x.2.1,λi r l b c=>E.loc (x.2.2 i r l b c) a⟩
theorem Fix.mono{q':aw}(x:Fix E k f h q s rs ll)(a:∀b,q b->q' b):Fix E k f h q' s rs ll:=⟨x.1.mono a,x.2.1,λi r l c d=>E.mono (x.2.2 i r l c d) a⟩
abbrev nQ(E:iK α β)(k:Nat)(f:α->aT)(h:g0)(s:Sl)(rs:List α)(a:List β):Prop:=Fix E k f h (λb=>b<h.size) s rs a
theorem nQ.up(x:nQ E k f h s rs ll)(a:aP (λb=>b<h.size) h h'):nQ E k f h' s rs ll:=(Fix.ae x a).mono λ_ c=>qZ c a.1
theorem Fix.row(x:Fix E k f h q s rs ll){i:Nat}(a:i<i0 ll):E.p h q (rs[i]'(by rw[x.2.1];exact a)) ll[i]:=x.2.2 i _ _ (qc _) (qc _)
theorem bC.fix(x:(bC E k f).p h q s ll):∃rs,Fix E k f h q s rs ll:=x
theorem Fix.elt(x:Fix E k f h q s rs ll):(bC E k f).p h q s ll:=⟨rs,x⟩
def cM(E:iK α β)(k:Nat)(f:α->aT)(s:Sl)(rs:List α)(a:List β):HP:=⟨λh q=>Fix E k f h q s rs a,λx c=>x.ae c,λx b=>x.mono b⟩
theorem aa.JQ(H:aa B h0 h As)(i:Nat)(m:As[i]?=dB (bp e s k f E ll))(n:∀x,i0 (f x)=k):∃rs,aa B h0 h (As.set i (cM E k f s rs ll)):=by
 have g:i<i0 As:=(qk.1 m).1;have o:aa B h0 h (As.set i (HP.ex λrs=>cM E k f s rs ll)):=H.eJ i m λq ⟨rs,v,a,b,c,d,e⟩=>⟨rs,a.seq n λx u=>(b x u).1,d,λi r l p t=>E.mono (e i r l p t) c⟩
 obtain⟨rs,j⟩:=o.TM i (zk g);exact⟨rs,by rw[yy]at j;exact j⟩
theorem aa.fa(H:aa B h0 h As)(i:Nat)(a:As[i]?=dB (cM E k f s rs ll)):nQ E k f h s rs ll:=H.at i a
theorem aa.Dw(e:C.Ok)(H:aa B h0 h As)(d:C.T.get t=dB ti){K:f8->g0->Prop}(f:∀a h',aP (λb=>b<h.size) h h'->aa B h0 h' (As++[ac a t ti.zero])->K a h'):
  oT C.P (yQ t eX (.tuple #[])) h K:=
 uZ e d λa h' x y c _=>f a h' (c.mono λ_ _ _=>trivial) (H.comp (JN x y c))
theorem aa.HW(q:C.Ok)(H:aa B h0 h As)(f:α->aT)(A:bG C.toAQ t e k z by_)(i:0<by_/\by_<=128)(d:α)(s:f d=z)(g:i0 z=k){D u:IntKind}{n p:Int}(m c:Nat)(E:n=m)(r:p=c)(l:m<=c)(j:c<=2^32)
  {K:Sl->g0->Prop} (v:∀a h',a.len=m->aP (λb=>b<h.size) h h'->aa B h0 h' (As++[af e a k f (qi m d)])->K a h'):
  bz C.P (zA t (.int D n) (.int u p)) (.one (.sc .slc)) h K:=
 run_make q A i d s g m c E r l j λa h' x y w o _=>v a h' (by rw[x.len];simp) (o.mono λ_ _ _=>trivial) (H.comp (JM i4 x y o))
end
section
variable {C:Ctx} {B:aw} {e:Nat}
theorem Own.ZR(D:C.Ok)(u:Own h e s k f l)(w:∀x,i0 (f x)=k)(B:C.T.get t=dB i){x:Int}(n:Nat)(G:x=n)(v:n<i0 l)(j:Nat)(vs:aT)(M:j+i0 vs<=k){m:f7}(y:α)(J:m.cells=vs.toArray)(r:i.size=i0 vs)
  (q:vs.all (·.oneCell')=eX) (L:f y=(f l[n]).take j++vs++(f l[n]).drop (j+i0 vs)) {K:g0->Prop} (H:∀h',Own h' e s k f (l.set n y)->aP (λb=>¬s.on b) h h'->K h'):
  ∃a:f8,(s.ptr=dB a/\0<=x/\x<((s.len:Nat):Int))/\au C.P (qG t (.pointer (dB ((a.add (x.toNat*k)).add j))) m) h λ_ h'=>K h':=by
 subst G;rcases u.head with⟨_,_,h3⟩|⟨b,rest,h1,h2,h3,h4⟩
 ·subst h3;simp at v
 ·refine⟨_,⟨h1,i5,by rw[u.len];omega⟩,?_⟩;unfold qG;refine au.bind (au.pure' ?_);unfold storeVar;refine au.bind (au.always (eE D.toOk B) ?_);rw[J,r];simp only[wW,ne_eq,not_true,if_false];rw[add_eq,add_eq,wm,qj];have g:l=l.take n++l[n]::l.drop (n+1):=by rw[<-qK v,qC]
  have o:l.set n y=l.take n++y::l.drop (n+1):=ye.trans (g9 v);have p:i0 ((l.take n).flatMap f)=n*k:=by rw[dl w,qR,wE i5]
  have I:=w l[n];have d:f l[n]=(f l[n]).take j++((f l[n]).drop j).take vs.length++(f l[n]).drop (j+i0 vs):=by rw[qn,<-zI,qC,qC]
  refine eO (e:=e) (pre:=(l.take n).flatMap f++(f l[n]).take j) (old:=((f l[n]).drop j).take vs.length) (post:=(f l[n]).drop (j+i0 vs)++((l.drop (n+1)).flatMap f++rest)) ?_ ?_ ?_ ?_ ?_
  ·have:l.flatMap f++rest=(l.take n).flatMap f++(f l[n]).take j++((f l[n]).drop j).take vs.length++((f l[n]).drop (j+i0 vs)++((l.drop (n+1)).flatMap f++rest)):=by
    have A:=congrArg (List.flatMap f) g;rw[qY,za]at A;rw[A];generalize f l[n]=z at d;rw[qn]at d;simp only[qn];congr 1
    conv=>lhs;rw[d]
    simp only[qn]
   rw[<-this];exact h2
  ·simp;omega
  ·rw[qw,p,qR];omega
  ·intro c E;exact qJ.1 q c E
  ·refine H _ ⟨by rw[zC];exact u.len,.inr ⟨b,rest,h1,?_,h3,h4⟩⟩ (aP.jk h2 λF=>F ⟨0,h1⟩);rw[ij h2,g9 i4,o,qY,za,L];simp[qn]
theorem aa.ZR(q:C.Ok)(H:aa B h0 h As)(g:Nat)(c:As[g]?=dB (af e s k f l))(o:∀x,i0 (f x)=k)(p:C.T.get t=dB i){x:Int}(n:Nat)(u:x=n)(E:n<i0 l)(j:Nat)(vs:aT)(r:j+i0 vs<=k){b:f7}(y:α)(A:b.cells=vs.toArray)(m:i.size=i0 vs)
  (d:vs.all (·.oneCell')=eX) (D:f y=(f l[n]).take j++vs++(f l[n]).drop (j+i0 vs)) {K:g0->Prop} (v:∀h',aa B h0 h' (As.set g (af e s k f (l.set n y)))->K h'):
  ∃a:f8,(s.ptr=dB a/\0<=x/\x<((s.len:Nat):Int))/\au C.P (qG t (.pointer (dB ((a.add (x.toNat*k)).add j))) b) h λ_ h'=>K h':=
 (H.own g c).ZR q o p n u E j vs r y A m d D λh' z w=>v h' (H.nr g c w z)
end
def HP.all:List HP->HP
 |[]=>emp
 |A::L=>A.sep (HP.all L)
variable {L:List HP}
section
variable {B:aw} {A:HP}
theorem aa.lp:∀{L:List HP} {As:List HP},aa B h0 h (HP.all L::As)->aa B h0 h (L++As)
 |[],_,H=>H.rest
 |A::L,As,H=>by
  have e:aa B h0 h (HP.all L::A::As):=H.mg;have f:=aa.lp e;exact f.pick (λi=>if i=0 then L.length else if i<=i0 L then i-1 else i) (λa b c=>j7) λi X d=>by
   try dsimp only
   rw[zu]at d;cases i with
   |zero=>simp at d;subst d;rw[g9 i4,qh (ql _),qW];rfl
   |succ i=>
    rw[qp]at d;rw[hU i5];by_cases g:i<i0 L
    ·rw[qm g]at d;rw[g9 i5,qm i5];simpa using d
    ·rw[qh i5]at d;rw[hU i5,qh i5];rw[show i+1-i0 L=(i-i0 L)+1 by omega,qp];exact d
theorem aa.closeAll:∀(L:List HP) {As:List HP},aa B h0 h (L++As)->aa B h0 h (HP.all L::As)
 |[],As,H=>((H.comp (.one (A:=emp) (aP.refl _ _) trivial)).be:aa B h0 h (emp::As))
 |A::L,As,H=>by
  have g:aa B h0 h (L++(A::As)):=H.pick (λi=>if i<i0 L then i+1 else if i=i0 L then 0 else i) (λa b c=>j7) λi X d=>by
   try dsimp only
   by_cases e:i<i0 L
   ·rw[qm e]at d;rw[g9 e,zu,qp,qm e];exact d
   ·rw[qh i5]at d;by_cases f:i=i0 L
    ·subst f;rw[qW]at d;rw[hU i5,g9 rfl];simpa using d
    ·rw[hU e,hU f,zu];obtain⟨j,rfl⟩:∃j,i=i0 L+(j+1):=⟨i-i0 L-1,i5⟩
     rw[zn,qp]at d;rw[show L.length+(j+1)=(i0 L+j)+1 by omega,qp,qh i5,zn];exact d
  exact(aa.closeAll L g).jd
theorem aa.oX{P:Prop}(H:aa B h0 h (A.and P::As)):aa B h0 h (A::As)/\P:=⟨H.acj 0 i4,H.fact 0 i4⟩
theorem aa.tooX{P:Prop}(H:aa B h0 h (A::As))(p:P):aa B h0 h (A.and P::As):=H.agE 0 i4 p
end
def dH{α:Type}(e:TypeId)(s:Sl)(b:TypeId)(k:Nat)(f:α->aT)(a:List (List α)):HP:=
 HP.ex λrs:List Sl=>(HP.all (af e s 1 bg rs::bv b k f rs a)).and (i0 rs=i0 a)
section
variable {C:Ctx} {B:aw} {e:Nat}
theorem aa.vA(H:aa B h0 h (dH e s e2 k f ll::As)):∃rs:List Sl,i0 rs=i0 ll/\aa B h0 h ((af e s 1 bg rs::bv e2 k f rs ll)++As):=by obtain⟨rs,H⟩:=H.oW;obtain⟨H,a⟩:=H.oX;exact⟨rs,a,H.lp⟩
theorem aa.Dx{rs:List Sl}(a:i0 rs=i0 ll)(H:aa B h0 h ((af e s 1 bg rs::bv e2 k f rs ll)++As)):aa B h0 h (dH e s e2 k f ll::As):=
 ((aa.closeAll _ H).tooX a).ub (F:=λrs:List Sl=>(HP.all (af e s 1 bg rs::bv e2 k f rs ll)).and (i0 rs=i0 ll)) rs
theorem aa.BE(H:aa B h0 h As)(e a k:Nat)(f:α->aT):aa B h0 h (dH e ⟨eH,0,0⟩ a k f []::As):=
 aa.Dx (rs:=[]) i4 ((H.nil e 1 bg).be)
theorem aa.pQ{Bs:List HP}(H:aa B h0 h (As++Bs)):aa B h0 h As:=H.pick id (λ_ _ h=>h) λi A a=>by
 rw[id,qm (qk.1 a).1];exact a
theorem aa.rP(H:aa B h0 h (dH e s e2 k f ll::As))(a:∀x,i0 (f x)=k):eT h s k f ll:=by obtain⟨rs,b,H⟩:=H.vA;exact aa.Nm (aa.pQ H) b a
theorem aa.uc(H:aa B h0 h (dH e s e2 k f ll::As)):s.len=i0 ll/\s.len<=s.cap:=by obtain⟨rs,a,H⟩:=H.vA;exact⟨by rw[(H.own 0 i4).len,a],(H.own 0 i4).cap⟩
theorem aa.BF(d:C.Ok){r:Sl}{x:List α}(H:aa B h0 h (dH e s e2 k f ll::af e2 r k f x::As))(m:bG C.toAQ t e 1 [.slice eH 0 0] 24)(g:i0 ll+1<=2^32){ty:Nat}{K:Sl->g0->Prop}
  (l:∀a h',aa B h0 h' (dH e a e2 k f (ll++[x])::As)->K a h'):
  bz C.P (zL t 1 #[(0,.slice r.ptr r.len r.cap)]) (.one (.sc .slc)) h λv j=>bz C.P (zx #[t,t] ty #[.slice s.ptr s.len s.cap,.slice v.ptr v.len v.cap]) (.one (.sc .slc)) j K:=by
 obtain⟨rs,c,H⟩:=H.vA;refine H.push d 0 i4 m i4 i6 (λ_=>rfl) jQ r i4 i6 i5 λa h' b=>l a h' ?_;refine aa.Dx (rs:=rs++[r]) m7 ?_;rw[tZ c];have b:aa B h0 h' (af e a 1 bg (rs++[r])::(bv e2 k f rs ll++af e2 r k f x::As)):=b;have i:af e a 1 bg (rs++[r])::(bv e2 k f rs ll++[af e2 r k f x])++As=af e a 1 bg (rs++[r])::(bv e2 k f rs ll++af e2 r k f x::As):=jj
 rw[i];exact b
theorem aa.ahm(H:aa B h0 h (dH e s e2 k f ll::As))(j:Nat)(o:j<=i0 ll):aa B h0 h (dH e ⟨s.ptr,j,s.cap⟩ e2 k f (ll.take j)::As):=by
 obtain⟨rs,m,H⟩:=H.vA;have H:=H.cut 0 i4 (λ_=>rfl) j i5;refine aa.Dx (rs:=rs.take j) (by simp[m]) ?_;have n:bv e2 k f (rs.take j) (ll.take j)=(bv e2 k f rs ll).take j:=by unfold bv;rw[List.take_zipWith]
 rw[n];have H:aa B h0 h (af e ⟨s.ptr,j,s.cap⟩ 1 bg (rs.take j)::(bv e2 k f rs ll++As)):=H;have g:=FU (e:=e2) (k:=k) (f:=f) m;refine H.pick (λi=>if i<=j then i else i+(i0 ll-j)) (λa b c=>by(try dsimp only at c);split at c<;>split at c<;>omega) λi X d=>?_
 try dsimp only
 cases i with
 |zero=>rw[g9 i5];exact d
 |succ i=>
  rw[zu,qp]at d;by_cases l:i<j
  ·rw[g9 i5,qp];rw[qm i9,List.getElem?_take_of_lt l]at d;rw[qm i5];exact d
  ·rw[hU i5,show i+1+(i0 ll-j)=(i+(i0 ll-j))+1 by omega,qp];rw[qh i9]at d;rw[qh i5];have:i-i0 ((bv e2 k f rs ll).take j)=i+(i0 ll-j)-i0 (bv e2 k f rs ll):=by simp[g];omega
   rw[<-this];exact d
end
namespace Gf
theorem ZS{p:UInt8->Prop}(h:∀n,n<256->p (yR n))(a:UInt8):p a:=by
 have:=h a.toNat (UInt8.toNat_lt a)
 rwa [UInt8.ofNat_toNat]at this
def x2(a:UInt8):UInt8:=(a<<<1)^^^(if a&&&0x80=0 then 0 else 0x1b)
def x3(a:UInt8):UInt8:=x2 a^^^a
def pw:Nat->UInt8
 |0=>1
 |n+1=>x3 (pw n)
theorem ado(a b c:UInt8):(a^^^b)&&&c=(a&&&c)^^^(b&&&c):=by apply UInt8.toBitVec_inj.1;simp[UInt8.toBitVec_xor,UInt8.toBitVec_and];ext i hi;simp[Bool.and_xor_distrib_right]
theorem adp(a b:UInt8):(a^^^b)<<<1=(a<<<1)^^^(b<<<1):=by apply UInt8.toBitVec_inj.1;simp[UInt8.toBitVec_xor,UInt8.toBitVec_shiftLeft,BitVec.shiftLeft_xor_distrib]
theorem No:∀a:UInt8,a&&&0x80=0∨a&&&0x80=0x80:=ZS j5
theorem ZT(a b c d:UInt8):(a^^^b)^^^(c^^^d)=(a^^^c)^^^(b^^^d):=by ac_rfl
theorem afd(a b:UInt8):x2 (a^^^b)=x2 a^^^x2 b:=by
 unfold x2;rw[ado,adp];rcases No a with ha|ha<;>rcases No b with hb|hb<;>rw[ha,hb]
 ·simp
 ·simp[UInt8.xor_assoc]
 ·rw[ZT];simp
 ·rw[ZT];simp
theorem afe(a b:UInt8):x3 (a^^^b)=x3 a^^^x3 b:=by unfold x3;rw[afd,ZT]
def ud:Nat->UInt8->UInt8
 |0,a=>a
 |n+1,a=>x3 (ud n a)
theorem So(a b:UInt8):∀n,ud n (a^^^b)=ud n a^^^ud n b
 |0=>rfl
 |n+1=>by simp only[ud,So a b n,afe]
theorem JR(a:UInt8)(m:Nat):∀n,ud (n+m) a=ud n (ud m a)
 |0=>by simp[ud]
 |n+1=>by rw[Nat.add_right_comm];simp only[ud,JR a m n]
theorem Np:∀n,ud n 0=0
 |0=>rfl
 |n+1=>by rw[ud,Np n];rfl
theorem AS:∀n,pw n=ud n 1
 |0=>rfl
 |n+1=>by rw[pw,ud,AS n]
def ahn:Nat:=939374623831894136699086600277250597547650664638770418422125146541797353646788332867483593573384618611044815625336497665827114626705134492515730415652478061620339993830966980270842846318821775850471098591710629241171812800746666233448222972174585295916389942636813666312872914849454985560152530477328703759683306625234997237483834721220409437442253146756845415190424543171129629468776480674528486868811725071010351012234056630775688111116293610821126543142160426617079940511630006820862697466582575257349116925728488930366609138264019883664906661504235885380294353134295748489096855100647154935187045898006656778240
def lg(a:UInt8):Nat:=(ahn>>>(8*a.toNat))%256
theorem HX:∀a:UInt8,lg a<255:=ZS j5
theorem TN:∀a:UInt8,a≠0->pw (lg a)=a:=ZS j5
theorem TO:∀n,n<255->lg (pw n)=n:=j5
theorem aff:pw 255=1:=j5
theorem TP:∀n,n<255->pw n≠0:=j5
theorem Wk(n:Nat):pw (n+255)=pw n:=by rw[AS,JR,<-AS 255,aff,<-AS]
theorem Wm(n:Nat):pw (n%255)=pw n:=by
 have:∀k m,pw (m+255*k)=pw m:=by
  intro k
  induction k with
  |zero=>intro m;rfl
  |succ k ih=>intro m;rw[Nat.mul_succ,<-w5,Wk,ih]
 have h:=this (n/255) (n%255);rw[Nat.mod_add_div]at h;exact h.symm
def mul(a b:UInt8):UInt8:=if a=0∨b=0 then 0 else pw ((lg a+lg b)%255)
def inv(a:UInt8):UInt8:=if a=0 then 0 else pw ((255-lg a)%255)
theorem mul_zero(a:UInt8):mul a 0=0:=by simp[mul]
theorem zero_mul(a:UInt8):mul 0 a=0:=by simp[mul]
theorem mul_comm(a b:UInt8):mul a b=mul b a:=by
 unfold mul;rw[Nat.add_comm];by_cases h:a=0∨b=0
 ·rw[g9 h,g9 h.symm]
 ·rw[hU h,hU λx=>h x.symm]
theorem Nq(a b:UInt8)(d:a≠0):mul a b=ud (lg a) b:=by
 by_cases c:b=0
 ·subst c;rw[mul_zero,Np]
 ·rw[mul,hU (by simp[d,c]),Wm,AS,JR,<-AS,TN b c]
theorem kj(a b c:UInt8):mul a (b^^^c)=mul a b^^^mul a c:=by
 by_cases d:a=0
 ·subst d;simp[zero_mul]
 ·rw[Nq _ _ d,Nq _ _ d,Nq _ _ d,So]
theorem Sq(a b c:UInt8):mul (a^^^b) c=mul a c^^^mul b c:=by rw[mul_comm,kj,mul_comm c a,mul_comm c b]
theorem Wo{a b:UInt8}(d:a≠0)(c:b≠0):mul a b≠0:=by rw[mul,hU (by simp[d,c])];exact TP _ (y7 _ i6)
theorem Wp{a b:UInt8}(d:a≠0)(c:b≠0):lg (mul a b)=(lg a+lg b)%255:=by rw[mul,hU (by simp[d,c]),TO _ (y7 _ i6)]
theorem mul_assoc(a b c:UInt8):mul (mul a b) c=mul a (mul b c):=by
 by_cases e:a=0
 ·subst e;simp[zero_mul]
 by_cases d:b=0
 ·subst d;simp[zero_mul,mul_zero]
 by_cases f:c=0
 ·subst f;simp[mul_zero]
 rw[mul,hU (by simp[Wo e d,f]),Wp e d,mul,hU (by simp[e,Wo d f]),Wp d f];congr 1;omega
theorem afg:lg 1=0:=j5
theorem one_mul(a:UInt8):mul 1 a=a:=by
 by_cases b:a=0
 ·subst b;rfl
 ·rw[mul,hU o0,afg,wm,Wm,TN a b]
theorem mul_one(a:UInt8):mul a 1=a:=by rw[mul_comm,one_mul]
theorem afh{a:UInt8}(b:a≠0):inv a≠0:=by rw[inv,hU b];exact TP _ (y7 _ i6)
theorem JS{a:UInt8}(b:a≠0):mul a (inv a)=1:=by
 have c:=HX a;rw[mul,hU (by simp[b,afh b]),inv,hU b,TO _ (y7 _ i6)];have:(lg a+(255-lg a)%255)%255=0:=i5
 rw[this];rfl
end Gf
structure Pow where
 off:Bool
 fuse:Option Nat
 offs:Int
def Pow.new:Pow:=⟨fz,eH,0⟩
def Pow.step(w:Pow):Bool×Pow:=
 if w.off then(fz,w)else match w.fuse with
 |none=>(eX,w)
 |some 0=>(fz,⟨eX,dB 0,Go.IntKind.wrap .i64 (w.offs+1)⟩)
 |some (k+1)=>(eX,⟨fz,dB k,w.offs⟩)
structure aZ where
 room:Nat
 l:bP
 wait:Nat
 laid:bP
 has:Bool
 lost:Bool
def aZ.new(a:Nat):aZ:=⟨a,[],0,[],fz,fz⟩
def aZ.append(w:Pow)(d:aZ)(b:aL):Int×Pow×aZ:=
 if b.length≠64 then(1,w,d)
 else if d.lost then(5,w,d)
 else if d.room<=i0 d.l then(7,w,d)
 else if w.off then(14,w,d)
 else if w.step.1 then(0,w.step.2,{d with l:=d.l++[b],wait:=d.wait+1,laid:=[],has:=fz})
 else(14,w.step.2,{d with l:=d.l++[b],wait:=d.wait+1})
def aZ.sync(w:Pow)(d:aZ):Int×Pow×aZ:=
 if d.lost then(5,w,d)
 else if w.step.1 then(0,w.step.2,{d with wait:=0,laid:=[],has:=fz})
 else(14,w.step.2,d)
def aZ.rewrite(w:Pow)(d:aZ)(l:bP):Int×Pow×aZ:=
 if !l.all (λb=>decide (i0 b=64))then(1,w,d)
 else if d.lost then(5,w,d)
 else if d.room<i0 l then(7,w,d)
 else if w.off then(14,w,d)
 else if w.step.1 then(0,w.step.2,{d with l:=l,wait:=0,laid:=[],has:=fz})
 else(14,w.step.2,{d with laid:=l,has:=eX})
abbrev aE:=List (Option aZ)
def aV(ds:aE)(slot:Int):Option aZ:=if 0<=slot/\slot<64 then(ds[slot.toNat]?).join else eH
def ck(ds:aE)(slot:Int)(d:aZ):aE:=ds.set slot.toNat (dB d)
def isLive(ds:aE)(slot:Int):Bool:=match aV ds slot with|some d=>!d.lost|none=>fz
def aU(ds:aE)(cg:aB):aB:=cg.filter (isLive ds)
def fT(w:Pow)(ds:aE)(slot:Int)(b:aL):Int×Pow×aE:=
 match aV ds slot with
 |none=>(if b.length≠64 then 1 else 5,w,ds)
 |some d=>((d.append w b).1,(d.append w b).2.1,ck ds slot (d.append w b).2.2)
def gW(w:Pow)(ds:aE)(slot:Int):Int×Pow×aE:=
 match aV ds slot with
 |none=>(5,w,ds)
 |some d=>((d.sync w).1,(d.sync w).2.1,ck ds slot (d.sync w).2.2)
def lq:List (Int×aL)->Pow->aE->Int×Pow×aE
 |[],w,ds=>(0,w,ds)
 |x::l,w,ds=>let r:=fT w ds x.1 x.2;if r.1=0 then lq l r.2.1 r.2.2 else r
def gM:aB->Pow->aE->Int×Pow×aE
 |[],w,ds=>(0,w,ds)
 |x::l,w,ds=>let r:=gW w ds x;if r.1=0 then gM l r.2.1 r.2.2 else r
theorem sT(x:Int)(l:aB)(w:Pow)(ds:aE):gM (x::l) w ds=if(gW w ds x).1=0 then gM l (gW w ds x).2.1 (gW w ds x).2.2 else gW w ds x:=rfl
theorem ue(x:Int×aL)(l:List (Int×aL))(w:Pow)(ds:aE):lq (x::l) w ds=if(fT w ds x.1 x.2).1=0 then lq l (fT w ds x.1 x.2).2.1 (fT w ds x.1 x.2).2.2 else fT w ds x.1 x.2:=rfl
def dK(l:aB):aB:=((qx 64).map λi:Nat=>(i:Int)).filter λi=>decide (i∈l)
def layAll(l:List (Int×aL))(w:Pow)(ds:aE):Int×Pow×aE:=
 let r:=lq l w ds
 if r.1=0 then gM (dK (l.map qt)) r.2.1 r.2.2 else r
theorem GF(l:aB):l.flatMap ak=l.map (Value.int .i64):=by
 induction l with
 |nil=>rfl
 |cons a t ih=>rw[za,ih];rfl
theorem KP{w:World}{e:TypeId}{b:Nat}{rest:aT}{l:aB}(c:w.heap[b]?=dB (.cells (l.flatMap ak++rest).toArray e (0,0))):Sort.Holds (Value.int .i64) w b 0 l.toArray:=by
 intro j d;have a:j<i0 l:=m8
 refine⟨?_,by simp[World.frozen?,c]⟩;rw[GF]at c;have:(l.map (Value.int .i64)++rest)[j]?=dB (xF xL l[j]):=by rw[qm k7,qP,qc a];rfl
 simp[World.cell?,c,this,a]
theorem Nr(l a:aB)(rest:aT)(d:i0 a=i0 l):Sort.putCells (Value.int .i64) 0 a.toArray (l.flatMap ak++rest).toArray=(a.flatMap ak++rest).toArray:=by
 rw[GF,GF];apply yU;intro i;simp only[Sort.putCells,Array.getElem?_mapIdx,zU,wW,wm,Nat.zero_le,true_and];by_cases b:i<i0 l
 ·rw[qm k8,qm i9];have c:i<i0 a:=i5
  simp[b,c]
 ·rw[qh i9,qh i9];simp only[qq,d];cases h:rest[i-i0 l]? with
  |none=>rfl
  |some x=>simp only[qQ];rw[hU b]
theorem Ns{P:Program}{id:FuncId}(D:∀(ff off cap:Nat) (m:aB) (w:World),Sort.Holds (Value.int .i64) w ff off m.toArray->ff<w.heap.size->i0 m<4611686018427387904->
   Calls P id #[.slice (dB ⟨ff,off,eH⟩) m.length cap] w λe g=>e=.returned (.tuple #[])/\∃n os,g=Sort.grow (Sort.putRow (Value.int .i64) (Sort.ahead w n) ff off (m.mergeSort λx y=>decide (x<=y)).toArray) os)
  (u:∀(p:cj) (cap:Nat) (w:World),Calls P id #[.slice p 0 cap] w λe g=>e=.returned (.tuple #[])/\g=w)
  {e:TypeId} {s:Sl} {l:aB} {h:g0} (r:Own h e s 1 ak l) (t:i0 l<2^40):
  an P id #[.slice s.ptr s.len s.cap] h λv h'=>v=.tuple #[]/\Own h' e s 1 ak (l.mergeSort λx y=>decide (x<=y))/\aP (λb=>¬s.on b) h h':=by
 intro w f;have a:=r.len;rcases r.head with⟨h1,h2,h3⟩|⟨b,rest,h1,h2,h3,h4⟩
 ·subst h3;rw[a,h1];refine(u eH s.cap w).mono ?_;rintro B g ⟨rfl,rfl⟩;have A:(([]:aB).mergeSort λx y=>decide (x<=y))=[]:=jj
  exact⟨_,i4,dg.refl _,i4,by rw[A];exact⟨a,.inl ⟨h1,h2,i4⟩⟩,by rw[<-f];exact aP.refl _ _⟩
 ·rw[h1,a];have o:w.heap[b]?=dB (.cells (l.flatMap ak++rest).toArray e (0,0)):=by rw[f];exact h2
  refine(D b 0 s.cap l w (KP o) (lt_of_block o) i5).mono ?_;rintro B g ⟨rfl,n,os,rfl⟩;have i:=lt_of_block o;have j:i0 (l.mergeSort λx y=>decide (x<=y))=i0 l:=wv l;have c:∀k,k<h.size->(Sort.grow (Sort.putRow (Value.int .i64) (Sort.ahead w n) b 0 (l.mergeSort λx y=>decide (x<=y)).toArray) os).heap[k]?=if b=k then dB (.cells ((l.mergeSort λx y=>decide (x<=y)).flatMap ak++rest).toArray e (0,0))else h[k]?:=by
   intro k q;rw[Sort.heap_grow_old _ _ (by simpa[Sort.putRow,Sort.mapBlock,Sort.ahead,f]using q)];simp only[Sort.putRow,Sort.mapBlock,Sort.ahead,wJ];by_cases d:b=k
   ·subst d;rw[g9 i4,g9 i4,o,qQ,Sort.onCells,Nr _ _ _ j]
   ·rw[hU d,hU d,f]
  rw[f]at i;refine⟨_,i4,⟨i4,i4,i4,by simp[Sort.grow,Sort.putRow,Sort.mapBlock,Sort.ahead]⟩,i4,⟨by rw[j];exact a,.inr ⟨b,rest,h1,?_,h3,h4⟩⟩,?_,?_⟩
  ·rw[c b i,g9 rfl]
  ·simp[Sort.grow,Sort.putRow,Sort.mapBlock,Sort.ahead,f]
  ·intro k q z;rw[c k q,hU λd=>z ⟨0,by rw[h1,d]⟩]
def bJ(p:Int×Int×Int):Bool:=decide (p.1>=1)&&(decide (p.1<=16)&&(decide (p.2.1>=1)&&(decide (p.2.1<=4)&&(decide (p.2.2>=1)&&decide (p.2.2<=24)))))
theorem bT(p:Int×Int×Int):bJ p=eX↔(1<=p.1/\p.1<=16)/\(1<=p.2.1/\p.2.1<=4)/\1<=p.2.2/\p.2.2<=24:=by simp[bJ,and_assoc]
def bN(p:Int×Int×Int):Int:=if bJ p then p.1+p.2.1 else 0
def CM(s:Int):Int:=qe xO (qe xO (s*(6364136223846793005:Int))+(1442695040888963407:Int))
def told(s:Int):Int:=qe xN (zN (CM s) (2^min (32:Int).toNat (qH xO)))
def mh(s n:Int):Int:=qe xL (xA (qe xO (told s)) (qe xO n))
theorem wrap_u64(x:Int):qe xO x=x%18446744073709551616:=rfl
theorem uf(s n:Int)(c:0<n:=by omega)(e:n<=2^62:=by omega):0<=mh s n/\mh s n<n:=by
 unfold mh;have b:qe xO n=n:=pa
 rw[b];have d:0<=qe xO (told s):=pa
 have e2:=vL (qe xO (told s)) c;have a:0<=xA (qe xO (told s)) n:=Int.tmod_nonneg n d;rw[Qw.ai _];exact⟨a,e2⟩
def lr(l:aB)(i:Nat):Int:=l.getD i 0
def rC(l:aB)(i j:Nat):aB:=(l.set i (lr l j)).set j (lr l i)
theorem Nt(l:aB)(i j:Nat):i0 (rC l i j)=i0 l:=by simp[rC]
def gT(n:Nat)(s:Int)(l:aB):Nat->Int×aB
 |0=>(s,l)
 |k+1=>(CM (gT n s l k).1,rC (gT n s l k).2 k (k+(mh (gT n s l k).1 ((n-k:Nat):Int)).toNat))
theorem ug(n:Nat)(s:Int)(l:aB):∀k,(gT n s l k).2.length=i0 l
 |0=>rfl
 |k+1=>by rw[gT,Nt,ug n s l k]
theorem GG{l:aB}{i:Nat}(h:i<i0 l):lr l i∈l:=by rw[lr,qd,qc h];exact qf h
theorem ZU{l:aB}{i j:Nat}(b:i<i0 l)(c:j<i0 l){x:Int}(a:x∈rC l i j):x∈l:=by
 rcases wA a with h|h
 ·rcases wA h with h|h
  ·exact h
  ·rw[h];exact GG c
 ·rw[h];exact GG b
def upto(n:Nat):aB:=(qx n).map λi:Nat=>(i:Int)
theorem ik(n:Nat):i0 (upto n)=n:=by simp[upto]
theorem GH(n:Nat)(s:Int):∀k,k<=n->∀x∈(gT n s (upto n) k).2,0<=x/\x<n
 |0,_,x,hx=>by
  simp only[gT,upto,qo,qA]at hx;obtain⟨i,j,rfl⟩:=hx;omega
 |k+1,hk,x,hx=>by
  have d:k<n->n-k<=2^62->k+(mh (gT n s (upto n) k).1 ((n-k:Nat):Int)).toNat<n:=λl m=>by
   have:=uf (gT n s (upto n) k).1 ((n-k:Nat):Int);omega
  have f:=ug n s (upto n) k;rw[ik]at f;by_cases b:n-k<=2^62
  ·refine GH n s k i5 x (ZU i5 ?_ hx);have:=d i5 b;omega
  ·--beyond any size:what is set is 0 or a member
   have c:∀y∈rC (gT n s (upto n) k).2 k (k+(mh (gT n s (upto n) k).1 ((n-k:Nat):Int)).toNat),y∈(gT n s (upto n) k).2∨y=0:=by
    intro y e;have g:∀i,lr (gT n s (upto n) k).2 i∈(gT n s (upto n) k).2∨lr (gT n s (upto n) k).2 i=0:=λi=>by
     by_cases h:i<(gT n s (upto n) k).2.length
     ·exact .inl (GG h)
     ·right;simp only[lr,qd];rw[qI i5];rfl
    rcases wA e with h|h
    ·rcases wA h with h|h
     ·exact .inl h
     ·rw[h];exact g _
    ·rw[h];exact g _
   rcases c x hx with h|h
   ·exact GH n s k i5 x h
   ·subst h;omega
def iH(l:aB):aB:=l.mergeSort λx y=>decide (x<=y)
theorem Dy(l:aB):i0 (iH l)=i0 l:=wv l
theorem vS(l:aB)(x:Int):x∈iH l↔x∈l:=List.mem_mergeSort
def Fm(s:Int)(n k:Nat):aB:=iH ((gT n s (upto n) k).2.take k)
theorem ZV{s:Int}{n k:Nat}(b:k<=n){x:Int}(a:x∈Fm s n k):0<=x/\x<n:=
 GH n s k b x (zr ((vS _ _).1 a))
theorem ZW(s:Int)(n k:Nat)(a:k<=n):i0 (Fm s n k)=k:=by rw[Fm,Dy,qR,ug,ik];omega
def fC(l:Nat):Nat:=if l<=1 then l else if l<=4 then 2 else if l<=9 then 3 else if l<=16 then 4 else 5
def Fo(r:Nat):Nat:=if r=0 then 0 else if r=1 then 1 else if r<=3 then 2 else 3
def pR(l k:Nat):Nat:=
 (if k>1 then 1048576/(k*(k-1))else 1048576/l)+
  (if k<l/fC l then 1048576*fC l/(l*k)else if k=l/fC l then 1048576*fC l*Fo (fC l)/l else 0)
def mN(l:Nat):Nat->Nat
 |0=>0
 |k+1=>mN l k+pR l (k+1)
def jR(l:Nat):aB:=(qx l).map λk=>((mN l (k+1):Nat):Int)
theorem lN(l:Nat):i0 (jR l)=l:=by simp[jR]
def TQ(t:aB)(x:Int):Nat:=(t.findIdx λy=>decide (y>x))+1
theorem HY:∀l,l<=20->∀k,k<=20->pR l k<=2^30:=j5
theorem Fp(l:Nat)(a:l<=20):∀k,k<=20->mN l k<=k*2^30
 |0,_=>by simp[mN]
 |k+1,hk=>by
  have:=Fp l a k i5;have:=HY l a (k+1) hk;rw[mN];omega
theorem Nu:∀l,l<=20->1<=l->0<mN l l:=j5
theorem HZ(l:Nat)(h:1<=l):(jR l).getLast?=dB ((mN l l:Nat):Int):=by
 obtain⟨k,rfl⟩:∃k,l=k+1:=⟨l-1,i5⟩
 simp[jR,zB]
def Dz(seed id:Int):Int:=qe xO (qe xN ((qO (qH xN) seed^^^(qO (qH xN) (qe xN ((qe xN id)*(2654435761:Int))))).toNat:Nat))
def Fq(s:Int)(n:Nat):Nat:=TQ (jR n) (mh s (mN n n))
theorem uh(s:Int)(n:Nat)(b:1<=n)(a:n<=20):Fq s n<=n:=by unfold Fq TQ;have e:=Nu n a b;have d:=Fp n a n a;have c:=uf s (mN n n);have:=List.findIdx_lt_length_of_exists (p:=λy=>decide (y>mh s (mN n n))) (xs:=jR n) ⟨_,List.mem_of_getLast? (HZ n b),by simpa using c.2⟩;rw[lN]at this;omega
def bW(id:Int):Bool:=decide (0<=id)&&decide (id<=65535)
def dD(n:Nat)(seed id:Int):aB:=Fm (CM (CM (Dz seed id))) n (Fq (CM (Dz seed id)) n)
theorem mO{n:Nat}(b:1<=n)(c:n<=20){seed id x:Int}(a:x∈dD n seed id):0<=x/\x<n:=ZV (uh _ n b c) a
theorem vU{n:Nat}(a:1<=n)(b:n<=20)(seed id:Int):i0 (dD n seed id)<=n:=by rw[dD,ZW _ _ _ (uh _ n a b)];exact uh _ n a b
def gx(n:Nat)(l:aB):aL:=l.foldl (λr i=>r.set i.toNat 1) (qi n 0)
theorem pS(n:Nat)(l:aB):i0 (gx n l)=n:=by
 have:∀(l:aB) (r:aL),i0 (l.foldl (λr i=>r.set i.toNat 1) r)=i0 r:=by
  intro l
  induction l with
  |nil=>intro r;rfl
  |cons a t ih=>intro r;rw[zy,ih];simp
 rw[gx,this];simp
def om(n:Nat)(seed id:Int):aL:=gx n (dD n seed id)
theorem Nv(n:Nat)(seed id:Int):i0 (om n seed id)=n:=pS _ _
def lO(K H h:Nat):aL:=(qx K).map (λj=>Gf.pw ((h+1)*(j+1)%255))++(qx H).map λi=>if i=h then 1 else 0
def bB(K H:Nat):bP:=(qx H).map (lO K H)
theorem ui(K H h:Nat):i0 (lO K H h)=K+H:=by simp[lO]
def dV(p:Int×Int×Int)(seed:Int)(ids:aB):bP:=
 if bJ p then bB p.1.toNat p.2.1.toNat++(ids.filter bW).map (om (bN p).toNat seed)else[]
theorem oq{α:Type}{f:α->Bool}{l:List α}{k:Nat}(a:k<i0 l):(l.take (k+1)).filter f=if f l[k]then(l.take k).filter f++[l[k]]else(l.take k).filter f:=by rw[zJ a,zl];by_cases h:f l[k]=eX<;>simp[h]
abbrev Row:=aL
abbrev aJ:=List Row
def scaleB(c:UInt8)(l:Row):Row:=l.map (Gf.mul c)
def cV(c:UInt8)(a to:Row):Row:=zf (λx y=>y^^^Gf.mul c x) a to
def aK(r:Row)(bu:Nat):UInt8:=r.getD bu 0
def aC(m:aJ)(i:Nat):Row:=m.getD i []
def je(m:aJ)(a bu:Nat):Option Nat:=(qx m.length).find? λi=>decide (a<=i)&&(aK (aC m i) bu !=0)
def ju(m:aJ)(i j:Nat):aJ:=(m.set i (aC m j)).set j (aC m i)
def fh(a bu:Nat)(m:aJ)(k:Nat):aJ:=m.mapIdx λi r=>if i<k/\i≠a then cV (aK r bu) (aC m a) r else r
def ke(a bu:Nat)(m:aJ):aJ:=m.set a (scaleB (Gf.inv (aK (aC m a) bu)) (aC m a))
def jv(s:Nat×aJ)(bu:Nat):Nat×aJ:=
 match je s.2 s.1 bu with
 |none=>s
 |some i=>(s.1+1,fh s.1 bu (ke s.1 bu (ju s.2 s.1 i)) s.2.length)
def bH(m:aJ):Nat->Nat×aJ
 |0=>(0,m)
 |c+1=>jv (bH m c) c
def eU(m:aJ):Nat:=i0 (aC m 0)
def ce(m:aJ):Nat:=(bH m (eU m)).1
def aS(n:Nat)(m:aJ):Prop:=∀r∈m,i0 r=n
theorem oD(c:UInt8)(l:Row):i0 (scaleB c l)=i0 l:=by simp[scaleB]
theorem bZ{c:UInt8}{a t:Row}(h:i0 a=i0 t:=by omega):i0 (cV c a t)=i0 t:=by simp[cV,h]
theorem bw{m:aJ}{i:Nat}(h:i<i0 m):aC m i=m[i]:=by rw[aC,qd,qc h];rfl
theorem cC{n:Nat}{m:aJ}(h:aS n m){i:Nat}(a:i<i0 m:=by omega):i0 (aC m i)=n:=by rw[bw a];exact h _ (qf a)
theorem GI{n:Nat}{m:aJ}(h:aS n m){i:Nat}{r:Row}(b:i0 r=n):aS n (m.set i r):=λx a=>by
 rcases wA a with h1|h1
 ·exact h x h1
 ·rw[h1];exact b
theorem TR{P:Nat->Bool}{n:Nat}(h:∀j,j<n->P j=fz):(qx n).find? P=eH:=by rw[wu];intro x a;rw[qA]at a;simp[h x a]
theorem TS{P:Nat->Bool}{n k:Nat}(e:k<n)(h:∀j,j<k->P j=fz)(c:P k=eX):(qx n).find? P=dB k:=by
 rw[List.find?_eq_some_iff_append];refine⟨c,qx k,List.range' (k+1) (n-k-1),?_,λa b=>?_⟩
 ·rw[y5,y5];have d:n=k+(n-k):=i5
  have e2:n-k=(n-k-1)+1:=i5
  conv=>lhs;rw[d,<-List.range'_append_1 (s:=0) (m:=k) (n:=n-k)]
  rw[wm]
  conv=>lhs;rw[e2,List.range'_succ]
 ·rw[qA]at b;simp[h a b]
theorem rD{m:aJ}{a bu i:Nat}(h:je m a bu=dB i):a<=i/\i<i0 m/\aK (aC m i) bu≠0:=by have b:=List.find?_some h;have c:=List.mem_of_find?_eq_some h;simp at b c;exact⟨b.1,c,b.2⟩
theorem Qf{m:aJ}{a bu:Nat}(h:je m a bu=eH):∀i,a<=i->i<i0 m->aK (aC m i) bu=0:=λi b c=>by
 have:=wu.1 h i (qA.2 c);simpa[b]using this
theorem lJ(m:aJ)(i j:Nat):i0 (ju m i j)=i0 m:=by simp[ju]
theorem DA{n:Nat}{m:aJ}(h:aS n m){i j:Nat}(a:i<i0 m)(b:j<i0 m):aS n (ju m i j):=GI (GI h (cC h b)) (cC h a)
theorem ot(t c:Nat)(m:aJ):i0 (ke t c m)=i0 m:=by simp[ke]
theorem vV{n:Nat}{m:aJ}(h:aS n m){t c:Nat}(a:t<i0 m):aS n (ke t c m):=GI h (by rw[oD];exact cC h a)
theorem ou(t c:Nat)(m:aJ)(k:Nat):i0 (fh t c m k)=i0 m:=by simp[fh]
theorem wd{n:Nat}{m:aJ}(h:aS n m){t c k:Nat}(b:t<i0 m):aS n (fh t c m k):=λx d=>by
 obtain⟨i,e,rfl⟩:=List.mem_mapIdx.1 d;have a:=h _ (qf e);split
 ·rw[bZ (by rw[cC h b,a])];exact a
 ·exact a
theorem Wq(t c:Nat)(m:aJ):fh t c m 0=m:=by apply zq;intro i;simp[fh,vx]
theorem pT{t c k:Nat}{m:aJ}{i:Nat}(a:i<i0 m):aC (fh t c m k) i=if i<k/\i≠t then cV (aK (aC m i) c) (aC m t) (aC m i)else aC m i:=by rw[bw (by rw[ou];exact a),bw a];simp[fh]
theorem Wr{t c k:Nat}{m:aJ}(b:k<i0 m)(d:k≠t):fh t c m (k+1)=(fh t c m k).set k (cV (aK (aC m k) c) (aC m t) (aC m k)):=by
 apply zq;intro i;simp only[fh,qU,vx,List.length_mapIdx];by_cases a:k=i
 ·subst a;simp only[if_true,b,qc b,qQ];rw[g9 ⟨i5,d⟩,bw b]
 ·rw[hU a];congr 1;funext r;by_cases h:i<k/\i≠t
  ·rw[g9 h,g9 ⟨i5,h.2⟩]
  ·rw[hU h,hU λe=>h ⟨i5,e.2⟩]
theorem Ws{t c:Nat}{m:aJ}:fh t c m (t+1)=fh t c m t:=by
 apply zq;intro i;simp only[fh,vx];congr 1;funext r;by_cases h:i<t/\i≠t
 ·rw[g9 h,g9 ⟨i5,h.2⟩]
 ·rw[hU h,hU λa=>h ⟨i5,a.2⟩]
theorem Wu{n:Nat}{s:Nat×aJ}(h:aS n s.2)(bu:Nat):aS n (jv s bu).2/\(jv s bu).2.length=i0 s.2:=by
 unfold jv;cases hb:je s.2 s.1 bu with
 |none=>exact⟨h,i4⟩
 |some i=>
  have a:=rD hb;dsimp only;refine⟨wd (vV (DA h i5 a.2.1) (by rw[lJ];omega)) (by rw[ot,lJ];omega),by rw[ou,ot,lJ]⟩
theorem ig{n:Nat}{m:aJ}(h:aS n m):∀c,aS n (bH m c).2/\(bH m c).2.length=i0 m
 |0=>⟨h,i4⟩
 |c+1=>by
  have:=ig h c;have a:=Wu this.1 c;rw[bH];exact⟨a.1,by rw[a.2,this.2]⟩
theorem ZX{s:Nat×aJ}(h:s.1<=i0 s.2)(bu:Nat):(jv s bu).1<=(jv s bu).2.length:=by
 unfold jv;cases hb:je s.2 s.1 bu with
 |none=>exact h
 |some i=>
  have a:=rD hb;dsimp only;rw[ou,ot,lJ];omega
theorem BG(m:aJ):∀c,(bH m c).1<=(bH m c).2.length
 |0=>by simp[bH]
 |c+1=>ZX (BG m c) c
variable {t t2 e k:Nat} {z:aT} {by_:Nat} {α:Type} {h h0:g0} {p B:aw} {s v:Sl} {f:α->aT} {l l2:List α} {As:List HP}
section
variable {C:Ctx} {ty:Nat}
theorem Own.Nw(N:C.Ok)(Q:bG C.toAQ t e k z by_)(D:∀x,i0 (f x)=k)(w:Own h e s k f l)(R:Seq h p v k f l2)(B:∀x,∀c∈f x,c.oneCell'=eX)(j:Nat)(S:j<=i0 l){r:cj}{G W:Nat}(i:r=if s.cap=j then s.ptr else s.ptr.map (·.add (j*k)))(A:G=s.len-j){K:Int->g0->Prop}
  (F:∀n h',Own h' e s k f (l.take j++(l2.take (i0 l-j)++l.drop (j+i0 l2)))->aP (λb=>¬s.on b) h h'->K n h'):
  bz C.P (yg #[t,t2] ty #[.slice r G W,.slice v.ptr v.len v.cap]) (.one (.sc (.int .i64))) h K:=by
 unfold bz yg;simp only[zU,yb,qp];refine au.bind (au.always (aG (Q.under N)) ?_);refine au.bind (au.pure' ?_);refine au.bind (au.always (Q.size N) ?_);have g:=w.len;have q:=R.len;have O:=w.cap;obtain⟨m,E⟩:∃m,m=Nat.min v.len G:=⟨_,rfl⟩
 rw[<-E];have M:m<=i0 l2:=by rw[E,<-q];exact Nat.min_le_left _ _
 have u:m<=i0 l-j:=by rw[E,<-g,A];exact vZ _ _
 have V:m=min l2.length (i0 l-j):=by rw[E,A,g,q]
 have H:=R.take m M;have U:l2.take (i0 l-j)++l.drop (j+i0 l2)=l2.take m++l.drop (j+m):=by
  rcases Nat.le_total l2.length (i0 l-j)with hh|hh
  ·rw[qg hh,show m=i0 l2 by omega,qN]
  ·rw[show m=i0 l-j by omega,zc (show l.length<=j+i0 l2 by omega),zc i5]
 rw[U]at F;have I:wO k m (.slice v.ptr v.len v.cap)=wO k m (.slice v.ptr m v.cap):=by cases v.ptr<;>rfl
 rw[I];refine au.bind (fX (v:=⟨v.ptr,m,v.cap⟩) D H ?_);have d:m=0->l.take j++(l2.take m++l.drop (j+m))=l:=λe=>by rw[e];simp
 rcases w.head with⟨h1,h2,h3⟩|⟨b,rest,h1,h2,h3,h4⟩
 ·have a:r=eH:=by rw[i,h1];split<;>rfl
  rw[a];subst h3;have:m=0:=by simp at u;exact u
  refine au.pure' ⟨_,i4,F _ h ?_ (aP.refl _ _)⟩;rw[d this];exact w
 ·by_cases o:s.cap=j
  ·have a:r=dB ⟨b,0,eH⟩:=by rw[i,g9 o,h1]
   rw[a];have y:m=0:=i5
   refine au.bind ?_;rw[y];simp only[vP,List.flatMap_nil];exact au.pure' (au.pure' ⟨_,i4,F _ h (by rw[d y];exact w) (aP.refl _ _)⟩)
  ·have a:r=dB ⟨b,0+j*k,eH⟩:=by rw[i,hU o,h1];simp only[qQ];rw[add_eq]
   rw[a];refine au.bind ?_;have L:l.flatMap f++rest=(l.take j).flatMap f++((l.drop j).take m).flatMap f++((l.drop (j+m)).flatMap f++rest):=by rw[<-qn,<-qY,<-qY,<-zI,qn (List.take j l),qC,qC]
   rw[L]at h2;refine eO (e:=e) (pre:=(l.take j).flatMap f) (old:=((l.drop j).take m).flatMap f) (post:=(l.drop (j+m)).flatMap f++rest) h2 (by rw[dl D,dl D,qR,qR,zb];congr 1;omega) (by rw[dl D,qR];rw[wE S];omega) ?_ ?_
   ·intro c T;obtain⟨x,_,J⟩:=zE.1 T;exact B x c J
   ·refine au.pure' ⟨_,i4,F _ _ ⟨by rw[g,qw,qw,qR,qR,zb];omega,.inr ⟨b,rest,h1,?_,h3,h4⟩⟩ (aP.jk h2 λX=>X ⟨0,h1⟩)⟩;rw[ij h2,g9 i4,qY,qY];simp[qn]
theorem aa.Nw(r:C.Ok)(H:aa B h0 h As)(i:Nat)(g:As[i]?=dB (af e s k f l))(A:bG C.toAQ t e k z by_)(q:∀x,i0 (f x)=k)(E:Seq h p v k f l2)(a:∀x,∀c∈f x,c.oneCell'=eX)(j:Nat)(u:j<=i0 l){o:cj}{m D:Nat}(b:o=if s.cap=j then s.ptr else s.ptr.map (·.add (j*k)))(d:m=s.len-j){K:Int->g0->Prop}
  (w:∀n h',aa B h0 h' (As.set i (af e s k f (l.take j++(l2.take (i0 l-j)++l.drop (j+i0 l2)))))->K n h'):
  bz C.P (yg #[t,t2] ty #[.slice o m D,.slice v.ptr v.len v.cap]) (.one (.sc (.int .i64))) h K:=
 (H.own i g).Nw r A q E a j u b d λn h' x y=>w n h' (H.nr i g y x)
end
def b8(n:Int):UInt8:=yR (n%256).toNat
theorem eV(n:Int):qe xM n=((b8 n).toNat:Int):=by
 have h0:=ym n (show(256:Int)≠0 by decide);have a:=wD n (show(0:Int)<256 by decide);have e:((b8 n).toNat:Int)=n%256:=by unfold b8;rw[UInt8.toNat_ofNat'];omega
 rw[e];unfold qe;simp[qH,va]
abbrev rQ:=BitVec 32
def Ia(s:rQ):rQ:=if s&&&1#32=1#32 then(s>>>1)^^^3988292384#32 else s>>>1
def AT:Nat->rQ->rQ
 |0,s=>s
 |n+1,s=>Ia (AT n s)
def Sr(s:rQ)(x:UInt8):rQ:=AT 8 (s^^^BitVec.ofNat 32 x.toNat)
def sU(l:aL):rQ:=l.foldl Sr 4294967295#32
def AU(l:aL):rQ:=4294967295#32^^^sU l
theorem TT(l:aL)(x:UInt8):sU (l++[x])=Sr (sU l) x:=by unfold sU;rw[z6];rfl
theorem Nx(s:rQ):qe xN ((s.toNat:Nat):Int)=(s.toNat:Int):=by have:=s.isLt;unfold qe;simp[qH,va];omega
theorem TU(a b:rQ):qe xN ((qO (qH xN) (a.toNat:Int)^^^qO (qH xN) (b.toNat:Int)).toNat:Nat)=((a^^^b).toNat:Int):=by show qe xN (((qO 32 (a.toNat:Int)^^^qO 32 (b.toNat:Int):BitVec 32).toNat:Nat):Int)=_;rw[yc,yc,vM,vM,vN,vN,Nx]
theorem agF(a b:rQ):qe xN ((qO (qH xN) (a.toNat:Int)&&&qO (qH xN) (b.toNat:Int)).toNat:Nat)=((a&&&b).toNat:Int):=by show qe xN (((qO 32 (a.toNat:Int)&&&qO 32 (b.toNat:Int):BitVec 32).toNat:Nat):Int)=_;rw[yc,yc,vM,vM,vN,vN,Nx]
theorem KQ(n:Int):qe xN n=((qO 32 n).toNat:Int):=by unfold qe;simp[qH,va,BitVec.toNat_ofInt];omega
theorem adq(s:rQ):zN (s.toNat:Int) (2^min (1:Int).toNat (qH xN))=((s>>>1).toNat:Int):=by rw[show min (1:Int).toNat (qH xN)=1 from i4,yi _ i6,BitVec.toNat_ushiftRight,Nat.shiftRight_eq_div_pow];simp
theorem Ss(s:rQ):((s&&&1#32).toNat:Int)=1↔s&&&1#32=1#32:=by
 constructor
 ·intro h;apply BitVec.eq_of_toNat_eq;have:(1#32:rQ).toNat=1:=rfl;omega
 ·intro h;rw[h];rfl
def ov(s:rQ):aL:=(qx 4).map λi=>b8 (zN (s.toNat:Int) (2^(8*i)))
theorem Ny(s:rQ):i0 (ov s)=4:=by simp[ov]
def eF(b:Int)(a:aL):aL:=[87,115,1,b8 b]++a++qi (55-i0 a) 0
def eI(a:Int)(b:aL):aL:=
 if 1<=a/\a<=255/\b.length<=55 then eF a b++ov (AU (eF a b))++[165]else[]
theorem DB{b:Int}{a:aL}(h:i0 a<=55):i0 (eF b a)=59:=by simp[eF];omega
theorem mu{a:Int}{b:aL}(c:1<=a)(d:a<=255)(h3:i0 b<=55):i0 (eI a b)=64:=by unfold eI;rw[g9 ⟨c,d,h3⟩];simp[DB h3,Ny]
def jl(s:ByteArray):aL:=s.data.toList
theorem BH(s:ByteArray):i0 (jl s)=s.size:=rfl
def aho(n:Nat):Obj->Obj
 | .cells c elem (lo,hi)=>.cells c elem (if lo==hi then(n,n+1)else(min lo n,max hi (n+1)))
 |o=>o
theorem au.Wv{P:Program}{h:g0}{b n:Nat}{c:Array f7}{e:TypeId}{K:Unit->g0->Prop}(g:h[b]?=dB (.cells c e (0,0)))(k:n=c.size)(j:∀h',(∀x,x≠b->h'[x]?=h[x]?)->h'.size=h.size->(∃f,h'[b]?=dB (.cells c e f))->K () h'):
  au P (freeze {block:=b,off:=n} 1) h K:=λw d=>by
 refine⟨(),w.freeze {block:=b,off:=n} 1,run_freeze P w _ _,⟨i4,i4,i4,ql _⟩,?_⟩;subst d;have a:(w.freeze {block:=b,off:=n} 1).heap=w.heap.modify b (aho n):=rfl;refine j _ (λx i=>?_) ?_ ?_
 ·rw[a,wJ,hU λe=>i e.symm]
 ·rw[a];simp
 ·rw[a,wJ,g9 i4,g];exact⟨_,i4⟩
section
variable {C:Ctx} {ts:Nat}
theorem ads(d:C.Ok)(F:∃i,C.T.get ts=dB i/\i.cG=.str)(v:∃i,C.T.get t=dB i/\i.cG=.slice e)(D:∃i,C.T.get e=dB i/\i.cG=.int .u8)(s:ByteArray){K:Sl->g0->Prop}(z:∀r h',Sp h h' [lm r 1 az (jl s)]->K r h'):
  bz C.P (convert ts t (.string s)) (.one (.sc .slc)) h K:=by
 obtain⟨J,u,p⟩:=F;obtain⟨I,B,H⟩:=v;obtain⟨i3,a3,y⟩:=D;have A:C.P.underlying ts=dB .string:=by have:=d.cG u;rw[p]at this;exact tv this
 have G:C.P.underlying t=dB (.slice e):=by have:=d.cG B;rw[H]at this;exact jF this
 have u3:C.P.underlying e=dB (.int .u8):=by have:=d.cG a3;rw[y]at this;exact Fh this
 unfold bz convert;refine au.bind (au.always (aG A) ?_);refine au.bind (au.always (aG G) ?_);refine au.bind (au.always (aG u3) ?_);unfold Conv.stringToBytes;refine au.bind (au.JC ⟨λo=>(by cases o),λ_ w=>?_⟩);generalize k:Question.cut (Question.appendCap s.size 0 e) w=cc;have l:s.size<=cc:=by rw[<-k];simp only[Question.cut];omega
 unfold newRow;refine au.bind (au.bind (au.oB (au.pure' ?_)));unfold markStringish;obtain⟨cs,a⟩:∃cs:Array f7,cs=s.data.map (λb=>Value.int .u8 b.toNat)++Array.replicate (cc-s.size) (Value.int .u8 0):=⟨_,rfl⟩
 rw[<-a];refine au.bind (au.bind (au.aex ?_));have g:shapeOf (h.push (.cells cs e)) h.size=dB (e,cs.size):=by unfold shapeOf;simp
 dsimp only;rw[g];refine au.Wv (c:=cs) (e:=e) jj i4 λh' E n j=>?_;refine au.pure' ⟨⟨dB ⟨h.size,0,eH⟩,s.size,cc⟩,i4,z _ _ ?_⟩;obtain⟨f,j⟩:=j;refine .one ⟨by rw[n];simp,λb L _=>by rw[E b i5,Array.getElem?_push,hU i5]⟩ ?_;refine⟨by rw[BH],λi x m=>⟨h.size,0,i4,⟨ql _,by rw[n];simp⟩,?_,trivial⟩⟩;rw[add_zero];have q:i<s.data.size:=by have:=(qk.1 m).1;simpa[jl]using this
 unfold f9;simp only[j,Nat.mul_one,wm,Option.isSome_none,zg,if_false];rw[a,Array.getElem?_append_left nb,Array.getElem?_map];have:s.data[i]?=dB x:=by rw[<-m];simp[jl]
 rw[this];rfl
end
section
variable {C:Ctx} {l:aL}
theorem LZ(u:C.Ok)(J:bG C.toAQ t e 1 z by_)(V:∃i,C.T.get t2=dB i/\i.cG=.str)(hz:i0 z=1)(A:0<by_/\by_<=128)
  (v:Own h e s 1 az l) (x:ByteArray) (Q:i0 l+x.size<=2^32) {ty:Nat} {K:Sl->g0->Prop}
  (I:∀D h',Own h' e D 1 az (l++jl x)->aP (λb=>¬s.on b) h h'->(∀b,D.on b->s.on b∨h.size<=b)->K D h'):
  bz C.P (zx #[t,t2] ty #[.slice s.ptr s.len s.cap,.string x]) (.one (.sc .slc)) h K:=by
 obtain⟨i2,W,Y⟩:=V;have H:C.P.underlying t2=dB .string:=by have:=u.cG W;rw[Y]at this;exact tv this
 obtain⟨G,w,x2,x3,zv,x4,U⟩:=J.info u;have q:∀y∈(jl x).flatMap az,y.oneCell'=eX:=λy hy=>by
  obtain⟨b,_,hb⟩:=zE.1 hy;exact gU b y hb
 have g:((x.extract 0 x.size).data.map λb=>Value.int .u8 (b.toNat:Int))=((jl x).flatMap az).toArray:=by
  have e0:x.extract 0 x.size=x:=by apply ByteArray.ext;simp[ByteArray.data_extract]
  rw[e0];apply yI;simp only[vY,jl];exact List.map_eq_flatMap
 unfold bz zx;simp only[zU,yb,qp];refine au.bind (au.always (aG (J.under u)) ?_);refine au.bind (au.always (J.size u) ?_);refine au.bind (au.always (aG H) ?_);refine au.bind (au.pure' ?_);simp only[zg,if_false,wZ,if_true];refine au.bind (au.pure' ?_);have n:=v.len;have r:∀y,i0 (az y)=1:=λ_=>rfl;have j:=dl r l;have a:=dl r (jl x);have Z:=BH x;have m:∀{h:g0} {K:Array f7->g0->Prop},K ((jl x).flatMap az).toArray h->au C.P (wO 1 x.size (.string x)) h K:=λ{h K} hK=>by
  unfold wO;dsimp only;rw[g];exact au.pure' hK
 by_cases d:s.len+x.size<=s.cap
 ·rw[g9 d];refine au.bind (m ?_);rcases v.head with⟨p1,p2,p3⟩|⟨b,rest,p1,p2,p3,p4⟩
  ·rw[p1];have B:jl x=[]:=q9 i5;refine au.pure' ⟨⟨eH,s.len+x.size,s.cap⟩,i4,I _ _ ⟨?_,.inl ⟨i4,p2,by simp[p3,B]⟩⟩ (aP.refl _ _) ?_⟩
   ·simp;omega
   ·rintro N ⟨o,f⟩;cases f
  ·rw[p1];refine au.bind ?_;rw[add_eq,wm];have F:i0 ((jl x).flatMap az)<=i0 rest:=by rw[a,p3];omega
   refine eO (e:=e) (pre:=l.flatMap az) (old:=rest.take ((jl x).flatMap az).length) (post:=rest.drop ((jl x).flatMap az).length) ?_ ?_ ?_ ?_ ?_
   ·rw[qn,qC];exact p2
   ·rw[qR];exact wE F
   ·rw[j,n];omega
   ·intro c S;exact q c (by simpa using S)
   ·refine au.pure' ⟨⟨dB ⟨b,0,eH⟩,s.len+x.size,s.cap⟩,i4,I _ _ ⟨?_,.inr ⟨b,rest.drop ((jl x).flatMap az).length,i4,?_,?_,d⟩⟩ ?_ ?_⟩
    ·simp;omega
    ·rw[ij p2,g9 rfl];simp
    ·rw[zb,p3,a];show(s.cap-s.len)*1-i0 (jl x)*1=(s.cap-(s.len+x.size))*1;omega
    ·exact aP.jk p2 (λhn=>hn ⟨0,p1⟩)
    ·rintro N ⟨o,f⟩;cases f;exact .inl ⟨0,p1⟩
 ·rw[hU d];have p:Seq h (λ_=>True) s 1 az l:=v.seq r λ_ _=>trivial;have M:=v.cap;refine au.bind (au.always (dc w) ?_);rw[hU λX=>by rcases X.2 with h|h<;>first|exact h|(rw[x3]at h;omega)];refine au.bind (au.always (dc w) ?_);have R:=Sm (s.len+x.size) s.cap;rw[hU (by
   have:vu (s.len+x.size) s.cap*G.bytes<=(16*2^32+16*768)*128:=wy i5 (by rw[x3];exact A.2);omega)]
  refine au.bind (au.JC ⟨λO=>(by cases O),λ_ nn=>?_⟩);refine au.bind (au.always (dc w) ?_);refine au.bind (au.Gt ?_);refine au.bind (fX r p ?_);refine au.bind (m ?_);have L:aH C.P (zeroValue e) zv:=(dc w).bind (by rw[x4];exact .pure);refine au.bind (au.always L ?_);rw[U,Dq];unfold newRow;refine au.bind (au.bind (au.oB (au.pure' (au.pure' ?_))));generalize E:Question.cut (Question.appendCap (s.len+x.size) s.cap e) nn=cc;have k:s.len+x.size<=cc:=by rw[<-E];simp only[Question.cut];omega
  refine⟨⟨dB ⟨h.size,0,eH⟩,s.len+x.size,cc⟩,i4,I _ _ ⟨?_,.inr ⟨h.size,iU z (cc-(s.len+x.size)),i4,?_,?_,k⟩⟩ (aP.push _ _ _) ?_⟩
  ·simp;omega
  ·simp
  ·rw[ol,hz]
  ·rintro N ⟨o,f⟩;cases f;exact .inr (ql _)
theorem aa.Ww(r:C.Ok)(H:aa B h0 h As)(i:Nat)(q:As[i]?=dB (af e s 1 az l))(E:bG C.toAQ t e 1 z by_)(w:∃i,C.T.get t2=dB i/\i.cG=.str)(A:i0 z=1)(j:0<by_/\by_<=128)
  (x:ByteArray) (k:i0 l+x.size<=2^32) {ty:Nat} {K:Sl->g0->Prop} (D:∀f h',aa B h0 h' (As.set i (af e f 1 az (l++jl x)))->K f h'):
  bz C.P (zx #[t,t2] ty #[.slice s.ptr s.len s.cap,.string x]) (.one (.sc .slc)) h K:=by
 obtain⟨y,u,c,p,a⟩:=H;have m:=a i _ q;refine LZ r E w A j m.1 x k λf h' d n g=>D f h' ?_;refine aa.BD y u p a (n.mono λb o F v=>F (m.2 b v)) ⟨d,λb o=>⟨d.lt o,?_⟩⟩;rcases g b o with h1|h1
 ·exact .inl (m.2 b h1)
 ·exact .inr h1
end
structure cu where
 name:ByteArray
 object:Int
 length:Int
 tries:aB
structure av where
 seq:Int
 next:Int
 p:Int×Int×Int
 extra:Int
 drives:aB
 objs:List cu
def agG:cu:=⟨⟨#[]⟩,0,0,[]⟩
def oY(l:List cu)(i:Nat):cu:=l.getD i agG
theorem ow{l:List cu}{i:Nat}(h:i<i0 l:=by omega):oY l i=l[i]:=by unfold oY;rw[qd,qc h];rfl
def fy(n a b:Int):Bool:=decide (a<=n)&&decide (n<=b)
def mP(c:UInt8):Bool:=(decide (97<=c.toNat)&&decide (c.toNat<=122))||(decide (48<=c.toNat)&&decide (c.toNat<=57))||decide (c.toNat=45)
def kW(s:ByteArray):Bool:=s.data.toList.all mP&&(decide (1<=s.size)&&decide (s.size<=12))
def fm(a b:ByteArray):Bool:=Op.bytesLess a.toList b.toList
def jS(l:aB)(most:Int)(i:Nat):Bool:=fy (l.getD i 0) 0 most&&(decide (i=0)||decide (l.getD (i-1) 0<l.getD i 0))
def oZ(l:aB)(most:Int):Bool:=(qx l.length).all (jS l most)
def countP(p:Int×Int×Int)(n:Int):Int:=if bJ p&&decide (0<n)then(n-1)/(p.1*p.2.2)+1 else 0
def gE(m:av)(x:cu):Bool:=
 kW x.name&&(fy x.object 0 (m.next-1)&&(fy x.length 0 (m.p.1*m.p.2.2*8)&&(x.tries.all (fy · 0 15)&&decide ((x.tries.length:Int)=countP m.p x.length))))
def pc(m:av)(i:Nat):Bool:=
 gE m (oY m.objs i)&&((decide (i=0)||fm (oY m.objs (i-1)).name (oY m.objs i).name)&&!(m.objs.take i).any λy=>decide (y.object=(oY m.objs i).object))
def kX(m:av):Bool:=fy m.seq 1 2147483647&&(fy m.next 0 16777216&&(bJ m.p&&fy m.extra 0 16))
def bf(m:av):Bool:=kX m&&(oZ m.drives 63&&(decide (i0 m.objs<=12)&&(qx m.objs.length).all (pc m)))
theorem DC{p:Nat->Bool}{n i:Nat}(a:i<n)(h:p i=fz):(qx n).all p=fz:=List.all_eq_false.2 ⟨i,qA.2 a,by rw[h];simp⟩
theorem sv{p:Nat->Bool}{n:Nat}(h:∀i,i<n->p i=eX):(qx n).all p=eX:=qJ.2 λi a=>h i (qA.1 a)
def bE(n:Int)(k:Nat):aL:=(qx k).map λi=>b8 (zN n (2^(8*(k-1-i))))
theorem cA(n:Int)(k:Nat):i0 (bE n k)=k:=by simp[bE]
def fQ(x:cu):aL:=b8 x.name.size::(x.name.data.toList++(bE x.object 3++(bE x.length 2++x.tries.map b8)))
def bK(m:av):aL:=
 if bf m then bE m.seq 4++(bE m.next 4++([b8 m.p.1,b8 m.p.2.1,b8 m.p.2.2,b8 m.extra,b8 m.drives.length]++(m.drives.map b8++(b8 m.objs.length::m.objs.flatMap fQ))))else[]
def km(seq a c:Int)(b:aL):aL:=eI 2 (bE seq 4++([b8 a,b8 c,b8 b.length]++b))
def dE(b:aL):Nat:=(i0 b+47)/48
def aM(m:av):bP:=(qx (dE (bK m))).map λi:Nat=>km m.seq i (dE (bK m)) (((bK m).drop (48*i)).take 48)
theorem Wx{m:av}(h:bf m=eX):kX m=eX:=by unfold bf at h;simp at h;exact h.1
theorem Nz{m:av}(h:kX m=eX):(1<=m.seq/\m.seq<=2147483647)/\(0<=m.next/\m.next<=16777216)/\bJ m.p=eX/\0<=m.extra/\m.extra<=16:=by unfold kX fy at h;simpa[and_assoc]using h
theorem sV{m:av}{c:aL}(h:c∈aM m):i0 c=64:=by unfold aM at h;obtain⟨i,_,rfl⟩:=qo.1 h;exact mu i6 i6 m5
structure dm where
 object:Int
 block:Int
 id:Int
 p:Int×Int×Int
 seed:Int
 data:aL
theorem pd(n:Int):((b8 n).toNat:Int)=n%256:=by have h0:=ym n (show(256:Int)≠0 by decide);have a:=wD n (show(0:Int)<256 by decide);unfold b8;rw[UInt8.toNat_ofNat'];omega
def iV(r:dm):Bool:=(fy r.object 0 16777215&&(fy r.block 0 7&&bW r.id))&&(bJ r.p&&decide ((r.data.length:Int)=r.p.2.2))
def jf(r:dm):aL:=bE r.object 3++(bE r.block 1++(bE r.id 2++([b8 r.p.1,b8 r.p.2.1,b8 r.p.2.2]++(bE r.seed 4++r.data))))
def cW(r:dm):aL:=if iV r then eI 1 (jf r)else[]
def dv(l:aL):Int:=l.foldl (λn x=>n*256+x.toNat) 0
def jw(c:aL):Option (Int×aL):=
 if c.length=64/\eI ((c.getD 3 0).toNat:Int) ((c.drop 4).take 55)=c then dB (((c.getD 3 0).toNat:Int),(c.drop 4).take 55)else eH
def sW(x:aL):dm:=
 ⟨dv (x.take 3),dv ((x.drop 3).take 1),dv ((x.drop 4).take 2),(dv ((x.drop 6).take 1),dv ((x.drop 7).take 1),dv ((x.drop 8).take 1)),dv ((x.drop 9).take 4),(x.drop 13).take (dv ((x.drop 8).take 1)).toNat⟩
def dO(c:aL):Option dm:=
 match jw c with
 |some (k,x)=>if k=1/\bJ (sW x).p=eX/\cW (sW x)=c then dB (sW x)else eH
 |none=>eH
theorem Wy(n:Int):bE n 1=[b8 n]:=by simp[bE]
theorem Wz(n:Int):bE n 2=[b8 (zN n (2^8)),b8 n]:=by simp[bE,zB]
theorem Qg(n:Int):bE n 3=[b8 (zN n (2^16)),b8 (zN n (2^8)),b8 n]:=by simp[bE,zB]
theorem Ib(n:Int):bE n 4=[b8 (zN n (2^24)),b8 (zN n (2^16)),b8 (zN n (2^8)),b8 n]:=by simp[bE,zB]
theorem BI{n:Int}(b:0<=n:=by omega)(a:n<256:=by omega):dv [b8 n]=n:=by simp only[dv,zy,wQ,pd];omega
theorem fdiv_pow(n:Int)(k:Nat):zN n (2^k)=n/(2^k):=yi _ (Int.pow_nonneg i6)
theorem ZY{n:Int}(b:0<=n)(a:n<65536):dv (bE n 2)=n:=by rw[Wz,fdiv_pow];simp only[dv,zy,wQ,pd];omega
theorem TV{n:Int}(b:0<=n)(a:n<16777216):dv (bE n 3)=n:=by rw[Qg,fdiv_pow,fdiv_pow];simp only[dv,zy,wQ,pd];omega
theorem KR{n:Int}(b:0<=n)(a:n<4294967296):dv (bE n 4)=n:=by rw[Ib,fdiv_pow,fdiv_pow,fdiv_pow];simp only[dv,zy,wQ,pd];omega
theorem kO(r:dm):iV r=eX↔(0<=r.object/\r.object<=16777215)/\(0<=r.block/\r.block<=7)/\(0<=r.id/\r.id<=65535)/\bJ r.p=eX/\(r.data.length:Int)=r.p.2.2:=by unfold iV fy bW;simp[and_assoc]
theorem oE{r:dm}(h:iV r=eX):i0 (jf r)=13+i0 r.data/\r.data.length<=24:=by obtain⟨_,_,_,a,b⟩:=(kO r).1 h;have:=(bT r.p).1 a;refine⟨by unfold jf;simp[cA];omega,i5⟩
theorem NA{r:dm}(h:iV r=eX):i0 (cW r)=64:=by have:=oE h;unfold cW;rw[g9 h];exact mu i6 i6 i5
theorem wf{k:Int}{a:aL}(c:1<=k:=by decide)(d:k<=255:=by decide)(h3:i0 a<=55:=by omega):jw (eI k a)=dB (k,a++qi (55-i0 a) 0):=by
 obtain⟨x,b⟩:∃x,x=a++qi (55-i0 a) 0:=⟨_,rfl⟩
 have e:i0 x=55:=by rw[b];simp;omega
 have f:eI k a=[87,115,1,b8 k]++(x++(ov (AU (eF k a))++[165])):=by unfold eI;rw[g9 ⟨c,d,h3⟩];unfold eF;rw[b];simp[qn]
 have i:((eI k a).getD 3 0)=b8 k:=by rw[f];rfl
 have e2:((eI k a).drop 4).take 55=x:=by rw[f];have:([87,115,1,b8 k]++(x++(ov (AU (eF k a))++[165]))).drop 4=x++(ov (AU (eF k a))++[165]):=rfl;rw[this,List.take_append_of_le_length i5,qg i5]
 have h:((b8 k).toNat:Int)=k:=by rw[pd];omega
 have j:eF k x=eF k a:=by unfold eF;rw[e,b];simp[qn]
 have g:eI k x=eI k a:=by unfold eI;rw[g9 ⟨c,d,i5⟩,g9 ⟨c,d,h3⟩,j]
 unfold jw;rw[i,e2,h,g9 ⟨mu c d h3,g⟩,b]
theorem TW{r:dm}(h:iV r=eX)(A:0<=r.seed/\r.seed<4294967296)(z:aL):sW (jf r++z)=r:=by
 obtain⟨w,x,h3,s,t⟩:=(kO r).1 h;have y:=(bT r.p).1 s;have l1:=cA r.object 3;have l2:=cA r.id 2;have i:=cA r.seed 4;have e:jf r++z=bE r.object 3++([b8 r.block]++(bE r.id 2++([b8 r.p.1]++([b8 r.p.2.1]++([b8 r.p.2.2]++(bE r.seed 4++(r.data++z))))))):=by unfold jf;rw[Wy];simp[qn]
 have c:∀(u v:aL) (n:Nat),u.length=n->∀m,(u++v).drop (n+m)=v.drop m:=λu v n d m=>by
  rw[<-zI,<-d,List.drop_left]
 have a:∀(u v:aL) (n:Nat),u.length=n->(u++v).take n=u:=λu v n d=>by rw[<-d,vQ]
 have j:(jf r++z).drop 3=[b8 r.block]++(bE r.id 2++([b8 r.p.1]++([b8 r.p.2.1]++([b8 r.p.2.2]++(bE r.seed 4++(r.data++z)))))):=by rw[e];exact c _ _ 3 l1 0
 have l:(jf r++z).drop 4=bE r.id 2++([b8 r.p.1]++([b8 r.p.2.1]++([b8 r.p.2.2]++(bE r.seed 4++(r.data++z))))):=by rw[show 4=3+1 from i4,<-zI,j];rfl
 have g:(jf r++z).drop 6=[b8 r.p.1]++([b8 r.p.2.1]++([b8 r.p.2.2]++(bE r.seed 4++(r.data++z)))):=by rw[show 6=4+2 from i4,<-zI,l];exact c _ _ 2 l2 0
 have k:(jf r++z).drop 7=[b8 r.p.2.1]++([b8 r.p.2.2]++(bE r.seed 4++(r.data++z))):=by rw[show 7=6+1 from i4,<-zI,g];rfl
 have f:(jf r++z).drop 8=[b8 r.p.2.2]++(bE r.seed 4++(r.data++z)):=by rw[show 8=7+1 from i4,<-zI,k];rfl
 have o:(jf r++z).drop 9=bE r.seed 4++(r.data++z):=by rw[show 9=8+1 from i4,<-zI,f];rfl
 have b:(jf r++z).drop 13=r.data++z:=by rw[show 13=9+4 from i4,<-zI,o];exact c _ _ 4 i 0
 have q:dv (((jf r++z).drop 8).take 1)=r.p.2.2:=by rw[f,a _ _ 1 i4,BI]
 unfold sW;rw[q,j,l,g,k,o,b];rw[a [b8 r.block] _ 1 i4,a _ _ 2 l2,a [b8 r.p.1] _ 1 i4,a [b8 r.p.2.1] _ 1 i4,a _ _ 4 i];have t0:(jf r++z).take 3=bE r.object 3:=by rw[e];exact a _ _ 3 l1
 rw[t0,TV i5 i5,BI,ZY i5 i5,BI,BI,KR i5 i5];have:r.p.2.2.toNat=r.data.length:=i5
 rw[this,vQ]
theorem rR{r:dm}(h:iV r=eX)(b:0<=r.seed/\r.seed<4294967296):dO (cW r)=dB r:=by
 have c:=oE h;have a:=((kO r).1 h).2.2.2.1;have e:cW r=eI 1 (jf r):=by unfold cW;rw[g9 h]
 unfold dO;rw[e,wf];dsimp only;rw[TW h b,g9 ⟨i4,a,e⟩]
theorem TX{c:aL}{r:dm}(h:dO c=dB r):cW r=c/\iV r=eX/\bJ r.p=eX:=by
 unfold dO at h;cases hc:jw c with
 |none=>rw[hc]at h;cases h
 |some kx=>
  rw[hc]at h;dsimp only at h;by_cases a:kx.1=1/\bJ (sW kx.2).p=eX/\cW (sW kx.2)=c
  ·rw[g9 a]at h;injection h with h
   subst h;refine⟨a.2.2,?_,a.2.1⟩;by_cases d:iV (sW kx.2)=eX
   ·exact d
   ·exfalso;have b:=a.2.2;unfold cW at b;rw[hU d]at b;unfold jw at hc;rw[<-b]at hc;simp at hc
  ·rw[hU a]at h;cases h
section
variable {C:Ctx} {ts:Nat}
theorem FV:∀(l:aL) (b:ByteArray),l.foldl ByteArray.push b=⟨(b.data.toList++l).toArray⟩
 |[],b=>jj
 |x::l,b=>by
  rw[zy,FV l (b.push x)];simp[ByteArray.push]
theorem Fs(j:C.Ok)(D:∃i,C.T.get t=dB i/\i.cG=.slice e)(J:∃i,C.T.get ts=dB i/\i.cG=.str)(I:∃i,C.T.get e=dB i/\i.cG=.int .u8){s:Sl}{l:aL}{p:aw}(y:Seq h p s 1 az l){K:ByteArray->g0->Prop}(w:K ⟨l.toArray⟩ h):
  bz C.P (convert t ts (.slice s.ptr s.len s.cap)) (.one (.sc .str)) h K:=by
 obtain⟨N,B,z⟩:=J;obtain⟨M,H,A⟩:=D;obtain⟨i3,a3,F⟩:=I;have G:C.P.underlying ts=dB .string:=by have:=j.cG B;rw[z]at this;exact tv this
 have L:C.P.underlying t=dB (.slice e):=by have:=j.cG H;rw[A]at this;exact jF this
 have u3:C.P.underlying e=dB (.int .u8):=by have:=j.cG a3;rw[F]at this;exact Fh this
 unfold bz convert;refine au.bind (au.always (aG L) ?_);refine au.bind (au.always (aG G) ?_);refine au.bind (au.always (aG u3) ?_);unfold Conv.bytesToString;have d:=fX (P:=C.P) (f:=az) (k:=1) (K:=λcs h'=>cs=(l.flatMap az).toArray/\h'=h) (λ_=>rfl) y ⟨i4,i4⟩;cases hp:s.ptr with
 |none=>
  have:l=[]:=by
   cases l with
   |nil=>rfl
   |cons x r=>obtain⟨b,o,u,_⟩:=y.elem 0 x jj;rw[hp]at u;cases u
  subst this;exact au.pure' ⟨⟨#[]⟩,i4,w⟩
 |some a=>
  rw[hp]at d;dsimp only;have g:au C.P (loadCells a s.len) h λcs h'=>cs=(l.flatMap az).toArray/\h'=h:=by
   have:wO 1 s.len (.slice (dB a) s.len s.cap)=loadCells a s.len:=by unfold wO;simp
   rw[<-this];exact d
  refine au.bind (g.mono ?_);rintro _ _ ⟨rfl,rfl⟩;have q:∀(l:aL) (b:ByteArray),aH C.P (forIn (m:=Sem) (l.flatMap az) b λc r=>match c with
    |xF xM n=>do pure (ForInStep.yield (r.push (yR n.toNat)))
    |_=>do let r<-stuck "bytesToString: byte expected";pure r) (l.foldl ByteArray.push b):=λl=>by
   induction l with
   |nil=>intro b;exact .pure
   |cons x l ih=>
    intro b;have E:(x::l).flatMap az=Value.int .u8 x.toNat::l.flatMap az:=rfl;rw[E,List.forIn_cons];have e2:b.push (yR ((x.toNat:Int)).toNat)=b.push x:=by rw[qj];congr 1;apply yJ.1;simp
    refine aH.bind (v:=ForInStep.yield (b.push x)) (by dsimp only;rw[e2];exact .pure) ?_;exact ih _
  refine au.bind (au.always (v:=l.foldl ByteArray.push ByteArray.empty) ?_ ?_)
  ·rw[List.forIn_toArray];exact q l _
  ·refine au.pure' ⟨_,i4,?_⟩;rw[FV];exact w
end
section
variable (le:α->α->Bool)
def iW(a b:α):Bool:=le a b&&le b a
def co(l a:List α):Prop:=∀x,l.filter (iW le x)=a.filter (iW le x)
def Sd(l:List α):Prop:=l.Pairwise λa b=>le a b=eX
structure Ord:Prop where
 trans:∀a b c,le a b=eX->le b c=eX->le a c=eX
 total:∀a b,(le a b||le b a)=eX
variable {le}
theorem Ord.AV(o:Ord le){a b:α}(h:¬le a b=eX):le b a=eX:=by
 have:=o.total a b;cases h1:le a b with
 |true=>exact absurd h1 h
 |false=>rw[h1]at this;simpa using this
theorem Ord.refl(o:Ord le)(a:α):le a a=eX:=by have:=o.total a a;simpa using this
theorem co.refl(l:List α):co le l l:=λ_=>rfl
theorem co.trans{l1 l2 a:List α}(h:co le l1 l2)(k:co le l2 a):co le l1 a:=λx=>(h x).trans (k x)
theorem co.symm{l1 l2:List α}(h:co le l1 l2):co le l2 l1:=λx=>(h x).symm
theorem co.app{a b c d:List α}(h:co le a b)(k:co le c d):co le (a++c) (b++d):=λx=>by
 rw[zl,zl,h x,k x]
theorem co.mem(o:Ord le){l a:List α}(h:co le l a){y:α}(c:y∈a):y∈l:=by have b:y∈a.filter (iW le y):=qF.2 ⟨c,n3⟩;rw[<-h y]at b;exact(qF.1 b).1
theorem co.Su(o:Ord le){u v:List α}(h:∀x∈u,∀y∈v,¬le x y=eX):co le (u++v) (v++u):=λz=>by
 rw[zl,zl];by_cases e:u.filter (iW le z)=[]
 ·rw[e];simp
 ·by_cases f:v.filter (iW le z)=[]
  ·rw[f];simp
  ·exfalso;obtain⟨x,g⟩:=yp _ e;obtain⟨y,i⟩:=yp _ f;obtain⟨d,b⟩:=qF.1 g;obtain⟨c,a⟩:=qF.1 i;unfold iW at b a;simp only[qy]at b a;exact h x d y c (o.trans _ _ _ b.2 a.1)
theorem co.NB(o:Ord le){l:List α}(h:co le [] l):l=[]:=by
 cases l with
 |nil=>rfl
 |cons a l=>exact absurd (co.mem o h (qM ..)) jj
theorem KS(o:Ord le):∀(l c:List α),Sd le l->Sd le c->co le l c->l=c
 |[],c,_,_,h=>(co.NB o h).symm
 |a::l,[],_,_,h=>absurd (co.NB o h.symm) jj
 |a::l,b::c,s,s',h=>by
  have d:a=b:=by
   have g:le a b=eX:=by
    have:=co.mem o h (y:=b) (qM ..);rcases qX.1 this with e|e
    ·rw[e];exact o.refl _
    ·exact(zK.1 s).1 _ e
   have i:le b a=eX:=by
    have:=co.mem o h.symm (y:=a) (qM ..);rcases qX.1 this with e|e
    ·rw[e];exact o.refl _
    ·exact(zK.1 s').1 _ e
   have h3:=h a;have f:iW le a a=eX:=n3
   have e2:iW le a b=eX:=by unfold iW;rw[g,i];rfl
   rw[vb f,vb e2]at h3;injection h3
  subst d;rw[KS o l c (zK.1 s).2 (zK.1 s').2 λx=>by
   have h3:=h x;rw[zo,zo]at h3;split at h3
   ·injection h3
   ·exact h3]
theorem DD(o:Ord le)(l:List α):Sd le (l.mergeSort le)/\co le l (l.mergeSort le):=by
 refine⟨yF o.trans o.total l,λx=>?_⟩;have f:(l.filter (iW le x)).Pairwise λa b=>le a b=eX:=by rw[List.pairwise_filter];refine List.Pairwise.imp ?_ (List.pairwise_of_forall (l:=l) (R:=λ_ _=>True) λ_ _=>trivial);intro a b _ d e;unfold iW at d e;simp only[qy]at d e;exact o.trans _ _ _ d.2 e.1
 have g:=List.sublist_mergeSort o.trans o.total f List.filter_sublist;have c:=g.filter (iW le x);rw[List.filter_filter]at c;simp only[Bool.and_self]at c;exact c.eq_of_length ((wV l le).symm.filter _).length_eq
theorem ME(o:Ord le){l a:List α}(s:Sd le a)(h:co le l a):a=l.mergeSort le:=by obtain⟨b,c⟩:=DD o l;exact KS o _ _ s b (h.symm.trans c)
theorem Sd.app(o:Ord le){u v:List α}(a:Sd le u)(b:Sd le v)(h:∀x∈u,∀y∈v,le x y=eX):Sd le (u++v):=yd.2 ⟨a,b,h⟩
theorem Sd.left{u v:List α}(h:Sd le (u++v)):Sd le u:=(yd.1 h).1
theorem Sd.right{u v:List α}(h:Sd le (u++v)):Sd le v:=(yd.1 h).2.1
theorem Sd.wi{u v:List α}(h:Sd le (u++v)):∀x∈u,∀y∈v,le x y=eX:=(yd.1 h).2.2
theorem Sd.at_(o:Ord le){l:List α}(h:Sd le l){i j:Nat}(a:i<=j)(b:j<i0 l):le (l[i]'(by omega)) l[j]=eX:=by
 by_cases e:i=j
 ·subst e;exact o.refl _
 ·exact zj.1 h i j i5 b i5
theorem WA(o:Ord le){l1 l2 a b f g:List α}(k:Sd le (l1++l2))(l:Sd le (a++b))(h:∀x∈l1,∀y∈b,le x y=eX)(e:∀x∈l2,∀y∈a,¬le x y=eX)
  (i:co le (l1++a) f) (n:Sd le f) (j:co le (l2++b) g) (p:Sd le g):Sd le (f++g)/\co le ((l1++l2)++(a++b)) (f++g):=by
 constructor
 ·refine Sd.app o n p λx c y d=>?_;rcases qz.1 (co.mem o i c)with c|c<;>rcases qz.1 (co.mem o j d)with d|d
  ·exact k.wi x c y d
  ·exact h x c y d
  ·exact o.AV (e y d x c)
  ·exact l.wi x c y d
 ·have m:co le ((l1++l2)++(a++b)) ((l1++a)++(l2++b)):=by rw[show(l1++l2)++(a++b)=l1++((l2++a)++b)by simp,show(l1++a)++(l2++b)=l1++((a++l2)++b)by simp];exact(co.refl _).app ((co.Su o e).app (co.refl _))
  exact m.trans (i.app j)
end
variable {le:α->α->Bool}
theorem tC(o:Ord le):∀{l j:List α},co le l j->i0 l=i0 j
 |[],j,h=>by rw[co.NB o h]
 |a::l,j,h=>by
  have t:=co.mem o h.symm (y:=a) (qM ..);obtain⟨u,v,q⟩:=List.append_of_mem t;have z:∃(u:List α) (b:α) (v:List α),j=u++b::v/\(∀x∈u,iW le a x=fz)/\iW le a b=eX:=by
   have m:j.filter (iW le a)≠[]:=λE=>by
    have:a∈j.filter (iW le a):=qF.2 ⟨t,n3⟩;rw[E]at this;cases this
   clear q u v t h
   induction j with
   |nil=>exact absurd i4 m
   |cons c j ih=>
    by_cases r:iW le a c=eX
    ·exact⟨[],c,j,i4,jj,r⟩
    ·rw[List.filter_cons_of_neg r]at m;obtain⟨u,b,v,e,f,g⟩:=ih m;refine⟨c::u,b,v,o8,λx i=>?_,g⟩;rcases qX.1 i with rfl|i
     ·simpa using r
     ·exact f x i
  obtain⟨u,b,v,rfl,A,F⟩:=z;have B:iW le a a=eX:=n3
  have n:=h a;have s:u.filter (iW le a)=[]:=wT.2 λx i=>by rw[A x i];simp
  rw[vb B,zl,s,zV,vb F]at n;have p:a=b:=by injection n
  subst p;have D:co le l (u++v):=λx=>by
   have i:=h x;rw[zo,zl,zo]at i;rw[zl];by_cases d:iW le x a=eX
   ·rw[g9 d,g9 d]at i;have w:u.filter (iW le x)=[]:=wT.2 λy G k=>by
     have:=A y G;unfold iW at this d k;simp only[qy]at d k;rw[o.trans _ _ _ d.2 k.1,o.trans _ _ _ k.2 d.1]at this;cases this
    rw[w,zV]at i⊢;injection i
   ·rw[hU d,hU d]at i;exact i
  rw[ze,tC o D];simp;omega
theorem Ic{P:Program}{id:FuncId}(I:∀(ff off cap:Nat) (i:aB) (w:World),Sort.Holds (Value.int .i64) w ff off i.toArray->i0 i<=9223372036854775807->i0 i<=cap->
   Calls P id #[.slice (dB ⟨ff,off,eH⟩) i.length cap] w λe p=>e=.returned (.slice (dB ⟨ff,off,eH⟩) (Lib.compact i).length cap)/\∃q,p=Sort.putRow (Value.int .i64) (Sort.ahead w q) ff off (Lib.compact i++qi (i0 i-i0 (Lib.compact i)) 0).toArray)
  (F:∀(a:cj) (cap:Nat) (w:World),Calls P id #[.slice a 0 cap] w λe p=>e=.returned (.slice a 0 cap)/\p=w)
  {e:TypeId} {s:Sl} {l:aB} {h:g0} (u:Own h e s 1 ak l) (E:i0 l<2^40):
  an P id #[.slice s.ptr s.len s.cap] h λv h'=>v=.slice s.ptr (Lib.compact l).length s.cap/\Own h' e ⟨s.ptr,i0 (Lib.compact l),s.cap⟩ 1 ak (Lib.compact l)/\aP (λb=>¬s.on b) h h':=by
 intro w o;have d:=u.len;have A:=u.cap;rcases u.head with⟨h1,h2,h3⟩|⟨b,rest,h1,h2,h3,h4⟩
 ·subst h3;have z:Lib.compact ([]:aB)=[]:=rfl;rw[d,h1];refine(F eH s.cap w).mono ?_;rintro H p ⟨rfl,rfl⟩;refine⟨_,i4,dg.refl _,by rw[z];rfl,by rw[z];exact⟨i4,.inl ⟨i4,by simpa using h2,i4⟩⟩,by rw[<-o];exact aP.refl _ _⟩
 ·rw[h1,d];have x:w.heap[b]?=dB (.cells (l.flatMap ak++rest).toArray e (0,0)):=by rw[o];exact h2
  refine(I b 0 s.cap l w (KP x) i5 i5).mono ?_;rintro H p ⟨rfl,n,rfl⟩;have t:=lt_of_block x;have D:=Lib.compact_length_le l;obtain⟨m,g⟩:∃m,m=Lib.compact l++qi (i0 l-i0 (Lib.compact l)) 0:=⟨_,rfl⟩
  rw[<-g];have r:i0 m=i0 l:=by rw[g];simp;omega
  have c:∀k,k<h.size->(Sort.putRow (Value.int .i64) (Sort.ahead w n) b 0 m.toArray).heap[k]?=if b=k then dB (.cells (m.flatMap ak++rest).toArray e (0,0))else h[k]?:=by
   intro k B;simp only[Sort.putRow,Sort.mapBlock,Sort.ahead,wJ];by_cases f:b=k
   ·subst f;rw[g9 i4,g9 i4,x,qQ,Sort.onCells,Nr _ _ _ r]
   ·rw[hU f,hU f,o]
  rw[o]at t;have y:Own (Sort.putRow (Value.int .i64) (Sort.ahead w n) b 0 m.toArray).heap e s 1 ak m:=⟨by rw[r];exact d,.inr ⟨b,rest,h1,by rw[c b t,g9 rfl],h3,h4⟩⟩
  have j:=y.cut (λ_=>rfl) (Lib.compact l).length i5;rw[g,vQ]at j;refine⟨_,i4,⟨i4,i4,i4,by simp[Sort.putRow,Sort.mapBlock,Sort.ahead]⟩,i4,by rw[h1]at j;rw[g];exact j,by simp[Sort.putRow,Sort.mapBlock,Sort.ahead,o],?_⟩;intro k B G;rw[c k B,hU λf=>G ⟨0,by rw[h1,f]⟩]
theorem uj(a:aB)(u:a.Pairwise (·<=·)):∀m,m<=i0 a->(Lib.compactUpTo a.toArray m).Pairwise (·<·)/\(∀x,x∈Lib.compactUpTo a.toArray m↔∃j,j<m/\a[j]?=dB x)
 |0,_=>⟨by simp[Lib.compactUpTo],λx=>by simp[Lib.compactUpTo]⟩
 |m+1,hm=>by
  obtain⟨v,q⟩:=uj a u m i5;have c:m<i0 a:=i5
  have t:a.toArray[m]! =a[m]:=m7
  rw[Lib.compactUpTo_succ,t];have o:∀j (h:j<m),a[j]'(by omega)<=a[m]:=λj h=>zj.1 u j m i5 c h;by_cases i:Lib.keeps a.toArray m=eX
  ·rw[g9 i];have p:m=0∨a[m-1]'(by omega)<a[m]:=by
    by_cases l:m=0
    ·exact .inl l
    ·right;have g:a.toArray[m-1]! =a[m-1]'(by omega):=by simp[show m-1<i0 a by omega]
     have w:a[m]≠a[m-1]'(by omega):=λn=>by
      have:=Lib.keeps_neg (d:=a.toArray) (m:=m) i5 (by rw[t,g];exact n);rw[this]at i;cases i
     have:=o (m-1) i5;omega
   have k:∀x∈Lib.compactUpTo a.toArray m,x<a[m]:=λx s=>by
    obtain⟨j,h,f⟩:=(q x).1 s;rw[qc i5]at f;injection f with f
    rcases p with h0|h0
    ·omega
    ·have h3:a[j]'(by omega)<=a[m-1]'(by omega):=by
      by_cases b:j=m-1
      ·subst b;exact Int.le_refl _
      ·exact zj.1 u j (m-1) i5 i5 i5
     omega
   refine⟨yd.2 ⟨v,jj,λx s y z=>?_⟩,λx=>?_⟩
   ·rw[qu.1 z];exact k x s
   ·rw[qz,q,qu];constructor
    ·rintro(⟨j,h,e⟩|rfl)
     ·exact⟨j,i5,e⟩
     ·exact⟨m,i5,qc c⟩
    ·rintro⟨j,h,e⟩;by_cases b:j=m
     ·subst b;rw[qc c]at e;injection e with e;exact .inr e.symm
     ·exact .inl ⟨j,i5,e⟩
  ·rw[hU i,qE];have l:m≠0:=λh0=>i (by subst h0;exact Lib.keeps_lt_one _ 0 i5);have r:a[m]=a[m-1]'(by omega):=by
    by_cases n:a[m]=a[m-1]'(by omega)
    ·exact n
    ·have g:a.toArray[m-1]! =a[m-1]'(by omega):=by simp[show m-1<i0 a by omega]
     exact absurd (Lib.keeps_pos (d:=a.toArray) (m:=m) (by rw[t,g];exact n)) i
   refine⟨v,λx=>?_⟩;rw[q];constructor
   ·rintro⟨j,h,e⟩;exact⟨j,i5,e⟩
   ·rintro⟨j,h,e⟩;by_cases b:j=m
    ·subst b;refine⟨j-1,i5,?_⟩;rw[qc c]at e;rw[qc i5,<-r];exact e
    ·exact⟨j,i5,e⟩
theorem DE(l:aB):(iH l).Pairwise (·<=·):=by have:=yF (le:=λx y:Int=>decide (x<=y)) (by intro a b c d e;simp at d e⊢;omega) (by intro a b;simp;omega) l;exact this.imp λh=>j9
theorem TY(l:aB)(h:∀x∈l,0<=x/\x<64):Lib.compact (iH l)=dK l:=by
 obtain⟨d,c⟩:=uj (iH l) (DE l) (iH l).length (ql _);have m:∀x,x∈Lib.compact (iH l)↔x∈l:=λx=>by
  unfold Lib.compact;rw[c,<-vS l x,List.mem_iff_getElem?];constructor
  ·rintro⟨j,_,e⟩;exact⟨j,e⟩
  ·rintro⟨j,e⟩;exact⟨j,(qk.1 e).1,e⟩
 have i:(dK l).Pairwise (·<·):=by unfold dK;refine List.Pairwise.filter _ ?_;rw[List.pairwise_map];exact List.pairwise_lt_range.imp λh=>i5
 have f:∀x,x∈dK l↔x∈l:=λx=>by
  unfold dK;rw[qF,qo];constructor
  ·rintro⟨_,c⟩;simpa using c
  ·intro g;obtain⟨a,b⟩:=h x g;exact⟨⟨x.toNat,qA.2 i5,i5⟩,l4⟩
 have k:(Lib.compact (iH l)).Perm (dK l):=(List.perm_ext_iff_of_nodup (d.imp λh=>i5) (i.imp λh=>i5)).2 λx=>(m x).trans (f x).symm;exact k.eq_of_pairwise (le:=(·<·)) (λa b _ _ d c=>i5) d i
def ci(o b t:Int):Int:=(128*o+16*b+t)%4294967296
def eW(m:av)(r:dm):Bool:=iV r&&(decide (r.p=m.p)&&m.objs.any λx=>decide (x.object=r.object)&&(decide (r.block<(x.tries.length:Int))&&decide (r.seed=ci r.object r.block (x.tries.getD r.block.toNat 0))))
def mF(a b:dm):Bool:=decide (a.object<b.object∨(a.object=b.object/\(a.block<b.block∨(a.block=b.block/\a.id<=b.id))))
def mG(a b:dm):Bool:=decide (a.object=b.object/\a.block=b.block/\a.id=b.id)
def wn:dm:=⟨0,0,0,(0,0,0),0,[]⟩
def nu(l:List dm)(k:Nat):Bool:=decide (k=0)||!mG (l.getD k wn) (l.getD (k-1) wn)
def nK(l:List dm):List dm:=((qx l.length).filter (nu l)).map λi=>l.getD i wn
def gN(m:av)(c:aL):Option dm:=match dO c with|some r=>if eW m r then dB r else eH|none=>eH
def ft(m:av)(l:bP):List dm:=nK ((l.filterMap (gN m)).mergeSort mF)
theorem NC:Ord mF:=⟨λa b c d e=>by
 unfold mF at*;rw[decide_eq_true_eq]at*;omega,λa b=>by
 unfold mF;rw[zZ,decide_eq_true_eq,decide_eq_true_eq];omega⟩
theorem TZ(m:av)(l:bP)(i:Nat)(a:i<i0 l):(l.take (i+1)).filterMap (gN m)=(l.take i).filterMap (gN m)++(gN m l[i]).toList:=by
 have:l.take (i+1)=l.take i++[l[i]]:=by rw[List.take_add_one,qc a];rfl
 rw[this,List.filterMap_append];cases hg:gN m l[i]with
 |none=>simp[hg]
 |some r=>simp[hg]
section
variable {C:Ctx}
theorem CN(z:aT)(n:Nat):(yD z.toArray n).toList.length=n*i0 z:=by simp[yD]
theorem Ma{z:aT}(d:∀v∈z,v.oneCell'=eX)(n:Nat):∀v∈(yD z.toArray n).toList,v.oneCell'=eX:=by
 intro v c;simp only[yD,vY,qo,Array.mem_toList_iff,Array.mem_range]at c;obtain⟨i,a,rfl⟩:=c;simp only[wW]at a⊢;have h0:0<i0 z:=by
  rcases Nat.eq_zero_or_pos z.length with h|h
  ·rw[h]at a;simp at a
  ·exact h
 have b:=y7 i h0;rw[getElem!_pos z.toArray _ k8];exact d _ jj
theorem Own.oF(w:C.Ok)(p:Own h e s k f l)(B:bG C.toAQ t e k z by_)(g:∀x,i0 (f x)=k)(A:i0 z=k)(d:∀v∈z,v.oneCell'=eX)(j:Nat)(y:j<=i0 l){ty:Nat}{K:g0->Prop}
  (u:∀h',Own h' e ⟨s.ptr,j,s.cap⟩ k f (l.take j)->aP (λb=>¬s.on b) h h'->K h'):
  au C.P (vO #[t] ty #[.slice (if s.cap=j then s.ptr else s.ptr.map (·.add (j*k))) (s.len-j) (s.cap-j)]) h λ_ h'=>K h':=by
 have N:=p.len;have c:=p.cut g j y;unfold vO;refine au.bind (au.always (aG (B.under w)) ?_);by_cases o:j=i0 l
 ·have L:s.len-j=0:=i5
  rw[L];generalize (if s.cap=j then s.ptr else s.ptr.map (·.add (j*k)))=q;cases q with
  |none=>exact au.pure' (u h c (aP.refl _ _))
  |some a=>exact au.pure' (u h c (aP.refl _ _))
 ·rcases p.head with⟨h1,h2,h3⟩|⟨b,rest,h1,h2,h3,h4⟩
  ·subst h3;simp at y o;omega
  ·have r:s.cap≠j:=i5
   rw[hU r,h1];obtain⟨m,J⟩:∃m,s.len-j=m+1:=⟨s.len-j-1,i5⟩
   rw[J];obtain⟨Q,U,R,S,F,O,E,T⟩:=B.ex;obtain⟨M,D,G⟩:=rx w.toOk F;refine au.bind (au.always D ?_);have i:M.cells=z.toArray:=by apply yI;rw[G,E]
   rw[i];refine au.bind ?_;have H:((⟨b,0,eH⟩:f8).add (j*k))=⟨b,j*k,eH⟩:=by simp[add_eq]
   show au C.P (storeCells ((⟨b,0,eH⟩:f8).add (j*k)) (yD z.toArray (m+1)).toList) h _;rw[H];have n:i0 (l.drop j)=m+1:=i9
   refine eO (e:=e) (pre:=(l.take j).flatMap f) (old:=(l.drop j).flatMap f) (post:=rest) ?_ ?_ ?_ (Ma d _) ?_
   ·rw[<-qY,qC];exact h2
   ·rw[dl g,n,CN,A]
   ·rw[dl g,qR,wE i5];omega
   ·refine au.pure' (u _ ⟨i9,.inr ⟨b,(yD z.toArray (m+1)).toList++rest,h1,?_,?_,i7⟩⟩ ?_)
    ·rw[ij h2,g9 rfl];simp
    ·rw[qw,CN,A,h3,<-Nat.add_mul];dsimp only;congr 1;omega
    ·exact aP.jk h2 λI=>I ⟨0,h1⟩
theorem aa.oF(o:C.Ok)(H:aa B h0 h As)(i:Nat)(g:As[i]?=dB (af e s k f l))(w:bG C.toAQ t e k z by_)(n:∀x,i0 (f x)=k)(r:i0 z=k)(a:∀v∈z,v.oneCell'=eX)(j:Nat)(p:j<=i0 l){ty:Nat}{K:g0->Prop}
  (u:∀h',aa B h0 h' (As.set i (af e ⟨s.ptr,j,s.cap⟩ k f (l.take j)))->K h'):
  au C.P (vO #[t] ty #[.slice (if s.cap=j then s.ptr else s.ptr.map (·.add (j*k))) (s.len-j) (s.cap-j)]) h λ_ h'=>K h':=
 (H.own i g).oF o w n r a j p λh' x y=>u h' (H.step i g λq m _=>⟨y.mono λb _ c d=>c (m.2 b d),x,λb c=>⟨x.lt c,.inl (m.2 b c)⟩⟩)
end
theorem MF:∀x y:aL,(Op.bytesLess x y||x==y)=!Op.bytesLess y x
 |[],[]=>rfl
 |[],_::_=>rfl
 |_::_,[]=>by simp[Op.bytesLess]
 |a::x,b::y=>by
  have f:=MF x y;have d:a<b∨a=b∨b<a:=by
   rcases yh a.toNat b.toNat with h|h|h
   ·exact .inl (wc.2 h)
   ·exact .inr (.inl (yJ.1 h))
   ·exact .inr (.inr (wc.2 h))
  rcases d with h|rfl|h
  ·have c:¬b<a:=λh'=>by have:=wc.1 h;have:=wc.1 h';omega
   have e:b≠a:=λh'=>by subst h';exact c h
   simp[Op.bytesLess,h,c,e]
  ·have c:¬a<a:=λh'=>by have:=wc.1 h';omega
   simp only[Op.bytesLess,c,decide_false,Bool.false_or,beq_self_eq_true,zX];rw[<-f];congr 1;simp
  ·have c:¬a<b:=λh'=>by have:=wc.1 h;have:=wc.1 h';omega
   have e:a≠b:=λh'=>by subst h';exact c h
   simp[Op.bytesLess,h,c,e]
theorem Ft:∀x y z:aL,Op.bytesLess x y=eX->Op.bytesLess y z=eX->Op.bytesLess x z=eX
 |x,[],_,h1,_=>by cases x<;>simp[Op.bytesLess]at h1
 |_,b::y,[],_,h2=>by simp[Op.bytesLess]at h2
 |[],_::_,_::_,_,_=>rfl
 |a::x,b::y,c::z,h1,h2=>by
  simp only[Op.bytesLess,zZ,decide_eq_true_eq,qy,beq_iff_eq]at h1 h2⊢;rcases h1 with h1|⟨rfl,h1⟩
  ·rcases h2 with h2|⟨rfl,h2⟩
   ·exact .inl (wc.2 (by have:=wc.1 h1;have:=wc.1 h2;omega))
   ·exact .inl h1
  ·rcases h2 with h2|⟨rfl,h2⟩
   ·exact .inl h2
   ·exact .inr ⟨i4,Ft x y z h1 h2⟩
theorem WB(x:aL):Op.bytesLess x x=fz:=by
 have:=MF x x;cases h:Op.bytesLess x x with
 |false=>rfl
 |true=>rw[h]at this;simp at this
def jT(a b:ByteArray):Bool:=!fm b a
theorem Ie(a b:ByteArray):jT a b=eX↔fm a b=eX∨a.toList=b.toList:=by unfold jT fm;rw[<-MF,zZ,beq_iff_eq]
theorem DF(a b c:ByteArray)(d:jT a b=eX)(e:jT b c=eX):jT a c=eX:=by
 rw[Ie]at d e⊢;unfold fm at*;rcases d with d|d
 ·rcases e with e|e
  ·exact .inl (Ft _ _ _ d e)
  ·rw[<-e];exact .inl d
 ·rw[d];exact e
theorem DG(a b:ByteArray):(jT a b||jT b a)=eX:=by
 unfold jT;cases h:fm b a with
 |false=>rfl
 |true=>
  have:fm a b=fz:=by
   cases h2:fm a b with
   |false=>rfl
   |true=>
    have:=Ft _ _ _ h h2;rw[WB]at this;cases this
  rw[this];rfl
def sX(a b:cu):Bool:=jT a.name b.name
def fi(m:av)(x:cu):av:={m with seq:=m.seq+1,next:=m.next+1,objs:=(m.objs++[x]).mergeSort sX}
section
open Classical
theorem lK(a:UInt8):a^^^a=0:=UInt8.xor_self
theorem pU(a b:UInt8):(a^^^b)^^^b=a:=by rw[UInt8.xor_assoc,lK,z7]
theorem cP{c:UInt8}{a t:Row}(h:i0 a=i0 t)(j:Nat):aK (cV c a t) j=aK t j^^^Gf.mul c (aK a j):=by
 simp only[aK,cV,qd,zH];by_cases b:j<i0 a
 ·rw[qc b,qc i5];rfl
 ·rw[qI i5,qI i5];simp[Gf.mul_zero]
theorem ww(c:UInt8)(a:Row)(j:Nat):aK (scaleB c a) j=Gf.mul c (aK a j):=by
 simp only[aK,scaleB,qd,qP];cases a[j]? with
 |none=>simp[Gf.mul_zero]
 |some x=>rfl
def aI(n:Nat):Row:=qi n 0
theorem cD(n j:Nat):aK (aI n) j=0:=by simp only[aK,aI,qd,List.getElem?_replicate];split<;>rfl
theorem eZ{n:Nat}{a b:Row}(e:i0 a=n)(f:i0 b=n)(h:∀j,j<n->aK a j=aK b j):a=b:=by apply we i5;intro j c d;have:=h j i5;simpa[aK,qd,qc c,qc d]using this
inductive Span (n:Nat) (m:aJ):Row->Prop
 |zero:Span n m (aI n)
 |add (c:UInt8) (r v:Row):r∈m->Span n m v->Span n m (cV c r v)
section
variable {n:Nat} {m m':aJ}
theorem Span.len(a:aS n m){v:Row}(h:Span n m v):i0 v=n:=by
 induction h with
 |zero=>simp[aI]
 |add c r v hr _ ih=>rw[bZ (by rw[a r hr,ih])];exact ih
theorem Span.comb(a:aS n m){u v:Row}(e:Span n m u)(b:Span n m v)(c:UInt8):Span n m (cV c u v):=by
 induction e with
 |zero=>
  have:cV c (aI n) v=v:=eZ (n:=n) (by rw[bZ (by simp[aI,b.len a])];exact b.len a) (b.len a) λj _=>by
   rw[cP (by simp[aI,b.len a]),cD,Gf.mul_zero,z7]
  rw[this];exact b
 |add d r w hr hw ih=>
  have l1:=b.len a;have l2:=hw.len a;have f:=a r hr;have:cV c (cV d r w) v=cV (Gf.mul c d) r (cV c w v):=eZ (n:=n) (by rw[bZ lx];exact l1) (by rw[bZ lx,bZ];exact l1) λj _=>by
   rw[cP lx,cP i5,cP lx,cP i5,Gf.kj,Gf.mul_assoc]
   ac_rfl
  rw[this];exact .add _ _ _ hr ih
theorem Span.row(b:aS n m){r:Row}(a:r∈m):Span n m r:=by
 have:=Span.add 1 r _ a (.zero (n:=n) (m:=m));have e:cV 1 r (aI n)=r:=eZ (n:=n) (by rw[bZ (by simp[aI,b r a])];simp[aI]) (b r a) λj _=>by
  rw[cP (by simp[aI,b r a]),cD,Gf.one_mul,wF]
 rwa [e]at this
theorem Span.sub(a:aS n m)(h:∀r∈m',Span n m r){v:Row}(b:Span n m' v):Span n m v:=by
 induction b with
 |zero=>exact .zero
 |add c r v hr _ ih=>exact(h r hr).comb a ih c
theorem Span.mono(h:∀r∈m',r∈m){v:Row}(a:Span n m' v):Span n m v:=by
 induction a with
 |zero=>exact .zero
 |add c r v hr _ ih=>exact .add c r v (h r hr) ih
theorem Span.lin(d:aS n m)(φ:Row->UInt8)(g:φ (aI n)=0)(e:∀c a t,i0 a=n->i0 t=n->φ (cV c a t)=φ t^^^Gf.mul c (φ a))(f:∀r∈m,φ r=0){v:Row}(b:Span n m v):φ v=0:=by
 induction b with
 |zero=>exact g
 |add c r v hr' b ih=>rw[e c r v (d r hr') (b.len d),ih,f r hr',Gf.mul_zero,z7]
end
def Ay(S:Row->Prop)(j:Nat):Prop:=∃v,S v/\(∀i,i<j->aK v i=0)/\aK v j≠0
noncomputable def leads(S:Row->Prop)(n:Nat):Nat:=(qx n).countP λj=>decide (Ay S j)
structure Way (n:Nat) (m:aJ) (c top:Nat) (rows:aJ):Prop where
 even:aS n rows
 len:i0 rows=i0 m
 tle:top<=i0 rows
 span:∀v,Span n rows v↔Span n m v
 cnt:top=leads (Span n m) c
 piv:∃p:Nat->Nat,(∀i,i<top->p i<c)/\(∀i,i<top->∀k,k<i0 rows->aK (aC rows k) (p i)=if k=i then 1 else 0)/\(∀i,i<top->∀j,j<p i->aK (aC rows i) j=0)/\(∀i j,i<j->j<top->p i<p j)
 low:∀k,top<=k->k<i0 rows->∀j,j<c->aK (aC rows k) j=0
theorem mem_row{m:aJ}{i:Nat}(h:i<i0 m:=by omega):aC m i∈m:=by rw[bw h];exact qf h
theorem fj{m:aJ}{r:Row}(h:r∈m):∃i,i<i0 m/\r=aC m i:=by obtain⟨i,a,rfl⟩:=qB h;exact⟨i,a,(bw a).symm⟩
theorem lu{m:aJ}{i j:Nat}{r:Row}(a:i<i0 m:=by omega):aC (m.set i r) j=if i=j then r else aC m j:=by
 simp only[aC,qd,qU];by_cases h:i=j
 ·subst h;simp[a]
 ·simp[h]
theorem uk{m:aJ}{i j k:Nat}(c:i<i0 m)(d:j<i0 m):aC (ju m i j) k=if k=j then aC m i else if k=i then aC m j else aC m k:=by
 rw[ju,lu m8,lu c];by_cases a:j=k
 ·rw[g9 a,g9 a.symm]
 ·rw[hU a,hU (show¬k=j fromλh=>a h.symm)];by_cases b:i=k
  ·rw[g9 b,g9 b.symm]
  ·rw[hU b,hU (show¬k=i fromλh=>b h.symm)]
theorem BJ{m:aJ}{t c k:Nat}(a:t<i0 m):aC (ke t c m) k=if t=k then scaleB (Gf.inv (aK (aC m t) c)) (aC m t)else aC m k:=by rw[ke,lu a]
section
variable {n:Nat} {m:aJ}
theorem WC(l:aS n m){i j:Nat}(a:i<i0 m)(b:j<i0 m)(v:Row):Span n (ju m i j) v↔Span n m v:=by
 refine⟨Span.mono λr d=>?_,Span.mono λr d=>?_⟩
 ·obtain⟨k,c,rfl⟩:=fj d;rw[lJ]at c;rw[uk a b];split
  ·exact mem_row a
  ·split
   ·exact mem_row b
   ·exact mem_row c
 ·obtain⟨k,c,rfl⟩:=fj d;have e:∀x,x<i0 m->aC (ju m i j) x∈ju m i j:=λx h=>mem_row (by rw[lJ];exact h);by_cases f:k=i
  ·subst f;have:=e j b;rw[uk a b,g9 rfl]at this;exact this
  ·by_cases g:k=j
   ·subst g;have:=e i a;rw[uk a b]at this;by_cases h3:i=k
    ·exact absurd h3.symm f
    ·rw[hU h3,g9 rfl]at this;exact this
   ·have:=e k c;rw[uk a b,hU g,hU f]at this;exact this
theorem WD(g:aS n m){t c:Nat}(a:t<i0 m)(i:aK (aC m t) c≠0)(v:Row):Span n (ke t c m) v↔Span n m v:=by
 have d:=vV g (c:=c) a;have f:=cC g a;have s:∀(x:UInt8) (r:Row),i0 r=n->scaleB x r=cV x r (aI n):=λx r b=>eZ (n:=n) (by rw[oD,b]) (by rw[bZ (by simp[aI,b])];simp[aI]) λj _=>by
  rw[ww,cP (by simp[aI,b]),cD,wF]
 refine⟨Span.sub g λr b=>?_,Span.sub d λr b=>?_⟩
 ·obtain⟨k,h,rfl⟩:=fj b;rw[ot]at h;rw[BJ a];split
  ·rw[s _ _ f];exact .add _ _ _ (mem_row a) .zero
  ·exact Span.row g (mem_row h)
 ·obtain⟨k,h,rfl⟩:=fj b;have e:∀x,x<i0 m->Span n (ke t c m) (aC (ke t c m) x):=λx p=>Span.row d (mem_row (by rw[ot];exact p));by_cases l:t=k
  ·subst l;have:=e t a;rw[BJ a,g9 rfl]at this;have o:=this.comb d .zero (aK (aC m t) c);have q:cV (aK (aC m t) c) (scaleB (Gf.inv (aK (aC m t) c)) (aC m t)) (aI n)=aC m t:=eZ (n:=n) (by rw[bZ (by simp[aI,oD,f])];simp[aI]) f λj _=>by
    rw[cP (by simp[aI,oD,f]),cD,wF,ww,<-Gf.mul_assoc,Gf.JS i,Gf.one_mul]
   rw[q]at o;exact o
  ·have:=e k h;rw[BJ a,hU l]at this;exact this
theorem WE(d:aS n m){t c:Nat}(f:t<i0 m)(v:Row):Span n (fh t c m m.length) v↔Span n m v:=by
 have b:=wd d (c:=c) (k:=i0 m) f;have s:=cC d f;refine⟨Span.sub d λr h=>?_,Span.sub b λr h=>?_⟩
 ·obtain⟨k,a,rfl⟩:=fj h;rw[ou]at a;rw[pT a];split
  ·exact .add _ _ _ (mem_row f) (Span.row d (mem_row a))
  ·exact Span.row d (mem_row a)
 ·obtain⟨k,a,rfl⟩:=fj h;have e:∀x,x<i0 m->Span n (fh t c m m.length) (aC (fh t c m m.length) x):=λx p=>Span.row b (mem_row (by rw[ou];exact p));have i:=e t f;rw[pT f,hU jj]at i;by_cases l:k=t
  ·subst l;exact i
  ·have o:=e k a;rw[pT a,g9 ⟨a,l⟩]at o;have h3:=i.comb b o (aK (aC m k) c);have g:=cC d a;have q:cV (aK (aC m k) c) (aC m t) (cV (aK (aC m k) c) (aC m t) (aC m k))=aC m k:=eZ (n:=n) (by rw[bZ lx,bZ];exact g) g λj _=>by
    rw[cP lx,cP i5,pU]
   rw[q]at h3;exact h3
def bU(f g:Nat->UInt8):Nat->UInt8
 |0=>0
 |k+1=>bU f g k^^^Gf.mul (f k) (g k)
theorem fU(f g:Nat->UInt8):∀k,(∀i,i<k->f i=0)->bU f g k=0
 |0,_=>rfl
 |k+1,h=>by rw[bU,fU f g k λi a=>h i i5,h k i5,Gf.zero_mul];rfl
theorem Fu(f g:Nat->UInt8)(x:Nat):∀k,x<k->(∀i,i<k->f i=if x=i then 1 else 0)->bU f g k=g x
 |0,hx,_=>i5
 |k+1,hx,h=>by
  rw[bU];by_cases a:x=k
  ·subst a;rw[fU f g x λi b=>by rw[h i i5,hU i5],h x i5,g9 i4,Gf.one_mul,wF]
  ·rw[Fu f g x k i5 λi b=>h i i5,h k i5,hU a,Gf.zero_mul,z7]
theorem Fv(a b g:Nat->UInt8)(c:UInt8):∀k,bU (λi=>a i^^^Gf.mul c (b i)) g k=bU a g k^^^Gf.mul c (bU b g k)
 |0=>by simp[bU,Gf.mul_zero]
 |k+1=>by
  rw[bU,bU,bU,Fv a b g c k,Gf.kj,Gf.Sq,Gf.mul_assoc]
  ac_rfl
theorem If(S:Row->Prop)(c:Nat):leads S (c+1)=leads S c+if Ay S c then 1 else 0:=by simp only[leads,zB,List.countP_append,List.countP_cons,List.countP_nil];by_cases h:Ay S c<;>simp[h]
theorem WF(b:aS n m):Way n m 0 0 m:=⟨b,i4,i5,λ_=>Iff.rfl,by simp[leads],⟨λ_=>0,λi a=>i5,λi a=>i5,λi a=>i5,λi j _ c=>i5⟩,λk _ _ j c=>i5⟩
theorem ZZ(hm:aS n m){c b:Nat}{rows:aJ}(w:Way n m c b rows)(hc:c<n):Way n m (c+1) (jv (b,rows) c).1 (jv (b,rows) c).2:=by
 obtain⟨H,S,ah,Y,M,⟨p,P,p2,p3,p4⟩,f⟩:=w;have hS:∀v,Span n rows v↔Span n m v:=Y;have X:Span n rows=Span n m:=funext λv=>propext (hS v);unfold jv;dsimp only;cases hb:je rows b c with
 |none=>
  have V:=Qf hb;dsimp only;have ad:¬Ay (Span n m) c:=by
   rw[<-X];rintro⟨v,hv,hz,am⟩;apply am;have hφ:=Span.lin H (λv=>aK v c^^^bU (λi=>aK v (p i)) (λi=>aK (aC rows i) c) b) (by
     simp only[cD];rw[fU _ _ _ λi _=>rfl];rfl) (λx a t ha ht=>by
     simp only[cP (show a.length=i0 t by omega)];rw[Fv,Gf.kj];ac_rfl) (λr hr=>by
     obtain⟨k,F,rfl⟩:=fj hr;by_cases N:k<b
     ·rw[Fu _ _ k b N λi E=>by rw[p2 i E k F]];exact lK _
     ·rw[V k i5 F,fU _ _ _ λi E=>by rw[p2 i E k F,hU i5]];rfl) hv
   rw[fU _ _ _ λi E=>hz _ (P i E),z7]at hφ;exact hφ
  refine⟨H,S,ah,Y,by rw[If,hU ad,M];rfl,⟨p,λi E=>by have:=P i E;omega,p2,p3,p4⟩,λk y B j d=>?_⟩;rcases zd.1 d with h|rfl
  ·exact f k y B j h
  ·exact V k y B
 |some at_=>
  have hh:=rD hb;obtain⟨h1,W,h3⟩:=hh;dsimp only;have q:b<i0 rows:=i5
  obtain⟨g,A⟩:∃g,g=ju rows b at_:=⟨_,rfl⟩
  have l1:i0 g=i0 rows:=by rw[A,lJ]
  have R:aS n g:=by rw[A];exact DA H q W
  have q1:∀k,aC g k=if k=at_ then aC rows b else if k=b then aC rows at_ else aC rows k:=λk=>by rw[A,uk q W]
  have U:aC g b=aC rows at_:=by
   rw[q1];by_cases h:b=at_
   ·rw[g9 h,h]
   ·rw[hU h,g9 rfl]
  have I:aK (aC g b) c≠0:=by rw[U];exact h3
  obtain⟨s,u⟩:∃s,s=ke b c g:=⟨_,rfl⟩
  have l2:i0 s=i0 rows:=by rw[u,ot,l1]
  have D:aS n s:=by rw[u];exact vV R i5
  have q2:∀k,aC s k=if b=k then scaleB (Gf.inv (aK (aC g b) c)) (aC g b)else aC g k:=λk=>by rw[u,BJ i5]
  have ab:∀j,aK (aC g b) j=0->aK (aC s b) j=0:=λj d=>by rw[q2,g9 i4,ww,d,Gf.mul_zero]
  have l:aK (aC s b) c=1:=by rw[q2,g9 i4,ww,Gf.mul_comm,Gf.JS I]
  obtain⟨J,o⟩:∃J,J=fh b c s rows.length:=⟨_,rfl⟩
  have l3:i0 J=i0 rows:=by rw[o,ou,l2]
  have q3:∀k,k<i0 rows->∀j,aK (aC J k) j=if k=b then aK (aC s b) j else aK (aC g k) j^^^Gf.mul (aK (aC g k) c) (aK (aC s b) j):=λk F j=>by
   rw[o,pT i5];by_cases h:k=b
   ·rw[hU i5,g9 h,h]
   ·have e:=q2 k;rw[hU λhh=>h hh.symm]at e;rw[g9 ⟨F,h⟩,hU h,cP (by rw[cC D,cC D]),e]
  have Z:∀j,j<c->aK (aC s b) j=0:=λj d=>ab j (by rw[U];exact f at_ h1 W j d);have keep:∀k,k<i0 rows->∀j,j<c->aK (aC J k) j=if k=b then 0 else aK (aC g k) j:=λk F j d=>by
   rw[q3 k F,Z j d,Gf.mul_zero,z7]
  have L:∀k,k<b->aC g k=aC rows k:=λk F=>by rw[q1,hU i5,hU i5]
  have K:∀k,b<=k->k<i0 rows->∀j,j<c->aK (aC g k) j=0:=λk y B j d=>by
   rw[q1];split
   ·exact f b (ql _) q j d
   ·split
    ·exact f at_ h1 W j d
    ·exact f k y B j d
  have z:∀v,Span n J v↔Span n m v:=λv=>by
   rw[o,show rows.length=i0 s by omega,WE D i5,u,WD R i5 I,A,WC H q W,hS]
  have Q:Ay (Span n m) c:=⟨aC J b,(z _).1 (Span.row (by rw[o];exact wd D i5) (mem_row)),λj d=>by rw[keep b q j d,g9 rfl],by rw[q3 b q,g9 i4,l];decide⟩
  have T:fh b c (ke b c (ju rows b at_)) rows.length=J:=by rw[o,u,A]
  rw[T];refine⟨by rw[o];exact wd D i5,i5,i5,z,by rw[If,g9 Q,M],⟨λi=>if i<b then p i else c,λi E=>?_,λi E k F=>?_,λi E j d=>?_,λi j al d=>?_⟩,λk y B j d=>?_⟩
  ·dsimp only;split
   ·have:=P i o7;omega
   ·omega
  ·dsimp only;by_cases hit:i<b
   ·rw[g9 hit,keep k i5 _ (P i hit)];by_cases N:k<b
    ·rw[hU i5,L k N];exact p2 i hit k i5
    ·rw[hU (show¬k=i by omega)];split
     ·rfl
     ·exact K k i5 i5 _ (P i hit)
   ·have O:i=b:=i5
    subst O;rw[hU hit,q3 k i5];by_cases G:k=i
    ·rw[g9 G,g9 G];exact l
    ·rw[hU G,hU G,l,Gf.mul_one];exact lK _
  ·dsimp only at d;by_cases hit:i<b
   ·rw[g9 hit]at d;have:=P i hit;rw[keep i i5 j i5,hU i5,L i hit];exact p3 i hit j d
   ·have O:i=b:=i5
    subst O;rw[hU hit]at d;rw[keep i i5 j d,g9 rfl]
  ·dsimp only;rw[g9 (show i<b by omega)];split
   ·exact p4 i j al o7
   ·exact P i i5
  ·rcases zd.1 d with h|rfl
   ·rw[keep k i5 j h,hU i5];exact K k i5 i5 j h
   ·rw[q3 k i5,hU i5,l,Gf.mul_one];exact lK _
theorem Fw(a:aS n m):∀c,c<=n->Way n m c (bH m c).1 (bH m c).2
 |0,_=>WF a
 |c+1,h=>by rw[bH];exact ZZ a (Fw a c i5) i5
theorem kv:∀c,bH [] c=(0,[])
 |0=>rfl
 |c+1=>by rw[bH,kv c];rfl
theorem lP(a:aS n m):ce m=leads (Span n m) n:=by
 rw[<-(Fw a n (ql _)).cnt,ce];cases m with
 |nil=>rw[kv,kv]
 |cons x t=>rw[eU,bw jj];rw[show((x::t)[0]).length=n from a _ jj]
end
section
variable {n:Nat} {m m':aJ}
theorem Ua{S a:Row->Prop}(h:∀v,S v->a v)(n:Nat):leads S n<=leads a n:=by refine List.countP_mono_left λj _ b=>?_;simp only[decide_eq_true_eq]at b⊢;obtain⟨v,c,d⟩:=b;exact⟨v,h v c,d⟩
theorem mQ(a:aS n m):ce m<=n:=by rw[lP a];have:=List.countP_le_length (p:=λj=>decide (Ay (Span n m) j)) (l:=qx n);simpa[leads]using this
theorem KT(b:aS n m)(a:aS n m')(h:∀r∈m,r∈m'):ce m<=ce m':=by rw[lP b,lP a];exact Ua (λv=>Span.mono h) n
theorem WG{P Q:Nat->Bool}(l:List Nat)(d:l.Nodup)(i:∀a∈l,P a=eX->Q a=eX)(e:∀a∈l,∀b∈l,Q a=eX->P a=fz->Q b=eX->P b=fz->a=b):l.countP Q<=l.countP P+1:=by
 induction l with
 |nil=>simp
 |cons x t ih=>
  rw[List.nodup_cons]at d;have h:=ih d.2 (λa c=>i a m7) λa c b g=>e a m7 b n9;simp only[List.countP_cons];cases hQ:Q x with
  |false=>
   have:(if P x=eX then 1 else 0)>=0:=i5
   simp;omega
  |true=>
   cases hP:P x with
   |true=>simp;omega
   |false=>
    have:t.countP Q<=t.countP P:=by
     refine List.countP_mono_left λa c f=>?_;cases hpa:P a with
     |true=>rfl
     |false=>
      have:=e x jj a m7 hQ hP f hpa;subst this;exact absurd c d.1
    simp;omega
theorem KU(g:aS n m){r:Row}(i:i0 r=n){v:Row}(l:Span n (m++[r]) v):∃(c:UInt8) (u:Row),Span n m u/\v=cV c r u:=by
 have o:aS n (m++[r]):=λx b=>by
  rcases qz.1 b with h|h
  ·exact g x h
  ·rw[qu.1 h];exact i
 induction l with
 |zero=>exact⟨0,aI n,.zero,(eZ (n:=n) (by rw[bZ (by simp[aI,i])];simp[aI]) ln λj _=>by rw[cP (by simp[aI,i]),cD,Gf.zero_mul];rfl).symm⟩
 |add d x w b hw ih=>
  obtain⟨c,u,f,rfl⟩:=ih;have a:=f.len g;rcases qz.1 b with h|h
  ·have k:=g x h;refine⟨c,cV d x u,.add d x u h f,eZ (n:=n) (by rw[bZ lx,bZ];exact a) (by rw[bZ lx,bZ];exact a) λj _=>?_⟩;rw[cP lx,cP i5,cP lx,cP i5]
   ac_rfl
  ·have e:=qu.1 h;subst e;refine⟨c^^^d,u,f,eZ (n:=n) (by rw[bZ lx,bZ];exact a) (by rw[bZ];exact a) λj _=>?_⟩;rw[cP lx,cP i5,cP i5,Gf.Sq]
   ac_rfl
theorem mR(b:aS n m){r:Row}(c:i0 r=n):aS n (m++[r]):=λx a=>by
 rcases qz.1 a with h|h
 ·exact b x h
 ·rw[qu.1 h];exact c
theorem WH(f:aS n m){r:Row}(D:i0 r=n):ce m<=ce (m++[r])/\ce (m++[r])<=ce m+1:=by
 have k:=mR f D;refine⟨KT f k λx B=>by simp[B],?_⟩;rw[lP f,lP k];refine WG _ List.nodup_range (λa _ I=>?_) (λa _ b _ F q G l=>?_)
 ·simp only[decide_eq_true_eq]at I⊢;obtain⟨v,J,K⟩:=I;exact⟨v,Span.mono (λx B=>by simp[B]) J,K⟩
 ·simp only[decide_eq_true_eq,decide_eq_false_iff_not]at F q G l;have o:∀a b,Ay (Span n (m++[r])) a->¬Ay (Span n m) a->Ay (Span n (m++[r])) b->¬Ay (Span n m) b->¬a<b:=by
   rintro a b ⟨v,O,N,E⟩ q ⟨w,L,h,p⟩ l t;obtain⟨c,u,H,rfl⟩:=KU f D O;obtain⟨d,s,g,rfl⟩:=KU f D L;have l1:=H.len f;have l2:=g.len f;have M:d≠0:=by
    rintro rfl;apply l;refine⟨s,g,λi A=>?_,?_⟩
    ·have:=h i A;rw[cP i5,Gf.zero_mul,z7]at this;exact this
    ·rw[cP i5,Gf.zero_mul,z7]at p;exact p
   apply q;refine⟨cV (Gf.mul c (Gf.inv d)) s u,g.comb f H _,?_⟩;have e:∀j,aK (cV (Gf.mul c (Gf.inv d)) s u) j=aK (cV c r u) j^^^Gf.mul (Gf.mul c (Gf.inv d)) (aK (cV d r s) j):=λj=>by
    rw[cP i5,cP i5,cP i5,Gf.kj,<-Gf.mul_assoc (Gf.mul c (Gf.inv d)) d,Gf.mul_assoc c (Gf.inv d) d,Gf.mul_comm (Gf.inv d) d,Gf.JS M,Gf.mul_one];have:∀x y z:UInt8,x^^^y=x^^^z^^^(y^^^z):=λx y z=>by
     have:x^^^z^^^(y^^^z)=x^^^y^^^(z^^^z):=by ac_rfl
     rw[this,lK,z7]
    exact this _ _ _
   refine⟨λi A=>?_,?_⟩
   ·rw[e,N i A,h i i5,Gf.mul_zero];rfl
   ·rw[e,h a t,Gf.mul_zero,z7];exact E
  have J:=o a b F q G l;have K:=o b a G l F q;omega
theorem pf(m:aJ)(h:aS n m):ce m<=i0 m:=by
 have a:∀k,k<=i0 m->ce (m.take k)<=k:=by
  intro k
  induction k with
  |zero=>intro _;simp[ce,eU,aC,bH]
  |succ k ih=>
   intro f;have b:aS n (m.take k):=λx c=>h x (zr c);have d:=ih i5;rw[zJ i5];have e:=(WH b (h _ (qf (show k<i0 m by omega)))).2;omega
 have:=a m.length (ql _)
 rwa [qg (ql _)]at this
end
def wX(p:Int×Int×Int)(seed:Int)(ids:aB):Nat:=ce (dV p seed ids)
def fR(p:Int×Int×Int)(seed:Int)(ids:aB):Bool:=bJ p&&((wX p seed ids:Int)==bN p)
def fe(p:Int×Int×Int):aB:=upto (max 0 (min p.1 16)).toNat
theorem ox{p:Int×Int×Int}(h:bJ p=eX):bN p=p.1+p.2.1:=by rw[bN,g9 h]
theorem mS(p:Int×Int×Int)(seed:Int)(ids:aB):aS (bN p).toNat (dV p seed ids):=by
 intro r a;unfold dV at a;split at a
 ·rename_i b;have:=(bT p).1 b;rcases qz.1 a with h|h
  ·obtain⟨x,_,rfl⟩:=qo.1 h;rw[ui,ox b];omega
  ·obtain⟨x,_,rfl⟩:=qo.1 h;exact Nv _ _ _
 ·cases a
theorem aaa(p:Int×Int×Int)(seed:Int)(ids:aB):i0 (dV p seed ids)<=4+i0 ids:=by
 unfold dV;split
 ·rename_i a;have:=(bT p).1 a;have b:=List.length_filter_le bW ids;simp only[qw,bB,qq,zt];omega
 ·simp
theorem Ig(K H:Nat):aS (K+H) (bB K H):=λr a=>by
 obtain⟨x,_,rfl⟩:=qo.1 a;exact ui _ _ _
def fd(a b:aJ):aJ:=zf (·++·) a b
def kP(n:Nat)(m:aJ):aJ:=m.map (List.take n)
theorem GJ{r:Row}{n j:Nat}(h:j<n):aK (r.take n) j=aK r j:=by simp only[aK,qd,vg];rw[g9 h]
theorem ND(r:Row)(n j:Nat):aK (r.drop n) j=aK r (n+j):=by simp only[aK,qd,wP]
theorem tE(n:Nat)(m:aJ)(i:Nat):aC (kP n m) i=(aC m i).take n:=by
 simp only[aC,kP,qd,qP];cases m[i]? with
 |none=>simp
 |some r=>rfl
theorem JT(n:Nat)(m:aJ):i0 (kP n m)=i0 m:=by simp[kP]
theorem Ub{n a bu:Nat}(m:aJ)(h:bu<n):je (kP n m) a bu=je m a bu:=by unfold je;rw[JT];congr 1;funext i;rw[tE,GJ h]
theorem JU(n:Nat)(m:aJ)(i:Nat)(r:Row):kP n (m.set i r)=(kP n m).set i (r.take n):=by simp[kP,List.map_set]
theorem aab(n:Nat)(m:aJ)(i j:Nat):kP n (ju m i j)=ju (kP n m) i j:=by rw[ju,JU,JU,ju,tE,tE]
theorem WI(n:Nat)(c:UInt8)(r:Row):(scaleB c r).take n=scaleB c (r.take n):=by simp[scaleB,List.map_take]
theorem adt(n:Nat)(c:UInt8)(a t:Row):(cV c a t).take n=cV c (a.take n) (t.take n):=by simp[cV,List.take_zipWith]
theorem aac{n bu:Nat}(h:bu<n)(t:Nat)(m:aJ):kP n (ke t bu m)=ke t bu (kP n m):=by rw[ke,JU,WI,ke,tE,GJ h]
theorem aad{n bu:Nat}(h:bu<n)(t k:Nat)(m:aJ):kP n (fh t bu m k)=fh t bu (kP n m) k:=by
 apply zq;intro i;simp only[kP,fh,qP,vx];cases m[i]? with
 |none=>rfl
 |some r=>
  simp only[qQ];congr 1;have:=tE n m t;rw[kP]at this;rw[this,GJ h];split
  ·exact adt _ _ _ _
  ·rfl
theorem aae{n bu:Nat}(h:bu<n)(s:Nat×aJ):((jv s bu).1,kP n (jv s bu).2)=jv (s.1,kP n s.2) bu:=by
 unfold jv;dsimp only;rw[Ub _ h];cases je s.2 s.1 bu with
 |none=>rfl
 |some i=>dsimp only;rw[aad h,aac h,aab,JT]
theorem Ih(n:Nat)(m:aJ):∀c,c<=n->((bH m c).1,kP n (bH m c).2)=bH (kP n m) c
 |0,_=>rfl
 |c+1,h=>by
  have a:=Ih n m c i5;rw[bH,bH,aae (show c<n by omega),a]
theorem mv{a b:aJ}(h:i0 a=i0 b):i0 (fd a b)=i0 a:=by simp[fd,h]
theorem Fx{a b:aJ}(h:i0 a=i0 b){i:Nat}(c:i<i0 a):aC (fd a b) i=aC a i++aC b i:=by rw[bw (by rw[mv h];exact c),bw c,bw i5];simp[fd]
theorem mT{n w:Nat}{a b:aJ}(h:i0 a=i0 b)(d:aS n a)(e:aS w b):aS (n+w) (fd a b):=λr f=>by
 obtain⟨i,c,rfl⟩:=fj f;rw[mv h]at c;rw[Fx h c,qw,cC d c,cC e]
theorem adu{n:Nat}{a b:aJ}(h:i0 a=i0 b)(d:aS n a):kP n (fd a b)=a:=by apply we (by rw[JT,mv h]);intro i e c;have:=tE n (fd a b) i;rw[bw e,Fx h c,List.take_left' (cC d c),bw c]at this;exact this
theorem aaf{n:Nat}{a:aJ}(b:aS n a):(bH a n).1=ce a:=by
 rw[ce];cases a with
 |nil=>rw[kv,kv]
 |cons x t=>rw[eU,bw jj];rw[show((x::t)[0]).length=n from b _ jj]
theorem GK{n:Nat}{a b:aJ}(h:i0 a=i0 b)(c:aS n a):(bH (fd a b) n).1=ce a:=by have:=congrArg qt (Ih n (fd a b) n (ql _));rw[adu h c]at this;rw[<-aaf c];exact this
def pV(w:Nat)(r:Row)(X:aJ):Nat->Row
 |0=>aI w
 |k+1=>cV (aK r k) (aC X k) (pV w r X k)
theorem iM{n w:Nat}{X:aJ}(b:aS w X)(c:i0 X=n)(r:Row):∀k,k<=n->i0 (pV w r X k)=w
 |0,_=>by simp[pV,aI]
 |k+1,h=>by
  have a:=iM b c r k i5;rw[pV,bZ (by rw[cC b,a])];exact a
theorem il{n w:Nat}{X:aJ}(a:aS w X)(b:i0 X=n)(r:Row)(j:Nat):∀k,k<=n->aK (pV w r X k) j=bU (λi=>aK r i) (λi=>aK (aC X i) j) k
 |0,_=>by rw[pV,cD];rfl
 |k+1,h=>by
  have c:=il a b r j k i5;rw[pV,cP (by rw[cC a,iM a b r k i5]),c];rfl
def fD(n w:Nat)(a b X:aJ):Prop:=i0 X=n/\aS w X/\∀i,i<i0 a->pV w (aC a i) X n=aC b i
theorem aag{m a:aJ}(d:i0 m=i0 a)(h:∀i,i<i0 m->aC m i=aC a i):m=a:=by
 apply we d;intro i b c;have:=h i b
 rwa [bw b,bw c]at this
def ul(n:Nat)(X:aJ)(k:Nat)(v:Row):UInt8:=aK v (n+k)^^^bU (λi=>aK v i) (λi=>aK (aC X i) k) n
theorem fY{f f' g a:Nat->UInt8}:∀k,(∀i,i<k->f i=f' i)->(∀i,i<k->g i=a i)->bU f g k=bU f' a k
 |0,_,_=>rfl
 |k+1,h1,h2=>by rw[bU,bU,fY k (λi b=>h1 i i5) λi b=>h2 i i5,h1 k i5,h2 k i5]
theorem Sv(n:Nat)(X:aJ)(k:Nat)(c:UInt8)(a t:Row)(h:i0 a=i0 t:=by omega):ul n X k (cV c a t)=ul n X k t^^^Gf.mul c (ul n X k a):=by unfold ul;rw[cP h];have:bU (λi=>aK (cV c a t) i) (λi=>aK (aC X i) k) n=bU (λi=>aK t i^^^Gf.mul c (aK a i)) (λi=>aK (aC X i) k) n:=fY n (λi _=>cP h i) λ_ _=>rfl;rw[this,Fv,Gf.kj];ac_rfl
theorem Sw{a b:Row}{n:Nat}(c:i0 a=n)(k:Nat):aK (a++b) (n+k)=aK b k:=by simp only[aK,qd];rw[qh i5,c,zn]
theorem NE{a b:Row}{n j:Nat}(c:i0 a=n)(d:j<n):aK (a++b) j=aK a j:=by simp only[aK,qd];rw[qm i5]
theorem ph{a b:UInt8}:a^^^b=0↔a=b:=by
 constructor
 ·intro h;have:=congrArg (·^^^b) h;simp only[wF]at this
  rwa [pU]at this
 ·rintro rfl;exact lK _
theorem Ii{n w:Nat}{a b X:aJ}(h:i0 a=i0 b)(e:aS n a)(o:aS w b)(l:i0 X=n)(g:aS w X):fD n w a b X↔∀k,k<w->∀v,Span (n+w) (fd a b) v->ul n X k v=0:=by
 have f:=mT h e o;constructor
 ·intro x k p v u;refine Span.lin f (ul n X k) ?_ (λc a t y z=>Sv n X k c a t) (λr s=>?_) u
  ·unfold ul;rw[cD,fU _ _ n λi _=>cD _ _];rfl
  ·obtain⟨i,d,rfl⟩:=fj s;rw[mv h]at d;rw[Fx h d];unfold ul;rw[Sw (cC e d),<-x.2.2 i d,il g l _ k n (ql _),ph];exact fY n (λj m=>(NE (cC e d) m).symm) λ_ _=>rfl
 ·intro q;refine⟨l,g,λi d=>eZ (n:=w) (iM g l _ n (ql _)) (cC o) λk p=>?_⟩;have:=q k p _ (Span.row f (mem_row (show i<i0 (fd a b) by rw[mv h];exact d)));rw[Fx h d]at this;unfold ul at this;rw[Sw (cC e d),ph]at this;rw[this,il g l _ k n (ql _)];exact fY n (λj m=>(NE (cC e d) m).symm) λ_ _=>rfl
theorem afi{n:Nat}{p:Nat->Nat}(d:∀i,i<n->p i<n)(b:∀i j,i<j->j<n->p i<p j):∀i,i<n->p i=i:=by
 have c:∀i,i<n->i<=p i:=by
  intro i
  induction i with
  |zero=>intro _;omega
  |succ i ih=>intro a;have:=ih i5;have:=b i (i+1) i5 a;omega
 have up:∀k i,i+k+1=n->p i<=i:=by
  intro k
  induction k with
  |zero=>intro i a;have:=d i i5;omega
  |succ k ih=>intro i a;have:=ih (i+1) i5;have:=b i (i+1) i5 i5;omega
 intro i a;have:=c i a;have:=up (n-1-i) i i5;omega
def gp(n:Nat)(a b:aJ):aJ:=(((bH (fd a b) n).2).take n).map (List.drop n)
def kY(n:Nat)(a b:aJ):Prop:=∀r∈((bH (fd a b) n).2).drop n,r=aI r.length
section
variable {n w:Nat} {a b:aJ}
theorem tG(h:i0 a=i0 b)(e:aS n a)(g:aS w b)(j:ce a=n):i0 (gp n a b)=n/\aS w (gp n a b):=by have d:=mT h e g;have f:=ig d n;have h3:=pf a e;refine⟨by rw[gp,qq,qR,f.2,mv h];omega,λr c=>?_⟩;obtain⟨x,i,rfl⟩:=qo.1 c;rw[zb,f.1 x (zr i)];omega
theorem Sx(h:i0 a=i0 b)(d:aS n a)(e:ce a=n){i:Nat}(c:i<n):aC (gp n a b) i=(aC (bH (fd a b) n).2 i).drop n:=by
 simp only[aC,gp,qd,qP,vg];rw[g9 c]
 cases(bH (fd a b) n).2[i]? with
 |none=>simp
 |some r=>rfl
theorem NF(h:i0 a=i0 b)(f:aS n a)(q:aS w b)(r:ce a=n):
  (∀v,Span (n+w) (bH (fd a b) n).2 v↔Span (n+w) (fd a b) v)/\(bH (fd a b) n).2.length=i0 a/\(∀i,i<n->∀k,k<i0 a->aK (aC (bH (fd a b) n).2 k) i=if k=i then 1 else 0):=by
 have c:=mT h f q;have W:=Fw c n i5;have o:(bH (fd a b) n).1=n:=by rw[GK h f,r]
 obtain⟨p,g,j,m,e⟩:=W.piv;rw[o]at g j m e;have hid:=afi g e;have l:(bH (fd a b) n).2.length=i0 a:=by rw[W.len,mv h]
 refine⟨W.span,l,λi d k s=>?_⟩;have:=j i d k i5
 rwa [hid i d]at this
theorem NG{X:aJ}{r:Row}{i k:Nat}(a:i<n)(b:∀j,j<n->aK r j=if i=j then 1 else 0):ul n X k r=aK r (n+k)^^^aK (aC X i) k:=by unfold ul;rw[Fu _ _ i n a λj c=>b j c]
theorem Sy{X:aJ}{r:Row}{k:Nat}(a:∀j,j<n->aK r j=0):ul n X k r=aK r (n+k):=by unfold ul;rw[fU _ _ n a,z7]
theorem lQ(h:i0 a=i0 b)(l:aS n a)(p:aS w b)(u:ce a=n){X:aJ}(g:fD n w a b X):X=gp n a b/\kY n a b:=by
 have x:=mT h l p;have s:=ig x n;obtain⟨m,D,q⟩:=NF h l p u;have A:=pf a l;have z:=(Ii h l p g.1 g.2.1).1 g;obtain⟨y,s2⟩:=tG h l p u;constructor
 ·refine aag (by rw[g.1,y]) λi c=>eZ (n:=w) (cC g.2.1 c) (cC s2 (by rw[y];rw[g.1]at c;exact c)) λk B=>?_;rw[g.1]at c;have h3:=z k B _ ((m _).1 (Span.row s.1 (mem_row (show i<(bH (fd a b) n).2.length by omega))));rw[NG c λj o=>q j o i i5]at h3;rw[Sx h l u c,ND];exact(ph.1 h3).symm
 ·intro r t;obtain⟨i,c,rfl⟩:=qB t;rw[zb]at c;rw[wz];have f:n+i<(bH (fd a b) n).2.length:=i5
  have e:=bw f;have d:=cC s.1 f;rw[<-e,d];refine eZ (n:=n+w) d ln λj o=>?_;rw[cD];by_cases v:j<n
  ·rw[q j v (n+i) i5,hU i5]
  ·obtain⟨k,rfl⟩:∃k,j=n+k:=⟨j-n,i5⟩
   have h3:=z k i5 _ ((m _).1 (Span.row s.1 (mem_row f)))
   rwa [Sy λj o=>by rw[q j o (n+i) i5,hU i5]]at h3
theorem pi(h:i0 a=i0 b)(e:aS n a)(g:aS w b)(p:ce a=n)(A:kY n a b):fD n w a b (gp n a b):=by
 have q:=mT h e g;have u:=ig q n;obtain⟨m,E,s⟩:=NF h e g p;have z:=pf a e;obtain⟨B,s2⟩:=tG h e g p;refine(Ii h e g B s2).2 λk G v D=>?_;refine Span.lin u.1 (ul n (gp n a b) k) ?_ (λc x t F u=>Sv n _ k c x t) (λr o=>?_) ((m v).2 D)
 ·unfold ul;rw[cD,fU _ _ n λi _=>cD _ _];rfl
 ·obtain⟨i,y,rfl⟩:=fj o;by_cases f:i<n
  ·rw[NG f λj l=>s j l i i5,Sx h e p f,ND];exact lK _
  ·rw[Sy λj l=>by rw[s j l i i5,hU i5]];have:aC (bH (fd a b) n).2 i∈(bH (fd a b) n).2.drop n:=by
    rw[bw y];obtain⟨d,rfl⟩:∃d,i=n+d:=⟨i-n,i5⟩
    rw[<-wz (h:=by rw[zb];omega)];exact qf _
   rw[A _ this,cD]
theorem Qh(h:i0 a=i0 b)(e:aS n a)(f:aS w b)(i:i0 a=n):kY n a b:=by have c:=mT h e f;have g:=ig c n;intro r d;rw[zc (by rw[g.2,mv h];omega)]at d;cases d
end
def NH(l:aB):Prop:=∀a b,a<i0 l->b<i0 l->lr l a=lr l b->a=b
theorem Fy{l:aB}{i:Nat}(h:i<i0 l):lr l i=l[i]:=by rw[lr,qd,qc h];rfl
theorem aah{l:aB}{i j k:Nat}(c:i<i0 l)(d:j<i0 l):lr (rC l i j) k=if k=j then lr l i else if k=i then lr l j else lr l k:=by
 simp only[lr,rC,qd,qU,zC];by_cases a:j=k
 ·subst a;simp[d]
 ·by_cases b:i=k
  ·subst b;simp[a,c];omega
  ·simp[a,b];omega
theorem swap_inj{l:aB}{i j:Nat}(g:i<i0 l)(m:j<i0 l)(h:NH l):NH (rC l i j):=by
 intro a b n o p;rw[Nt]at n o;have d:∀k,k<i0 l->∃σ,σ<i0 l/\lr (rC l i j) k=lr l σ/\(σ=if k=j then i else if k=i then j else k):=λk v=>by
  rw[aah g m];by_cases e:k=j
  ·rw[g9 e,g9 e];exact⟨i,g,i4,i4⟩
  ·rw[hU e,hU e];by_cases f:k=i
   ·rw[g9 f,g9 f];exact⟨j,m,i4,i4⟩
   ·rw[hU f,hU f];exact⟨k,v,i4,i4⟩
 obtain⟨s,w,u,r⟩:=d a n;obtain⟨t,q,e2,c⟩:=d b o;rw[u,e2]at p;have:=h s t w q p;subst this;rw[r]at c;split at c<;>split at c<;>(try split at c)<;>(try split at c)<;>omega
theorem WJ{l:aB}(h:NH l):l.Nodup:=by rw[List.nodup_iff_pairwise_ne,zj];intro i j a b d c;have:=h i j a b (by rw[Fy a,Fy b];exact c);omega
theorem aai(n:Nat):NH (upto n):=by intro a b c d e;rw[ik]at c d;rw[Fy (by rw[ik];exact c),Fy (by rw[ik];exact d)]at e;simp[upto]at e;omega
theorem NI(n:Nat)(s:Int):∀k,k<=n->n<=64->NH (gT n s (upto n) k).2
 |0,_,_=>aai n
 |k+1,hk,hn=>by
  have a:=ug n s (upto n) k;rw[ik]at a;have:=uf (gT n s (upto n) k).1 ((n-k:Nat):Int);exact swap_inj i5 i5 (NI n s k i5 hn)
theorem Uc(s:Int)(n k:Nat)(a:k<=n)(b:n<=64):(Fm s n k).Nodup:=by have h:=(WJ (NI n s k a b)).sublist (List.take_sublist k _);exact(wV _ _).nodup_iff.2 h
theorem BL{n:Nat}(a:1<=n)(b:n<=20)(seed id:Int):(dD n seed id).Nodup:=Uc _ _ _ (uh _ n a b) i5
theorem Qi(n:Nat)(seed id:Int):(dD n seed id).Pairwise (·<=·):=by have:=yF (le:=λx y:Int=>decide (x<=y)) (by intro a b c;simp;omega) (by intro a b;simp;omega) ((gT n (CM (CM (Dz seed id))) (upto n) (Fq (CM (Dz seed id)) n)).2.take (Fq (CM (Dz seed id)) n));exact this.imp jj
theorem JV{r:Row}{i j:Nat}{x:UInt8}(a:i<i0 r):aK (r.set i x) j=if j=i then x else aK r j:=by
 simp only[aK,qd,qU];by_cases h:i=j
 ·subst h;simp[a]
 ·simp[h];intro e;exact absurd e.symm h
theorem KV(n:Nat)(l:aB)(c:Int):gx n (l++[c])=(gx n l).set c.toNat 1:=by rw[gx,z6];rfl
theorem BM{n:Nat}:∀(l:aB) (_:∀x∈l,0<=x/\x<(n:Int)) (j:Nat),aK (gx n l) j=if(j:Int)∈l then 1 else 0:=by
 intro l;have d:∀k,k<=i0 l->(∀x∈l,0<=x/\x<(n:Int))->∀j:Nat,aK (gx n (l.take k)) j=if(j:Int)∈l.take k then 1 else 0:=by
  intro k
  induction k with
  |zero=>intro _ _ j;simp[gx];exact cD n j
  |succ k ih=>
   intro g b j;have f:=b _ (qf (show k<i0 l by omega));rw[zJ i5,KV,JV (by rw[pS];omega),ih i5 b];have a:(j:Int)∈l.take k++[l[k]]↔(j:Int)∈l.take k∨(j:Int)=l[k]:=by rw[qz,qu]
   by_cases h:j=l[k].toNat
   ·rw[g9 h,g9 (a.2 (.inr i5))]
   ·rw[hU h];by_cases c:(j:Int)∈l.take k
    ·rw[g9 c,g9 (a.2 (.inl c))]
    ·rw[hU c,hU λe=>(a.1 e).elim c λh3=>h i5]
 intro b j;have:=d l.length (ql _) b j
 rwa [qg (ql _)]at this
theorem GL{f f' g:Nat->UInt8}{c:Nat}(b:f c=0)(a:∀i,f' i=if i=c then 1 else f i):∀k,bU f' g k=bU f g k^^^if c<k then g c else 0
 |0=>by simp[bU]
 |k+1=>by
  rw[bU,bU,GL b a k,a k];by_cases d:k=c
  ·subst d;rw[g9 i4,hU i5,g9 i5,Gf.one_mul,b,Gf.zero_mul]
  ·rw[hU d];by_cases h:c<k
   ·rw[g9 h,g9 i5];ac_rfl
   ·rw[hU h,hU i5];simp
def fV(w:Nat)(X:aJ)(l:aB):Row:=l.foldl (λs c=>cV 1 (aC X c.toNat) s) (aI w)
theorem BN(w:Nat)(X:aJ)(l:aB)(c:Int):fV w X (l++[c])=cV 1 (aC X c.toNat) (fV w X l):=by rw[fV,z6];rfl
theorem pj{n w:Nat}{X:aJ}(b:aS w X)(e:i0 X=n){l:aB}(a:∀x∈l,0<=x/\x<(n:Int)):∀k,k<=i0 l->i0 (fV w X (l.take k))=w:=by
 intro k
 induction k with
 |zero=>intro _;simp[fV,aI]
 |succ k ih=>
  intro d;have c:=a _ (qf (show k<i0 l by omega));rw[zJ i5,BN,bZ (by rw[cC b,ih i5])];exact ih i5
theorem Sz{n w:Nat}{X:aJ}(b:aS w X)(c:i0 X=n){l:aB}(a:∀x∈l,0<=x/\x<(n:Int)):i0 (fV w X l)=w:=by
 have:=pj b c a l.length (ql _)
 rwa [qg (ql _)]at this
theorem adv{n w:Nat}{X:aJ}(a:aS w X)(b:i0 X=n){l:aB}(d:∀x∈l,0<=x/\x<(n:Int))(o:l.Nodup):fV w X l=pV w (gx n l) X n:=by
 have m:∀k,k<=i0 l->fV w X (l.take k)=pV w (gx n (l.take k)) X n:=by
  intro k
  induction k with
  |zero=>
   intro _;refine eZ (n:=w) (by simp[fV,aI]) (iM a b _ n (ql _)) λj _=>?_;rw[il a b _ j n (ql _),fU _ _ n λi _=>by simp only[vP,gx,wQ];exact cD n i];simp only[vP,fV,wQ];exact cD w j
  |succ k ih=>
   intro r;have q:=d _ (qf (show k<i0 l by omega));have p:=pj a b d k i5;rw[zJ i5,BN,KV,ih i5];refine eZ (n:=w) ?_ (iM a b _ n (ql _)) λj _=>?_
   ·rw[bZ (by rw[cC a,iM a b _ n (ql _)])];exact iM a b _ n (ql _)
   ·rw[cP (by rw[cC a,iM a b _ n (ql _)]),il a b _ j n (ql _),il a b _ j n (ql _)];have g:l[k]∉l.take k:=λh=>by
     have e:l=l.take k++l[k]::l.drop (k+1):=by rw[<-qK i5,qC]
     rw[e,List.nodup_append]at o;exact o.2.2 _ h _ qM i4
    have h0:aK (gx n (l.take k)) l[k].toNat=0:=by
     rw[BM _ λx q=>d x (zr q),hU];intro h;apply g;have:((l[k].toNat:Nat):Int)=l[k]:=i5
     rwa [this]at h
    rw[GL (f:=λi=>aK (gx n (l.take k)) i) (c:=l[k].toNat) h0 (λi=>JV (by rw[pS];omega)) n,g9 i5,Gf.one_mul]
 have:=m l.length (ql _)
 rwa [qg (ql _)]at this
def kw(K H w:Nat)(d:Row):aJ:=qi H (aI w)++(qx K).map (Du d w)
def dw(p:Int×Int×Int)(seed:Int)(d:Row):aJ:=gp (bN p).toNat (dV p seed (fe p)) (kw p.1.toNat p.2.1.toNat p.2.2.toNat d)
structure cv (p:Int×Int×Int) (seed:Int) (d:Row) (K H w n:Nat):Prop where
 may:bJ p=eX
 full:fR p seed (fe p)=eX
 k:p.1=K
 h:p.2.1=H
 s:p.2.2=w
 n:n=K+H
 k1:1<=K
 k2:K<=16
 h1:1<=H
 h2:H<=4
 w1:1<=w
 w2:w<=24
 len:i0 d=K*w
theorem Ud{p:Int×Int×Int}{seed:Int}{d:Row}(a:bJ p=eX)(c:fR p seed (fe p)=eX)(b:(i0 d:Int)=p.1*p.2.2):∃K H w n,cv p seed d K H w n:=by
 have:=(bT p).1 a;refine⟨p.1.toNat,p.2.1.toNat,p.2.2.toNat,p.1.toNat+p.2.1.toNat,a,c,i5,i5,i5,i4,i5,i5,i5,i5,i5,i5,?_⟩;have e:p.1=(p.1.toNat:Int):=i5
 have e2:p.2.2=(p.2.2.toNat:Int):=i5
 rw[e,e2,<-Int.natCast_mul]at b;exact Int.ofNat.inj b
section
variable {p:Int×Int×Int} {seed:Int} {d:Row} {K H w n:Nat}
theorem cv.cZ(B:cv p seed d K H w n):bN p=n:=by rw[ox B.may,B.k,B.h,B.n];rfl
theorem cv.pk(B:cv p seed d K H w n):(bN p).toNat=n:=by rw[B.cZ];rfl
theorem Ue(a:p.1=(K:Int))(h:K<=16):fe p=upto K:=by rw[fe];congr 1;omega
theorem Qj(h:K<=16):(upto K).filter bW=upto K:=by rw[List.filter_eq_self];intro x b;simp[upto]at b;obtain⟨a,c,rfl⟩:=b;simp[bW];omega
theorem cv.Nm(B:cv p seed d K H w n):dV p seed (fe p)=bB K H++(qx K).map λi:Nat=>om n seed (i:Int):=by rw[dV,g9 B.may,Ue B.k B.k2,Qj B.k2,B.k,B.h,B.pk,qj,qj,upto,List.map_map];rfl
theorem cv.DH(B:cv p seed d K H w n):i0 (dV p seed (fe p))=n:=by rw[B.Nm,qw,qq,zt,bB,qq,zt,B.n];omega
theorem cv.Fz(B:cv p seed d K H w n):aS n (dV p seed (fe p)):=by
 have:=mS p seed (fe p)
 rwa [B.pk]at this
theorem cv.JW(B:cv p seed d K H w n):ce (dV p seed (fe p))=n:=by have h:=B.full;rw[fR,B.may,B.cZ,wX]at h;simp at h;exact Int.ofNat.inj h
theorem DI(K H w:Nat)(d:Row):i0 (kw K H w d)=K+H:=by simp[kw];omega
theorem sY(c:i0 d=K*w):aS w (kw K H w d):=λr b=>by
 rcases qz.1 b with h|h
 ·rw[(List.mem_replicate.1 h).2];simp[aI]
 ·obtain⟨i,a,rfl⟩:=qo.1 h;rw[qA]at a;exact adm (by rw[c];exact zD w a)
theorem WK{i:Nat}(a:i<H):aC (kw K H w d) i=aI w:=by rw[aC,kw,qd,qm k7];simp[a]
theorem Uf{i:Nat}(a:i<K):aC (kw K H w d) (H+i)=Du d w i:=by rw[aC,kw,qd,qh jj];simp[a]
theorem cv.CO(B:cv p seed d K H w n):dw p seed d=gp n (dV p seed (fe p)) (kw K H w d):=by rw[dw,B.pk,B.k,B.h,B.s];rfl
theorem cv.lens(B:cv p seed d K H w n):i0 (dV p seed (fe p))=i0 (kw K H w d):=by rw[B.DH,DI,B.n]
theorem cv.nR(B:cv p seed d K H w n):i0 (dw p seed d)=n/\aS w (dw p seed d):=by rw[B.CO];exact tG B.lens B.Fz (sY B.len) B.JW
theorem cv.fD(B:cv p seed d K H w n):fD n w (dV p seed (fe p)) (kw K H w d) (dw p seed d):=by rw[B.CO];exact pi B.lens B.Fz (sY B.len) B.JW (Qh B.lens B.Fz (sY B.len) B.DH)
theorem cv.afj(B:cv p seed d K H w n){i:Nat}(a:i<H):aC (dV p seed (fe p)) i=lO K H i:=by rw[B.Nm,aC,qd,qm (by simpa[bB]using a)];simp[bB,a]
theorem cv.adw(B:cv p seed d K H w n){i:Nat}(a:i<K):aC (dV p seed (fe p)) (H+i)=om n seed (i:Int):=by rw[B.Nm,aC,qd,qh (by simp[bB])];simp[bB,a]
theorem cv.low(B:cv p seed d K H w n){i:Nat}(a:i<H):pV w (lO K H i) (dw p seed d) n=aI w:=by
 have:=B.fD.2.2 i (by rw[B.DH,B.n];omega)
 rwa [B.afj a,WK a]at this
theorem cv.high(B:cv p seed d K H w n){i:Nat}(a:i<K):pV w (om n seed (i:Int)) (dw p seed d) n=Du d w i:=by
 have:=B.fD.2.2 (H+i) (by rw[B.DH,B.n];omega)
 rwa [B.adw a,Uf a]at this
theorem cv.n1(B:cv p seed d K H w n):1<=n:=by have:=B.n;have:=B.k1;omega
theorem cv.n2(B:cv p seed d K H w n):n<=20:=by have:=B.n;have:=B.k2;have:=B.h2;omega
theorem cv.sym(B:cv p seed d K H w n)(id:Int):fV w (dw p seed d) (dD n seed id)=pV w (om n seed id) (dw p seed d) n:=
 adv B.nR.2 B.nR.1 (λ_ a=>mO B.n1 B.n2 a) (BL B.n1 B.n2 seed id)
theorem cv.aaj(B:cv p seed d K H w n){i:Nat}(a:i<K):fV w (dw p seed d) (dD n seed (i:Int))=Du d w i:=by rw[B.sym,B.high a]
theorem cv.WL(B:cv p seed d K H w n)(id:Int):i0 (fV w (dw p seed d) (dD n seed id))=w:=
 Sz B.nR.2 B.nR.1 λ_ a=>mO B.n1 B.n2 a
end
end
theorem Qk{α:Type}{c k:Nat}{f:α->aT}:∀{rs:List Sl} {ll:List (List α)} (a:List Sl) (b:List (List α)),i0 rs=i0 ll->bv c k f (rs++a) (ll++b)=bv c k f rs ll++bv c k f a b:=by intro rs ll a b h;unfold bv;exact yM h
theorem aa.aak{B:aw}{a h:g0}{X:HP}:∀{L M:List HP},aa B a h (L++X::M)->aa B a h (L++M):=λ{L M} H=>by
 have:=H.del L.length
 rwa [List.eraseIdx_append_of_length_le (ql _),qW,List.eraseIdx_cons_zero]at this
variable {h':g0} {e2:Nat} {s2:Sl} {ll:List (List α)}
section
variable {C:Ctx} {l2:List (List α)}
theorem aa.adx(u:C.Ok)(H:aa B h0 h (dH e s e2 k f ll::dH e s2 e2 k f l2::As))(F:bG C.toAQ t e 1 [.slice eH 0 0] 24)(z:∃i e2,C.T.get t2=dB i/\i.cG=.slice e2)(x:i0 ll+i0 l2<=2^32){ty:Nat}{K:Sl->g0->Prop}
  (E:∀d h',aa B h0 h' (dH e d e2 k f (ll++l2)::As)->K d h'):
  bz C.P (zx #[t,t2] ty #[.slice s.ptr s.len s.cap,.slice s2.ptr s2.len s2.cap]) (.one (.sc .slc)) h K:=by
 obtain⟨rs,o,q⟩:=H.vA;obtain⟨c,g⟩:∃c,c=bv e2 k f rs ll:=⟨_,rfl⟩
 rw[<-g]at q;have v:aa B h0 h (dH e s2 e2 k f l2::(As++(af e s 1 bg rs::c))):=q.front;obtain⟨a,m,n⟩:=v.vA;obtain⟨L2,j⟩:∃L2,L2=bv e2 k f a l2:=⟨_,rfl⟩
 rw[<-j]at n;have p:=n.front;rw[qn]at p;have A:=p.front;have r:aa B h0 h (af e s 1 bg rs::(c++(af e s2 1 bg a::(L2++As)))):=by
  have D:(af e s 1 bg rs::c++(af e s2 1 bg a::L2))++As=af e s 1 bg rs::(c++(af e s2 1 bg a::(L2++As))):=jj
  rw[<-D];exact A
 have G:Seq h (λb=>b<h.size) s2 1 bg a:=r.seq (i0 c+1) (by rw[qp,qh (ql _),qW];rfl) λ_=>rfl;refine r.append u 0 i4 F z i4 i6 (λ_=>rfl) G jQ i5 λd h' l=>E d h' ?_;have l:aa B h0 h' ((af e d 1 bg (rs++a)::c)++(af e s2 1 bg a::(L2++As))):=l;have w:=aa.aak l;refine aa.Dx (rs:=rs++a) (by simp[o,m]) ?_;rw[Qk a l2 o,<-g,<-j];have y:(af e d 1 bg (rs++a)::(c++L2))++As=(af e d 1 bg (rs++a)::c)++(L2++As):=jj
 rw[y];exact w
end
end Go.Qw
