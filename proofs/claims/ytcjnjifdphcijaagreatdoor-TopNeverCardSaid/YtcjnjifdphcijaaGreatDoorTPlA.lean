/- Lemmas for the proof of the law; no condition. -/
import Derived.Test.YtcjnjifdphcijaaGreatDoorTVcA
import Derived.Sort.Grow
import Derived.Lib.SlicesCompact
import Derived.Lib.RowBridge
set_option linter.unusedVariables false
set_option linter.unusedSimpArgs false
open Array renaming ext' -> yC, getElem?_eq_some_iff -> yI, getElem?_modify -> ym, range -> xl, toList_map -> vX
open List renaming exists_mem_of_ne_nil -> vw, filter_cons_of_pos -> va, getElem?_cons_zero -> y8, getElem?_mapIdx -> vn, getElem?_take -> vf, pairwise_mergeSort -> yA, range -> qt, replicate -> qh, set_comm -> vA, set_eq_take_append_cons_drop -> ya, take_left -> xj, take_zero -> vN, zipWith -> za
open Go.Value renaming int -> xz
open Go.IntKind renaming bits -> qG, i64 -> xF, signed -> y9, u32 -> xH, u64 -> xI, u8 -> xG, wrap -> qe
open Go.Builtin renaming append_ -> zD, clear_ -> vL, copy_ -> yZ, firstCells -> wN, nextslicecap -> vm, zeroCells -> yy
open Go.Instr renaming alloc -> w7, box -> vq, buildSlice -> zG, fill -> wE, makeSlice -> zt, storeAt -> qE
open Int renaming fdiv -> zx, fdiv_eq_ediv_of_nonneg -> yM, tmod -> xq
open Option renaming some -> zQ
open UInt8 renaming lt_iff_toNat_lt -> zU, ofNat -> yH
open Prod renaming fst -> qL
open BitVec renaming ofInt -> qN, ofNat_toNat -> vG, setWidth_eq -> vH
set_option maxRecDepth 100000
open Option renaming some -> dB, none -> eH
open Bool renaming true -> eR, false -> eS
open Go renaming Value -> eX, Addr -> f7
open Go.Qw renaming cellOf -> f8, Heap -> f9
open List renaming length -> i0
namespace Go.Qw
variable {A B:Prop}
theorem ae{p:Prop}[Decidable p](b:p->A)(a:¬p->B):Br (decide p) A B:=by
 by_cases h:p
 ·rw[hU h];exact b h
 ·rw[hZ h];exact a h
theorem bf{a b:Int}(d:a=b->A)(c:a≠b->B):Br (a==b) A B:=by
 by_cases h:a=b
 ·rw[beq_iff_eq.2 h];exact d h
 ·rw[beq_eq_false_iff_ne.2 h];exact c h
theorem bz{a b:Int}(d:a≠b->A)(c:a=b->B):Br (a !=b) A B:=by
 by_cases h:a=b
 ·rw[show(a !=b)=eS by simp[h]];exact c h
 ·rw[show(a !=b)=eR by simp[h]];exact d h
theorem bc{b:Bool}(c:b=eR->A)(a:b=eS->B):Br b A B:=by
 cases b
 ·exact a i4
 ·exact c i4
theorem aU{b:Bool}(c:b=eS->A)(a:b=eR->B):Br (!b) A B:=by
 cases b
 ·exact c i4
 ·exact a i4
theorem Cj{b:Bool}(h:b=eR)(a:A):Br b A B:=by subst h;exact a
theorem sY{b:Bool}(h:b=eS)(a:B):Br b A B:=by subst h;exact a
theorem aO{σ:Type}{rest:σ->f9->Prop}{B:(σ->f9->Prop)->Prop}(h:B rest):np rest B:=⟨rest,λ_ _ x=>x,h⟩
theorem bE{σ:Type}{rest:σ->f9->Prop}{B:(σ->f9->Prop)->Prop}(R:σ->f9->Prop)(b:B R)(a:∀s h,R s h->rest s h):np rest B:=⟨R,a,b⟩
theorem aq{σ:Type}{B:σ->(σ->f9->Prop)->f9->Prop}{s:σ}{h:f9}{τ:Type}(V:τ->σ)(I:τ->f9->Prop)(μ:τ->Nat)(t0:τ)(c:s=V t0)(d:I t0 h)
  (e:∀t h,I t h->B (V t) (λb h'=>∃a,b=V a/\I a h'/\μ a<μ t) h):gm B s h:=⟨τ,V,I,μ,t0,c,d,e⟩
abbrev ak:=Nat->Prop
def aP(p:ak)(h h':f9):Prop:=h.size<=h'.size/\∀b,b<h.size->p b->h'[b]?=h[b]?
def Sl.on(s:Sl)(b:Nat):Prop:=∃o,s.ptr=dB ⟨b,o,eH⟩
variable {p q:ak} {h h' h'':f9}
theorem aP.refl(p:ak)(h:f9):aP p h h:=⟨qk _,λ_ _ _=>rfl⟩
theorem aP.trans(a:aP p h h')(b:aP p h' h''):aP p h h'':=⟨qY a.1 b.1,λk d c=>(b.2 k (qR d a.1) c).trans (a.2 k d c)⟩
theorem aP.then(a:aP p h h')(b:aP q h' h'')(e:∀k,k<h.size->p k->q k):aP p h h'':=⟨qY a.1 b.1,λk c d=>(b.2 k (qR c a.1) (e k c d)).trans (a.2 k c d)⟩
theorem aP.mono(a:aP p h h')(e:∀b,b<h.size->q b->p b):aP q h h':=⟨a.1,λk c d=>a.2 k c (e k c d)⟩
theorem aP.push(p:ak)(h:f9)(o:Obj):aP p h (h.push o):=⟨jj,λb a _=>by rw[Array.getElem?_push,g9 i5]⟩
theorem sf{a:f7}{v:eX}(b:f8 h a=dB v):a.block<h.size:=by
 unfold f8 at b;cases hb:h[a.block]? with
 |none=>rw[hb]at b;cases b
 |some o=>exact(yI.1 hb).1
theorem lt_of_block{b:Nat}{o:Obj}(a:h[b]?=dB o):b<h.size:=(yI.1 a).1
theorem aP.cell(a:aP p h h'){x:f7}{v:eX}(c:p x.block)(b:f8 h x=dB v):f8 h' x=dB v:=by have:=a.2 _ (sf b) c;unfold f8 at*;rw[this];exact b
theorem aP.block(a:aP p h h'){b:Nat}{o:Obj}(d:p b)(c:h[b]?=dB o):h'[b]?=dB o:=by rw[a.2 b (lt_of_block c) d];exact c
theorem aP.cells(a:aP p h h'){x:f7}(b:p x.block):∀{vs:aR} {i:Nat},ba h x i vs->ba h' x i vs
 |[],_,_=>trivial
 |v::r,i,hc=>⟨a.cell (by unfold Addr.add;split<;>exact b) hc.1,aP.cells a b hc.2⟩
theorem add_eq(b o n:Nat):(⟨b,o,eH⟩:f7).add n=⟨b,o+n,eH⟩:=by
 unfold Addr.add;split
 ·rename_i h;subst h;rfl
 ·rfl
theorem add_zero(a:f7):a.add 0=a:=rfl
theorem AE{h:f9}{b o:Nat}{c:Array eX}{e:TypeId}{f:Nat×Nat}(a:h[b]?=dB (.cells c e f)):f8 h ⟨b,o,eH⟩=c[o]?:=by unfold f8;rw[a];rfl
theorem XR{h:f9}{b o:Nat}{c:Array eX}{e:TypeId}(a:h[b]?=dB (.cells c e (0,0))):Re h ⟨b,o,eH⟩=eS:=by unfold Re;rw[a];simp
structure Seq {α:Type} (h:f9) (p:ak) (s:Sl) (k:Nat) (f:α->aR) (l:List α):Prop where
 len:s.len=i0 l
 elem:∀i x,l[i]?=dB x->∃b o,s.ptr=dB ⟨b,o,eH⟩/\p b/\ba h ⟨b,o+i*k,eH⟩ 0 (f x)
variable {α:Type} {s:Sl} {k:Nat} {f:α->aR} {l:List α}
theorem Seq.ac(a:Seq h p s k f l)(d:aP p h h'):Seq h' p s k f l:=⟨a.len,λi x e=>by
 obtain⟨b,o,g,c,h3⟩:=a.elem i x e;exact⟨b,o,g,c,d.cells c h3⟩⟩
theorem Seq.mono(a:Seq h p s k f l)(c:∀b,p b->q b):Seq h q s k f l:=⟨a.len,λi x d=>by
 obtain⟨b,o,g,e,h3⟩:=a.elem i x d;exact⟨b,o,g,c b e,h3⟩⟩
theorem Seq.nil(h:f9)(p:ak)(c:Nat)(b:bK)(k:Nat)(f:α->aR):Seq h p ⟨b,0,c⟩ k f []:=⟨i4,λi x a=>by simp at a⟩
theorem Seq.bo{X:Type}{g:X->eX}(c:Seq h p s 1 f l){i:Int}(n:Nat)(e:i=n)(k:n<i0 l)(x:X)(d:f l[n]=[g x]){K:X->Prop}(j:K x):
  ∃a:f7,(s.ptr=dB a/\0<=i/\i<((s.len:Nat):Int))/\∃x:X,f8 h (a.add (i.toNat*1))=dB (g x)/\K x:=by
 subst e;obtain⟨b,o,m,_,h3⟩:=c.elem n l[n] (qc k);refine⟨_,⟨m,i5,by rw[c.len];omega⟩,x,?_,j⟩;rw[d]at h3;have:=h3.1;rw[add_eq,wJ]at this;rw[add_eq];simpa using this
theorem Seq.dY{X:Type}{g:X->aR}(c:Seq h p s k f l){i:Int}(n:Nat)(e:i=n)(m:n<i0 l)(x:X)(d:f l[n]=g x){K:X->Prop}(j:K x):
  ∃a:f7,(s.ptr=dB a/\0<=i/\i<((s.len:Nat):Int))/\∃x:X,ba h (a.add (i.toNat*k)) 0 (g x)/\K x:=by
 subst e;obtain⟨b,o,q,_,h3⟩:=c.elem n l[n] (qc m);refine⟨_,⟨q,i5,by rw[c.len];omega⟩,x,?_,j⟩;rw[add_eq];rw[d]at h3;simpa using h3
def az(n:Int):aR:=[xz xF n]
def aB(n:UInt8):aR:=[xz xG n.toNat]
def fm(b:Bool):aR:=[.bool b]
def bi(s:Sl):aR:=[.slice s.ptr s.len s.cap]
structure ib {α:Type} (h:f9) (p:ak) (s:Sl) (k:Nat) (f:α->aR) (ll:List (List α)) (rs:List Sl):Prop where
 top:Seq h p s 1 bi rs
 len:i0 rs=i0 ll
 row:∀(i:Nat) (r:Sl) (l:List α),rs[i]?=dB r->ll[i]?=dB l->Seq h p r k f l
variable {ll:List (List α)} {rs:List Sl}
theorem ib.ac(a:ib h p s k f ll rs)(b:aP p h h'):ib h' p s k f ll rs:=⟨a.top.ac b,a.len,λi r l d c=>(a.row i r l d c).ac b⟩
theorem ib.mono(a:ib h p s k f ll rs)(c:∀b,p b->q b):ib h q s k f ll rs:=⟨a.top.mono c,a.len,λi r l e d=>(a.row i r l e d).mono c⟩
theorem ib.LJ(a:ib h p s k f ll rs):s.len=i0 ll:=by rw[a.top.len,a.len]
theorem ib.get(c:ib h p s k f ll rs){i:Int}(n:Nat)(g:i=n)(d:n<i0 ll){K:Sl->Prop}(j:∀r,Seq h p r k f ll[n]->rs[n]?=dB r->K r):
  ∃a:f7,(s.ptr=dB a/\0<=i/\i<((s.len:Nat):Int))/\∃x:Sl,f8 h (a.add (i.toNat*1))=dB (.slice x.ptr x.len x.cap)/\K x:=by
 have b:n<i0 rs:=by rw[c.len];exact d
 have e:rs[n]?=dB rs[n]:=qc b;exact c.top.bo n g b rs[n] i4 (j _ (c.row n _ _ e (qc d)) e)
structure Own {α:Type} (h:f9) (e:TypeId) (s:Sl) (k:Nat) (f:α->aR) (l:List α):Prop where
 len:s.len=i0 l
 head:(s.ptr=eH/\s.cap=0/\l=[])∨∃b rest,s.ptr=dB ⟨b,0,eH⟩/\h[b]?=dB (.cells (l.flatMap f++rest).toArray e (0,0))/\rest.length=(s.cap-s.len)*k/\s.len<=s.cap
theorem ez{α:Type}{k:Nat}{f:α->aR}(a:∀x,i0 (f x)=k):∀(l:List α),i0 (l.flatMap f)=i0 l*k
 |[]=>jj
 |x::r=>by rw[zd,qp,a,ez a r,zc,zI];omega
theorem AF{α:Type}{k:Nat}{f:α->aR}(a:∀x,i0 (f x)=k):∀(l:List α) (i:Nat) (x:α),l[i]?=dB x->∃pre post,l.flatMap f=pre++f x++post/\pre.length=i*k
 |y::r,0,x,h=>by simp at h;subst h;exact⟨[],r.flatMap f,jj,jj⟩
 |y::r,i+1,x,h=>by
  obtain⟨pre,post,c,b⟩:=AF a r i x j6;exact⟨f y++pre,post,l5,by rw[qp,a,b,zI];omega⟩
theorem pP{h:f9}{b o:Nat}{e:TypeId}{fr:Nat×Nat}:∀{vs pre post:aR} {i:Nat},h[b]?=dB (.cells (pre++vs++post).toArray e fr)->i0 pre=o+i->ba h ⟨b,o,eH⟩ i vs
 |[],_,_,_,_,_=>trivial
 |v::r,pre,post,i,hb,hl=>by
  refine⟨?_,pP (pre:=pre++[v]) (post:=post) (by simpa using hb) i9⟩;rw[add_eq,AE hb,<-hl];simp
def jb(h:f9)(b:Nat)(o:Obj):f9:=h.setIfInBounds b o
theorem iQ{h:f9}{b c:Nat}{o x:Obj}(a:h[b]?=dB x):(jb h b o)[c]?=if b=c then dB o else h[c]?:=by
 unfold jb;rw[Array.getElem?_setIfInBounds];split
 ·rename_i e;subst e;rw[g0 (lt_of_block a)]
 ·rfl
theorem Us{h:f9}{b o:Nat}{c:Array eX}{e:TypeId}{f:Nat×Nat}{v:eX}(a:h[b]?=dB (.cells c e f)):Rf h ⟨b,o,eH⟩ v=jb h b (.cells (c.setIfInBounds o v) e f):=by
 apply yJ;intro i;rw[iQ a];simp only[Rf,ym];split
 ·rename_i d;subst d;rw[a];rfl
 ·rfl
theorem Ut(h:f9)(b:Nat)(o a:Obj):jb (jb h b o) b a=jb h b a:=by unfold jb;simp
theorem aP.jb{p:ak}{h:f9}{b:Nat}{o x:Obj}(f:h[b]?=dB x)(a:¬p b):aP p h (jb h b o):=⟨by simp[Qw.jb],λc _ d=>by
 rw[iQ f,g9 λe=>a (by rw[e];exact d)]⟩
theorem fV{P:Program}{b o:Nat}{e:TypeId}{K:Unit->f9->Prop}:∀{vs pre old post:aR} {i:Nat} {h:f9},h[b]?=dB (.cells (pre++old++post).toArray e (0,0))->i0 old=i0 vs->i0 pre=o+i->
  (∀v∈vs,v.oneCell'=eR)->K () (jb h b (.cells (pre++vs++post).toArray e (0,0)))->aj P (storeCells ⟨b,o,eH⟩ vs i) h K
 |[],pre,old,post,i,h,hb,hl,hp,hv,hk=>by
  have:old=[]:=qW (by simpa using hl);subst this;refine aj.pure' ?_;have g:jb h b (.cells (pre++[]++post).toArray e (0,0))=h:=by
   apply yJ;intro c;rw[iQ hb];split
   ·rename_i d;subst d;exact hb.symm
   ·rfl
  rw[g]at hk;exact hk
 |v::r,pre,old,post,i,h,hb,hl,hp,hv,hk=>by
  cases old with
  |nil=>simp at hl
  |cons u old=>
   simp only[storeCells];refine aj.bind ?_;rw[add_eq];have d:f8 h ⟨b,o+i,eH⟩=dB u:=by rw[AE hb,<-hp];simp
   refine aj.act (hv v jj) d (XR hb) ?_;rw[Us hb];have a:(pre++(u::old)++post).toArray.setIfInBounds (o+i) v=((pre++[v])++old++post).toArray:=by rw[<-hp];apply yC;simp
   rw[a];refine fV (e:=e) (pre:=pre++[v]) (old:=old) (post:=post) ?_ (by simpa using hl) i9 (λx f=>hv x p0) ?_
   ·rw[iQ hb,g0 rfl]
   ·rw[Ut];simpa using hk
theorem Iw{P:Program}{h:f9}{a:f7}{vs:aR}{n:Nat}{K:Array eX->f9->Prop}(b:i0 vs=n)(d:ba h a 0 vs)(c:K vs.toArray h):aj P (loadCells a n) h K:=λw e=>by
 subst e;refine⟨vs.toArray,w,?_,cX.refl w,c⟩;have:=run_loadCells (P:=P) (w:=w) (a:=a) vs 0 #[] d;rw[b]at this;unfold loadCells;rw[this];simp
variable {e:TypeId}
theorem Own.lt(c:Own h e s k f l){b:Nat}(a:s.on b):b<h.size:=by
 rcases c.head with⟨h1,_,_⟩|⟨b',rest,h1,h2,_,_⟩
 ·obtain⟨o,h0⟩:=a;rw[h1]at h0;cases h0
 ·obtain⟨o,h0⟩:=a;rw[h1]at h0;cases h0;exact lt_of_block h2
theorem Own.ac(c:Own h e s k f l)(d:aP p h h')(a:∀b,s.on b->p b):Own h' e s k f l:=⟨c.len,by
 rcases c.head with h1|⟨b,rest,h1,h2,h3,h4⟩
 ·exact .inl h1
 ·exact .inr ⟨b,rest,h1,d.block (a b ⟨0,h1⟩) h2,h3,h4⟩⟩
theorem Own.seq(d:Own h e s k f l)(g:∀x,i0 (f x)=k)(a:∀b,s.on b->p b):Seq h p s k f l:=⟨d.len,λi x c=>by
 rcases d.head with⟨_,_,h1⟩|⟨b,rest,h1,h2,h3,h4⟩
 ·subst h1;simp at c
 ·obtain⟨pre,post,j,m⟩:=AF g l i x c;refine⟨b,0,h1,a b ⟨0,h1⟩,pP (e:=e) (fr:=(0,0)) (pre:=pre) (post:=post++rest) ?_ i5⟩;rw[h2,j];simp⟩
theorem Own.nil(h:f9)(e:TypeId)(k:Nat)(f:α->aR):Own h e ⟨eH,0,0⟩ k f []:=⟨i4,.inl ⟨i4,i4,i4⟩⟩
theorem Own.cap(a:Own h e s k f l):s.len<=s.cap:=by
 rcases a.head with⟨h1,h2,h3⟩|⟨b,rest,h1,h2,h3,h4⟩
 ·have:=a.len;rw[h3]at this;simp at this;omega
 ·exact h4
theorem aj.always{α:Type}{P:Program}{s:Sem α}{v:α}{h:f9}{K:α->f9->Prop}(b:aF P s v)(a:K v h):aj P s h K:=λw c=>⟨v,w,b w,cX.refl w,by rw[c];exact a⟩
structure bO (C:xZ) (t e k:Nat) (z:aR) (by_:Nat):Prop where
 ex:∃i j,C.T.get t=dB i/\i.cj=.slice e/\C.T.get e=dB j/\j.size=k/\j.zero=z/\j.bytes=by_
variable {t:Nat} {z:aR} {by_:Nat}
section
variable {C:Ctx} {e:Nat}
theorem bO.under(a:bO C.toxZ t e k z by_)(c:C.Ok):C.P.underlying t=dB (.slice e):=by obtain⟨i,j,d,b,_⟩:=a.ex;have:=c.cj d;rw[b]at this;exact jo this
theorem bO.size(a:bO C.toxZ t e k z by_)(c:C.Ok):aF C.P (sizeOf e) k:=by obtain⟨i,j,_,_,d,b,_⟩:=a.ex;rw[<-b];exact dT c.toOk d
theorem bO.info(g:bO C.toxZ t e k z by_)(o:C.Ok):∃f,C.P.info? e=dB f/\f.size=k/\f.bytes=by_/\∃a,f.zero=dB a/\a.cells=z.toArray:=by obtain⟨i,j,_,_,p,h,h3,l⟩:=g.ex;obtain⟨f,b,c,m,a,n,d⟩:=o.info p;exact⟨f,b,c.trans h,m.trans l,a,n,by apply yC;rw[d,h3]⟩
end
def iE(z:aR):Nat->aR
 |0=>[]
 |n+1=>z++iE z n
theorem nA(z:aR):∀n,i0 (iE z n)=n*i0 z
 |0=>by simp[iE]
 |n+1=>by rw[iE,qp,nA z n,zI];omega
theorem LK(z:aR):∀(n i:Nat),i<n*i0 z->(iE z n)[i]?=z[i%i0 z]?
 |0,i,h=>m0
 |n+1,i,h=>by
  have b:0<i0 z:=Nat.pos_of_ne_zero λe=>by rw[e]at h;simp at h
  rw[iE];by_cases a:i<i0 z
  ·rw[qm a,Nat.mod_eq_of_lt a]
  ·rw[qi i5,LK z n (i-i0 z) (by rw[zI]at h;omega)];congr 1
   conv=>rhs;rw[show i=(i-i0 z)+i0 z by omega,Nat.add_mod_right]
theorem LL(z:aR)(n m:Nat)(c:m=n*i0 z):((xl m).map λi=>z.toArray[i%z.toArray.size]!)=(iE z n).toArray:=by
 apply yJ;intro i;subst c;simp only[vE,Array.getElem?_range,wb];by_cases a:i<n*i0 z
 ·rw[LK z n i a];have b:0<i0 z:=Nat.pos_of_ne_zero λe=>by rw[e]at a;simp at a
  have:=yK i b;simp[a,this]
 ·rw[qM (by rw[nA];omega)];simp[a]
theorem Ck(z:aR)(n:Nat):yy z.toArray n=(iE z n).toArray:=LL z n _ jj
theorem Qi(a:Nat):∀(r c:Nat),Builtin.growBy a r c<=(c+768)*2^r
 |0,c=>by simp[Builtin.growBy]
 |r+1,c=>by
  unfold Builtin.growBy;split
  ·exact qY (Nat.le_add_right c 768) (Nat.le_mul_of_pos_right _ (Nat.two_pow_pos _))
  ·refine qY (Qi a r _) ?_;rw[Nat.pow_succ,Nat.mul_comm (2^r) 2,<-Nat.mul_assoc];exact zq _ i5
theorem aeL(o n:Nat)(h:o<n):(o+768)*2^4<=16*n+16*768:=i5
theorem Qj(a b:Nat)(h:b<a:=by omega):vm a b<=16*a+16*768:=by
 unfold vm;split
 ·omega
 ·split
  ·omega
  ·exact qY (Qi a 4 b) (aeL _ _ h)
variable {t2:Nat} {v:Sl} {l2:List α}
section
variable {C:Ctx} {e:Nat}
theorem iq{P:Program}{K:Array eX->f9->Prop}(t:∀x,i0 (f x)=k)(g:Seq h p v k f l)(w:K (l.flatMap f).toArray h):
  aj P (wN k v.len (.slice v.ptr v.len v.cap)) h K:=by
 cases hp:v.ptr with
 |none=>
  have:l=[]:=by
   cases l with
   |nil=>rfl
   |cons x r=>obtain⟨b,o,c,_⟩:=g.elem 0 x jj;rw[hp]at c;cases c
  subst this;exact aj.pure' w
 |some a=>
  refine Iw (by rw[ez t,<-g.len]) ?_ w;cases l with
  |nil=>trivial
  |cons q r0=>
   obtain⟨b,o,c,_,_⟩:=g.elem 0 q jj;rw[hp]at c;cases c;have j:∀(r:List α) (n:Nat),(∀i x,r[i]?=dB x->ba h ⟨b,o+(n+i)*k,eH⟩ 0 (f x))->ba h ⟨b,o,eH⟩ (n*k) (r.flatMap f):=by
    intro r
    induction r with
    |nil=>intro n _;trivial
    |cons x r ih=>
     intro n s;have h0:=s 0 x jj;have e:=ih (n+1) (λi y A=>by have:=s (i+1) y (by simpa using A);rw[show n+1+i=n+(i+1)by omega];exact this);rw[zd];have app:∀(us vs:aR) (i:Nat),ba h ⟨b,o,eH⟩ i us->ba h ⟨b,o,eH⟩ (i+i0 us) vs->ba h ⟨b,o,eH⟩ i (us++vs):=by
      intro us
      induction us with
      |nil=>intro vs i _ e;simpa using e
      |cons u us ih=>intro vs i c e;exact⟨c.1,ih vs (i+1) c.2 (by rw[show i+1+i0 us=i+(i0 us+1)by omega];exact e)⟩
     refine app _ _ _ ?_ (by rw[t,<-zI];exact e);have d:∀(us:aR) (i m:Nat),ba h ⟨b,o+m,eH⟩ i us->ba h ⟨b,o,eH⟩ (m+i) us:=by
      intro us
      induction us with
      |nil=>intros;trivial
      |cons u us ih=>
       intro i m c;refine⟨?_,ih (i+1) m c.2⟩;have:=c.1;rw[add_eq]at this⊢;rw[<-wY];exact this
     have:=d (f x) 0 ((n+0)*k) h0;simpa using this
   have:=j (q::r0) 0 (λi x z=>by
    obtain⟨B,D,c,_,h3⟩:=g.elem i x z;rw[hp]at c;cases c;simpa using h3)
   simpa using this
theorem RM(A:C.Ok)(D:bO C.toxZ t e k z by_)(h2:∃i e2,C.T.get t2=dB i/\i.cj=.slice e2)(Y:i0 z=k)(M:0<by_/\by_<=128)(m:∀x,i0 (f x)=k)
  (y:Own h e s k f l) (B:Seq h p v k f l2) (r:∀x,∀c∈f x,c.oneCell'=eR) (W:i0 l+i0 l2<=2^32) {ty:Nat} {K:Sl->f9->Prop}
  (N:∀O h',Own h' e O k f (l++l2)->aP (λb=>¬s.on b) h h'->(∀b,O.on b->s.on b∨h.size<=b)->K O h'):
  bG C.P (zD #[t,t2] ty #[.slice s.ptr s.len s.cap,.slice v.ptr v.len v.cap]) (.one (.sc .slc)) h K:=by
 obtain⟨i2,e2,g1,g2⟩:=h2;have Q:C.P.underlying t2=dB (.slice e2):=by have:=A.cj g1;rw[g2]at this;exact jo this
 obtain⟨I,w,x2,x3,zv,Z,x5⟩:=D.info A;unfold bG zD;simp only[wb,y8,qq];refine aj.bind (aj.always (aH (D.under A)) ?_);refine aj.bind (aj.always (D.size A) ?_);refine aj.bind (aj.always (aH Q) ?_);refine aj.bind (aj.pure' ?_);simp only[zb,if_false,yx,if_true];refine aj.bind (aj.pure' ?_);have n:=y.len;have J:=B.len;by_cases g:s.len+v.len<=s.cap
 ·rw[g0 g];refine aj.bind (iq m B ?_);rcases y.head with⟨p1,p2,p3⟩|⟨b,rest,p1,p2,p3,p4⟩
  ·rw[p1];have E:l2=[]:=qW i5;subst E;refine aj.pure' ⟨⟨eH,s.len+v.len,s.cap⟩,i4,N _ _ ⟨?_,.inl ⟨i4,p2,by simp[p3]⟩⟩ (aP.refl _ _) ?_⟩
   ·simp;omega
   ·rintro R ⟨o,d⟩;cases d
  ·rw[p1];refine aj.bind ?_;rw[add_eq,we];have j:=ez m l;have a:=ez m l2;have H:i0 (l2.flatMap f)<=i0 rest:=by rw[a,p3];exact zq k i5
   refine fV (e:=e) (pre:=l.flatMap f) (old:=rest.take (l2.flatMap f).length) (post:=rest.drop (l2.flatMap f).length) ?_ ?_ ?_ ?_ ?_
   ·rw[qn,qB];exact p2
   ·rw[qP];exact yj H
   ·rw[j,n];omega
   ·intro c U;obtain⟨x,_,L⟩:=zO.1 U;exact r x c L
   ·refine aj.pure' ⟨⟨dB ⟨b,0,eH⟩,s.len+v.len,s.cap⟩,i4,N _ _ ⟨?_,.inr ⟨b,rest.drop (l2.flatMap f).length,i4,?_,?_,g⟩⟩ ?_ ?_⟩
    ·simp;omega
    ·rw[iQ p2,g0 rfl];simp
    ·rw[q7,p3,a,<-Nat.sub_mul];show(s.cap-s.len-i0 l2)*k=(s.cap-(s.len+v.len))*k;congr 1;omega
    ·exact aP.jb p2 (λhn=>hn ⟨0,p1⟩)
    ·rintro R ⟨o,d⟩;cases d;exact .inl ⟨0,p1⟩
 ·rw[g9 g];have q:Seq h (λ_=>True) s k f l:=y.seq m λ_ _=>trivial;have S:=y.cap;refine aj.bind (aj.always (cZ w) ?_);rw[g9 λhh=>by rcases hh.2 with h|h<;>first|exact h|(rw[x3]at h;omega)];refine aj.bind (aj.always (cZ w) ?_);have ab:=Qj (s.len+v.len) s.cap;rw[g9 (by
   have:vm (s.len+v.len) s.cap*I.bytes<=(16*2^32+16*768)*128:=wi i5 (by rw[x3];exact M.2);omega)]
  refine aj.bind (aj.xW ⟨λX=>(by cases X),λ_ V=>?_⟩);refine aj.bind (aj.always (cZ w) ?_);refine aj.bind (aj.Ff ?_);refine aj.bind (iq m q ?_);refine aj.bind (iq m B ?_);have G:aF C.P (zeroValue e) zv:=(cZ w).bind (by rw[Z];exact .pure);refine aj.bind (aj.always G ?_);rw[x5,Ck];unfold newRow;refine aj.bind (aj.bind (aj.mI (aj.pure' (aj.pure' ?_))));generalize F:Question.cut (Question.appendCap (s.len+v.len) s.cap e) V=cc;have u:s.len+v.len<=cc:=by rw[<-F];simp only[Question.cut];omega
  refine⟨⟨dB ⟨h.size,0,eH⟩,s.len+v.len,cc⟩,i4,N _ _ ⟨?_,.inr ⟨h.size,iE z (cc-(s.len+v.len)),i4,?_,?_,u⟩⟩ (aP.push _ _ _) ?_⟩
  ·simp;omega
  ·simp
  ·rw[nA,Y]
  ·rintro R ⟨o,d⟩;cases d;exact .inr (qk _)
end
structure bT (h:f9) (a:f7) (e:TypeId) (cs:aR):Prop where
 off:a.off=0
 spot:a.spot=eH
 eV:h[a.block]?=dB (.cells cs.toArray e (0,0))
variable {a:f7} {cs:aR}
theorem bT.addr(c:bT h a e cs):a=⟨a.block,0,eH⟩:=by
 obtain⟨b,o,s⟩:=a;have:=c.off;have:=c.spot
 simp_all
theorem bT.ac(b:bT h a e cs)(c:aP p h h')(d:p a.block):bT h' a e cs:=⟨b.off,b.spot,c.block d b.eV⟩
theorem bT.lt(b:bT h a e cs):a.block<h.size:=lt_of_block b.eV
theorem bT.cell(b:bT h a e cs){j:Nat}{v:eX}(c:cs[j]?=dB v):f8 h (a.add j)=dB v:=by rw[b.addr,add_eq,AE b.eV];simpa using c
theorem bT.cell0(b:bT h a e cs){v:eX}(c:cs[0]?=dB v):f8 h a=dB v:=b.cell (j:=0) c
theorem bT.cells(d:bT h a e cs)(j:Nat)(vs:aR)(c:(cs.drop j).take vs.length=vs):ba h (a.add j) 0 vs:=by
 rw[d.addr,add_eq,we];have b:i0 vs<=i0 (cs.drop j):=by have:=congrArg List.length c;rw[qP]at this;omega
 rcases Nat.lt_or_ge cs.length j with hj|hj
 ·rw[q7]at b;have:vs=[]:=qW i5;subst this;trivial
 ·refine pP (e:=e) (fr:=(0,0)) (pre:=cs.take j) (post:=(cs.drop j).drop vs.length) ?_ i9;have:cs.take j++vs++(cs.drop j).drop vs.length=cs:=by
   conv=>lhs;rw[qn];arg 2;arg 1;rw[<-c]
   rw[qB,qB]
  rw[this];exact d.eV
theorem bT.aE(b:bT h a e cs)(vs:aR)(c:cs.take vs.length=vs):ba h a 0 vs:=b.cells 0 vs c
variable {i:TI}
section
variable {C:Ctx}
theorem ur(e:C.Ok)(c:C.T.get t=dB i){K:f7->f9->Prop}(d:∀a h',a.block=h.size->bT h' a t i.zero->aP (λ_=>True) h h'->h'.size=h.size+1->K a h'):
  oh C.P (w7 t eR (.tuple #[])) h K:=by
 obtain⟨z,f,b⟩:=pM e.toOk c;unfold oh w7;refine aj.bind (aj.always f ?_);refine aj.bind (aj.bind (aj.bind (aj.mI (aj.pure' (aj.pure' (aj.pure' ?_))))));refine⟨⟨h.size,0,eH⟩,i4,d _ _ i4 ⟨i4,i4,?_⟩ (aP.push _ _ _) jj⟩;rw[<-b];simp
theorem Qk{v:eX}{P:Program}{K:f7->f9->Prop}(b:∀a h',a.block=h.size->bT h' a t v.cells.toList->aP (λ_=>True) h h'->h'.size=h.size+1->K a h'):
  oh P (vq t v) h K:=by
 unfold oh vq;refine aj.bind (aj.bind (aj.bind (aj.mI (aj.pure' (aj.pure' (aj.pure' ?_))))));refine⟨⟨h.size,0,eH⟩,i4,b _ _ i4 ⟨i4,i4,?_⟩ (aP.push _ _ _) jj⟩;simp
theorem run_store(k:C.Ok){a:f7}{e:TypeId}{b:aR}(c:bT h a e b)(m:C.T.get t=dB i)(off:Nat){v:eX}(vs:aR)(j:v.cells=vs.toArray)(f:i.size=i0 vs)
  (d:vs.all (·.oneCell')=eR) (g:off+i0 vs<=i0 b) {K:Unit->f9->Prop}
  (n:∀h',bT h' a e (b.take off++vs++b.drop (off+i0 vs))->aP (·≠a.block) h h'->h'.size=h.size->K () h'):
  aj C.P (qE t (.pointer (dB (a.add off))) v) h K:=by
 have o:=c.addr;unfold qE;refine aj.bind (aj.pure' ?_);unfold storeVar;refine aj.bind (aj.always (dT k.toOk m) ?_);rw[j,f];simp only[yc,ne_eq,not_true,if_false];rw[o,add_eq,we];refine fV (e:=e) (pre:=b.take off) (old:=(b.drop off).take vs.length) (post:=b.drop (off+i0 vs)) ?_ ?_ ?_ ?_ ?_
 ·have:b.take off++(b.drop off).take vs.length++b.drop (off+i0 vs)=b:=by rw[<-zE,qn,qB,qB]
  rw[this];exact c.eV
 ·simp;omega
 ·simp;omega
 ·intro x l;have:=qK.1 d x l;exact this
 ·refine n _ ⟨c.off,c.spot,?_⟩ (aP.jb c.eV jj) (by simp[jb]);rw[iQ c.eV,g0 rfl]
theorem AG(l:C.Ok){a:f7}{e:TypeId}{c:aR}(m:bT h a e c)(j:C.T.get t=dB i){v:eX}(vs:aR)(g:v.cells=vs.toArray)(d:i.size=i0 vs)
  (b:vs.all (·.oneCell')=eR) (f:i0 vs<=i0 c) {K:Unit->f9->Prop}
  (k:∀h',bT h' a e (vs++c.drop vs.length)->aP (·≠a.block) h h'->h'.size=h.size->K () h'):
  aj C.P (qE t (.pointer (dB a)) v) h K:=
 run_store l m j 0 vs g d b i5 (λh' x y z=>k h' (by simpa using x) y z)
end
section
variable {C:Ctx} {e:Nat}
theorem Cl{b:α}(a:f b=z):∀n,iE z n=(qh n b).flatMap f
 |0=>rfl
 |n+1=>by rw[iE,List.replicate_succ,zd,a,Cl a n]
theorem af(x:Int)(c:-9223372036854775808<=x:=by omega)(b:x<=9223372036854775807:=by omega):qe xF x=x:=by
 show(if(eR&&decide (x%2^64>=2^63))=eR then x%2^64-2^64 else x%2^64)=x;by_cases a:x%2^64>=2^63
 ·rw[g0 (by rw[zS];exact hU a)];omega
 ·rw[g9 (by rw[zS];exactλh=>a (ii h))];omega
theorem run_make(p:C.Ok)(l:bO C.toxZ t e k z by_)(y:0<by_/\by_<=128)(r:α)(B:f r=z)(d:i0 z=k){L G:IntKind}{n c:Int}(m b:Nat)(H:n=m)(E:c=b)(o:m<=b)(s:b<=2^32)
  {K:Sl->f9->Prop} (J:∀j h',Own h' e j k f (qh m r)->j.ptr=dB ⟨h.size,0,eH⟩->j.cap=b->aP (λ_=>True) h h'->h'.size=h.size+1->K j h'):
  bG C.P (zt t (.int L n) (.int G c)) (.one (.sc .slc)) h K:=by
 subst H;subst E;obtain⟨u,A,x2,x3,M,F,N⟩:=l.info p;unfold bG zt;refine aj.bind (aj.always (aH (l.under p)) ?_);refine aj.bind (aj.pure' ?_);refine aj.bind (aj.pure' ?_);refine aj.bind (aj.always (cZ A) ?_);have D:qe xF (m:Int)=m:=af _;have I:qe xF (b:Int)=b:=af _;have O:¬((u.bytes:Int)*(b:Int)>2^48):=by
  rw[x3];have:by_*b<=128*2^32:=wi y.2 s;have:((by_:Int)*(b:Int))<=((128*2^32:Nat):Int):=by exact_mod_cast this
  omega
 simp only[D,I];rw[g9 i9];refine aj.bind (aj.Ff ?_);refine aj.bind (aj.always (l.size p) ?_);have q:aF C.P (zeroValue e) M:=(cZ A).bind (by rw[F];exact .pure);have fin:∀g:Array eX,(b*k≠0->g=z.toArray)->aj C.P (do
   let a<-newRow e ((xl (b*k)).map (g[·%g.size]!))
   pure (Value.slice (dB a) m b)) h (λv h'=>∃x:(Rt.one (.sc .slc)).den,v=(Rt.one (.sc .slc)).enc x/\K x h'):=by
  intro g w;have i:((xl (b*k)).map (g[·%g.size]!))=(iE z b).toArray:=by
   by_cases h0:b*k=0
   ·rw[h0];have:iE z b=[]:=qW (by rw[nA,d,h0]);rw[this];simp
   ·rw[w h0];exact LL z b _ (by rw[d])
  rw[i];refine aj.bind (aj.bind (aj.mI (aj.pure' (aj.pure' ?_))));refine⟨⟨dB ⟨h.size,0,eH⟩,m,b⟩,i4,J _ _ ⟨jj,.inr ⟨h.size,iE z (b-m),i4,?_,?_,o⟩⟩ i4 i4 (aP.push _ _ _) jj⟩
  ·have:iE z b=(qh m r).flatMap f++iE z (b-m):=by rw[Cl B,Cl B,<-zf,List.replicate_append_replicate];congr 2;omega
   rw[this];simp
  ·rw[nA,d]
 simp only[qj];by_cases h0:b*k=0
 ·rw[g0 h0];exact aj.bind (aj.pure' (fin _ λh=>absurd h0 h))
 ·rw[g9 h0];refine aj.bind (aj.always q ?_);exact aj.bind (aj.pure' (fin _ λ_=>N))
theorem Ix(m:C.Ok)(j:bO C.toxZ t e k z by_)(d:i0 z=k){n:Nat}{parts:Array (Nat×eX)}(l:List α)(y:i0 l=n)(s:n*k<=2^20)
  (b:wE (λi=>dB (i*k,k)) (iE z n).toArray parts.toList=dB (l.flatMap f).toArray) {K:Sl->f9->Prop}
  (A:∀q h',Own h' e q k f l->q.ptr=dB ⟨h.size,0,eH⟩->aP (λ_=>True) h h'->h'.size=h.size+1->K q h'):
  bG C.P (zG t n parts) (.one (.sc .slc)) h K:=by
 obtain⟨w,r,x2,x3,B,u,D⟩:=j.info m;unfold bG zG;refine aj.bind (aj.always (aH (j.under m)) ?_);refine aj.bind (aj.always (j.size m) ?_);rw[g9 i5];have o:aF C.P (zeroValue e) B:=(cZ r).bind (by rw[u];exact .pure);have fin:∀c:Array eX,(n*k≠0->c=z.toArray)->aj C.P (do
   let dB cells:=wE (λi=>dB (i*k,k)) ((xl (n*k)).map (c[·%c.size]!)) parts.toList
    |stuck "buildSlice: a part of the wrong size"
   pure (Value.slice (dB (<-newRow e cells)) n n)) h (λv h'=>∃x:(Rt.one (.sc .slc)).den,v=(Rt.one (.sc .slc)).enc x/\K x h'):=by
  intro c p;have g:((xl (n*k)).map (c[·%c.size]!))=(iE z n).toArray:=by
   by_cases h0:n*k=0
   ·rw[h0];have:iE z n=[]:=qW (by rw[nA,d,h0]);rw[this];simp
   ·rw[p h0];exact LL z n _ (by rw[d])
  rw[g,b];refine aj.bind (aj.bind (aj.mI (aj.pure' (aj.pure' ?_))));refine⟨⟨dB ⟨h.size,0,eH⟩,n,n⟩,i4,A _ _ ⟨y.symm,.inr ⟨h.size,[],i4,jj,jj,qk _⟩⟩ i4 (aP.push _ _ _) jj⟩
 by_cases h0:n*k=0
 ·rw[g0 h0];exact aj.bind (aj.pure' (fin _ λh=>absurd h0 h))
 ·rw[g9 h0];refine aj.bind (aj.always o ?_);exact aj.bind (aj.pure' (fin _ λ_=>D))
theorem Own.set{i:TI}(A:C.Ok)(q:Own h e s k f l)(p:∀x,i0 (f x)=k)(E:C.T.get t=dB i){x:Int}(n:Nat)(D:x=n)(u:n<i0 l){o:eX}(y:α)(z:o.cells=(f y).toArray)(r:i.size=k)
  (m:(f y).all (·.oneCell')=eR) {K:f9->Prop} (F:∀h',Own h' e s k f (l.set n y)->aP (λb=>¬s.on b) h h'->h'.size=h.size->K h'):
  ∃a:f7,(s.ptr=dB a/\0<=x/\x<((s.len:Nat):Int))/\aj C.P (qE t (.pointer (dB (a.add (x.toNat*k)))) o) h λ_ h'=>K h':=by
 subst D;rcases q.head with⟨_,_,h3⟩|⟨b,rest,h1,h2,h3,h4⟩
 ·subst h3;simp at u
 ·refine⟨_,⟨h1,i5,by rw[q.len];omega⟩,?_⟩;unfold qE;refine aj.bind (aj.pure' ?_);unfold storeVar;refine aj.bind (aj.always (dT A.toOk E) ?_);rw[z,r];have v:=p y;simp only[yc,v,ne_eq,not_true,if_false];rw[add_eq,we,qj];have d:l=l.take n++l[n]::l.drop (n+1):=by rw[<-qI u,qB]
  have j:l.set n y=l.take n++y::l.drop (n+1):=ya.trans (g0 u);have g:i0 ((l.take n).flatMap f)=n*k:=by rw[ez p,qP,yj i5]
  refine fV (e:=e) (pre:=(l.take n).flatMap f) (old:=f l[n]) (post:=(l.drop (n+1)).flatMap f++rest) ?_ ?_ ?_ ?_ ?_
  ·have:l.flatMap f++rest=(l.take n).flatMap f++f l[n]++((l.drop (n+1)).flatMap f++rest):=by have w:=congrArg (List.flatMap f) d;rw[zf,zd]at w;rw[w];simp
   rw[<-this];exact h2
  ·rw[p,p]
  ·rw[g];omega
  ·intro c B;have:=qK.1 m c B;exact this
  ·refine F _ ⟨by rw[q9];exact q.len,.inr ⟨b,rest,h1,?_,h3,h4⟩⟩ (aP.jb h2 λG=>G ⟨0,h1⟩) (by simp[jb]);rw[iQ h2,g0 i4,j];simp
end
def grow(c:Nat->Nat)(n i:Nat):Nat->Nat:=λb=>if b<n then c b else i
theorem gx{c:Nat->Nat}{n i b:Nat}(h:b<n):grow c n i b=c b:=g0 h
theorem pk{c:Nat->Nat}{n i b:Nat}(h:n<=b:=by omega):grow c n i b=i:=g9 i5
structure dI {α:Type} (h:f9) (c:Nat->Nat) (i:Nat) (e:TypeId) (s:Sl) (k:Nat) (f:α->aR) (l:List α):Prop where
 own:Own h e s k f l
 bj:∀b,s.on b->c b=i
structure ky (h:f9) (c:Nat->Nat) (i:Nat) (a:f7) (e:TypeId) (cs:aR):Prop where
 box:bT h a e cs
 bj:c a.block=i
structure mh (h0 h:f9) (c:Nat->Nat):Prop where
 ac:aP (λb=>b<h0.size) h0 h
 bj:∀b,b<h0.size->c b=0
variable {h0:f9} {c:Nat->Nat} {j n m:Nat}
section
variable {i:Nat}
theorem dI.keep(a:dI h c j e s k f l)(n:aP (λb=>c b≠i) h h')(g:j≠i):dI h' (grow c h.size m) j e s k f l:=
 ⟨a.own.ac n λb d=>by rw[a.bj b d];exact g,λb d=>by rw[gx (a.own.lt d)];exact a.bj b d⟩
theorem ky.keep(d:ky h c j a e cs)(g:aP (λb=>c b≠i) h h')(f:j≠i):ky h' (grow c h.size m) j a e cs:=
 ⟨d.box.ac g (by rw[d.bj];exact f),by rw[gx d.box.lt];exact d.bj⟩
theorem mh.keep(a:mh h0 h c)(e:aP (λb=>c b≠i) h h')(f:i≠0):mh h0 h' (grow c h.size m):=
 ⟨a.ac.then e λb d _=>by rw[a.bj b d];exact f.symm,λb d=>by rw[gx (qR d a.ac.1)];exact a.bj b d⟩
theorem mh.refl(h:f9):mh h h (λ_=>0):=⟨aP.refl _ _,λ_ _=>rfl⟩
theorem dI.seq(a:dI h c j e s k f l)(d:∀x,i0 (f x)=k):Seq h (λb=>c b=j) s k f l:=a.own.seq d a.bj
theorem dI.RN(a:dI h c j e s k f l)(d:∀x,i0 (f x)=k):Seq h (λb=>b<h.size) s k f l:=a.own.seq d λ_ g=>a.own.lt g
theorem dI.nil(h:f9)(c:Nat->Nat)(i:Nat)(e:TypeId)(k:Nat)(f:α->aR):dI h c i e ⟨eH,0,0⟩ k f []:=⟨Own.nil h e k f,λb d=>by obtain⟨o,a⟩:=d;cases a⟩
theorem aP.bj(a:aP (λ_=>True) h h')(c:Nat->Nat)(i:Nat):aP (λb=>c b≠i) h h':=a.mono λ_ _ _=>trivial
end
variable {ti:TI}
section
variable {C:Ctx} {i e:Nat}
theorem sg(f:C.Ok)(_:mh h0 h c)(i:Nat)(d:C.T.get t=dB ti){K:f7->f9->Prop}(e:∀a h',ky h' (grow c h.size i) i a t ti.zero->aP (λb=>c b≠i) h h'->K a h'):
  oh C.P (w7 t eR (.tuple #[])) h K:=
 ur f d λa h' x y z _=>e a h' ⟨y,by rw[pk]⟩ (z.bj c i)
theorem LM(P:Program)(_:mh h0 h c)(i:Nat){v:eX}{K:f7->f9->Prop}(d:∀a h',ky h' (grow c h.size i) i a t v.cells.toList->aP (λb=>c b≠i) h h'->K a h'):
  oh P (vq t v) h K:=
 Qk λa h' x y z _=>d a h' ⟨y,by rw[pk]⟩ (z.bj c i)
theorem ky.store(m:C.Ok)(g:ky h c i a e cs)(n:C.T.get t=dB ti)(off:Nat){v:eX}(vs:aR)(l:v.cells=vs.toArray)(j:ti.size=i0 vs)
  (f:vs.all (·.oneCell')=eR) (d:off+i0 vs<=i0 cs) {K:Unit->f9->Prop}
  (o:∀h',ky h' (grow c h.size i) i a e (cs.take off++vs++cs.drop (off+i0 vs))->aP (λb=>c b≠i) h h'->K () h'):
  aj C.P (qE t (.pointer (dB (a.add off))) v) h K:=
 run_store m g.box n off vs l j f d λh' x y z=>o h' ⟨x,by rw[gx g.box.lt];exact g.bj⟩ (y.mono λb _ k p=>k (by rw[p];exact g.bj))
theorem ky.gA(m:C.Ok)(n:ky h c i a e cs)(k:C.T.get t=dB ti){v:eX}(vs:aR)(j:v.cells=vs.toArray)(f:ti.size=i0 vs)
  (d:vs.all (·.oneCell')=eR) (g:i0 vs<=i0 cs) {K:Unit->f9->Prop}
  (l:∀h',ky h' (grow c h.size i) i a e (vs++cs.drop vs.length)->aP (λb=>c b≠i) h h'->K () h'):
  aj C.P (qE t (.pointer (dB a)) v) h K:=
 n.store m k 0 vs j f d i5 (λh' x y=>l h' (by simpa using x) y)
theorem ut(s:C.Ok)(_:mh h0 h c)(i:Nat)(f:α->aR)(r:bO C.toxZ t e k z by_)(l:0<by_/\by_<=128)(d:α)(w:f d=z)(j:i0 z=k){E A:IntKind}{n q:Int}(m:Nat)(B:n=m)(u:q=m)(g:m<=2^32)
  {K:Sl->f9->Prop} (D:∀a h',dI h' (grow c h.size i) i e a k f (qh m d)->aP (λb=>c b≠i) h h'->K a h'):
  bG C.P (zt t (.int E n) (.int A q)) (.one (.sc .slc)) h K:=
 run_make s r l d w j m m B u (qk _) g λa h' x y _ z _=>D a h' ⟨x,λb v=>by obtain⟨o,p⟩:=v;rw[y]at p;cases p;rw[pk (qk _)]⟩ (z.bj c i)
theorem Fo(q:C.Ok)(_:mh h0 h c)(i:Nat)(f:α->aR)(p:bO C.toxZ t e k z by_)(j:i0 z=k){n:Nat}{parts:Array (Nat×eX)}(l:List α)(s:i0 l=n)(g:n*k<=2^20)
  (a:wE (λi=>dB (i*k,k)) (iE z n).toArray parts.toList=dB (l.flatMap f).toArray) {K:Sl->f9->Prop}
  (u:∀d h',dI h' (grow c h.size i) i e d k f l->aP (λb=>c b≠i) h h'->K d h'):
  bG C.P (zG t n parts) (.one (.sc .slc)) h K:=
 Ix q p j l s g a λd h' x y z _=>u d h' ⟨x,λb r=>by obtain⟨o,m⟩:=r;rw[y]at m;cases m;rw[pk (qk _)]⟩ (z.bj c i)
theorem dI.append(u:C.Ok)(d:dI h c i e s k f l)(r:bO C.toxZ t e k z by_)(o:∃i e2,C.T.get t2=dB i/\i.cj=.slice e2)(B:i0 z=k)(n:0<by_/\by_<=128)(D:∀x,i0 (f x)=k)
  (q:Seq h p v k f l2) (a:∀x,∀c∈f x,c.oneCell'=eR) (j:i0 l+i0 l2<=2^32) {ty:Nat} {K:Sl->f9->Prop}
  (E:∀g h',dI h' (grow c h.size i) i e g k f (l++l2)->aP (λb=>c b≠i) h h'->K g h'):
  bG C.P (zD #[t,t2] ty #[.slice s.ptr s.len s.cap,.slice v.ptr v.len v.cap]) (.one (.sc .slc)) h K:=
 RM u r o B n D d.own q a j λg h' x y w=>E g h' ⟨x,λb A=>by
  rcases w b A with w|w
  ·rw[gx (d.own.lt w)];exact d.bj b w
  ·exact pk w⟩ (y.mono λb _ m o=>m (d.bj b o))
theorem dI.set(r:C.Ok)(j:dI h c i e s k f l)(A:∀x,i0 (f x)=k)(B:C.T.get t=dB ti){x:Int}(n:Nat)(u:x=n)(v:n<i0 l){g:eX}(y:α)(q:g.cells=(f y).toArray)(m:ti.size=k)
  (d:(f y).all (·.oneCell')=eR) {K:f9->Prop} (D:∀h',dI h' (grow c h.size i) i e s k f (l.set n y)->aP (λb=>c b≠i) h h'->K h'):
  ∃a:f7,(s.ptr=dB a/\0<=x/\x<((s.len:Nat):Int))/\aj C.P (qE t (.pointer (dB (a.add (x.toNat*k)))) g) h λ_ h'=>K h':=
 j.own.set r A B n u v y q m d λh' z w _=>D h' ⟨z,λb p=>by rw[gx (j.own.lt p)];exact j.bj b p⟩ (w.mono λb _ o E=>o (j.bj b E))
end
section
variable {C:Ctx} {i e:Nat}
theorem grow_grow{c:Nat->Nat}{n m i:Nat}(h:n<=m):grow (grow c n i) m i=grow c n i:=by
 funext b;unfold grow;split
 ·rfl
 ·rw[g9 i5]
theorem aP.step(a:aP (λb=>c b≠i) h h'){d:f9}(b:aP (λb=>grow c h.size i b≠i) h' d):aP (λb=>c b≠i) h d:=
 a.then b λx e f=>by rw[gx e];exact f
theorem dI.push(E:C.Ok)(q:dI h c i e s k f l)(o:bO C.toxZ t e k z by_)(G:i0 z=k)(y:0<by_/\by_<=128)(H:∀x,i0 (f x)=k)
  (m:∀x,∀c∈f x,c.oneCell'=eR) (x:α) {parts:Array (Nat×eX)} (a:wE (λi=>dB (i*k,k)) (iE z 1).toArray parts.toList=dB ([x].flatMap f).toArray)
  (B:1*k<=2^20) (r:i0 l+1<=2^32) {ty:Nat} {K:Sl->f9->Prop}
  (M:∀n h',dI h' (grow c h.size i) i e n k f (l++[x])->aP (λb=>c b≠i) h h'->K n h'):
  bG C.P (zG t 1 parts) (.one (.sc .slc)) h λv g=>bG C.P (zD #[t,t] ty #[.slice s.ptr s.len s.cap,.slice v.ptr v.len v.cap]) (.one (.sc .slc)) g K:=by
 refine Ix E o G [x] i4 B a λv g I N u _=>?_;have D:aP (λb=>c b≠i) h g:=u.bj c i;have w:dI g (grow c h.size i) i e s k f l:=⟨q.own.ac u λ_ _=>trivial,λb F=>by rw[gx (q.own.lt F)];exact q.bj b F⟩
 have j:h.size<=g.size:=u.1;obtain⟨L,Q,J,x2,_⟩:=o.ex;refine w.append E o ⟨L,e,J,x2⟩ G y H (I.seq (p:=λ_=>True) H λ_ _=>trivial) m r λn O d A=>?_;rw[grow_grow j]at d;exact M n O d (D.step A)
structure afQ (h:f9) (c:Nat->Nat) (top lo:Nat) (e:TypeId) (s:Sl) (k:Nat) (f:α->aR) (ll:List (List α)) (rs:List Sl):Prop where
 own:dI h c top e s 1 bi rs
 len:i0 rs=i0 ll
 row:∀(i:Nat) r l,rs[i]?=dB r->ll[i]?=dB l->Seq h (λb=>b<h.size/\lo<=c b/\c b<lo+i0 ll) r k f l
theorem jG:∀x,∀c∈bi x,c.oneCell'=eR:=by intro x c a;simp only[bi,qx]at a;subst a;rfl
end
structure afR {α:Type} (h:f9) (r:Nat) (g:α->eX) (kvs:List (Int×α)):Prop where
 ex:∃es clock,h[r]?=dB (.map es clock)/\es.toList.map (λe=>(e.key,e.val))=kvs.map (λp=>(Value.int .i64 p.1,g p.2))
variable {P:Program} {r:Nat} {g:α->eX} {kvs:List (Int×α)}
theorem LN(x n:Int)(b:0<n):x%n=if x.tmod n<0 then x.tmod n+n else x.tmod n:=by
 have e:=vF x b;have c:-n<x.tmod n:=Int.lt_tmod_of_pos x b;have d:=Int.tmod_add_mul_tdiv x n;have a:0<=(if x.tmod n<0 then x.tmod n+n else x.tmod n)/\(if x.tmod n<0 then x.tmod n+n else x.tmod n)<n:=by split<;>omega
 have e2:x=(if x.tmod n<0 then x.tmod n+n else x.tmod n)+n*(if x.tmod n<0 then x.tdiv n-1 else x.tdiv n):=by
  split
  ·rw[Int.mul_sub];omega
  ·omega
 conv=>lhs;rw[e2]
 rw[Int.add_mul_emod_self_left];exact Int.emod_eq_of_lt a.1 a.2
theorem aD{α:Type}(l:List α)(k:Nat)(h:k<i0 l:=by omega):l.take (k+1)=l.take k++[l[k]]:=zF h
theorem fx:∀x,∀c∈az x,c.oneCell'=eR:=by intro x c a;simp only[az,qx]at a;subst a;rfl
theorem gJ:∀x,∀c∈aB x,c.oneCell'=eR:=by intro x c a;simp only[aB,qx]at a;subst a;rfl
theorem up{h c d:f9}(a:aP (λb=>b<h.size) h c)(b:aP (λb=>b<c.size) c d):aP (λb=>b<h.size) h d:=
 a.then b λ_ e _=>qR e a.1
theorem any{h c:f9}(a:aP (λ_=>True) h c):aP (λb=>b<h.size) h c:=a.mono λ_ _ _=>trivial
theorem Seq.up{α:Type}{h h':f9}{s:Sl}{k:Nat}{f:α->aR}{l:List α}(c:Seq h (λb=>b<h.size) s k f l)(a:aP (λb=>b<h.size) h h'):Seq h' (λb=>b<h'.size) s k f l:=
 (c.ac a).mono λ_ d=>qR d a.1
theorem ib.up{α:Type}{h h':f9}{s:Sl}{k:Nat}{f:α->aR}{l:List (List α)}{rs:List Sl}(c:ib h (λb=>b<h.size) s k f l rs)(a:aP (λb=>b<h.size) h h'):ib h' (λb=>b<h'.size) s k f l rs:=
 (c.ac a).mono λ_ d=>qR d a.1
theorem Seq.drop{α:Type}{h:f9}{p:ak}{s:Sl}{w:Nat}{f:α->aR}{l:List α}(c:Seq h p s w f l)(k:Nat)(m:s.len<=s.cap):
  Seq h p ⟨if s.cap=k then s.ptr else s.ptr.map (·.add (k*w)),s.len-k,s.cap-k⟩ w f (l.drop k):=by
 have g:=c.len;refine⟨o1,λi x a=>?_⟩;rw[wO]at a;obtain⟨b,o,e,j,h3⟩:=c.elem _ x a;have d:=(ql.1 a).1;refine⟨b,o+k*w,?_,j,?_⟩
 ·dsimp only;rw[g9 i5,e,qS,add_eq]
 ·rw[show o+k*w+i*w=o+(k+i)*w by rw[Nat.add_mul];omega];exact h3
theorem Seq.take{α:Type}{h:f9}{p:ak}{s:Sl}{w:Nat}{f:α->aR}{l:List α}(b:Seq h p s w f l)(k:Nat)(c:k<=i0 l):
  Seq h p ⟨s.ptr,k,s.cap⟩ w f (l.take k):=by
 refine⟨i9,λi x a=>?_⟩;rw[vf]at a;split at a
 ·exact b.elem i x a
 ·cases a
theorem getD_lt{α:Type}{l:List α}{d:α}{i:Nat}(h:i<i0 l:=by omega):l.getD i d=l[i]:=by rw[qd,qc h];rfl
structure HP where
 p:f9->ak->Prop
 loc:∀{h h':f9} {q:ak},p h q->aP q h h'->p h' q
 mono:∀{h:f9} {q q':ak},p h q->(∀b,q b->q' b)->p h q'
def emp:HP:=⟨λ_ _=>True,λ_ _=>trivial,λ_ _=>trivial⟩
def an{α:Type}(e:TypeId)(s:Sl)(k:Nat)(f:α->aR)(l:List α):HP:=
 ⟨λh q=>Own h e s k f l/\∀b,s.on b->q b,λa c=>⟨a.1.ac c a.2,a.2⟩,λa d=>⟨a.1,λb g=>d b (a.2 b g)⟩⟩
def av(a:f7)(e:TypeId)(b:aR):HP:=
 ⟨λh q=>bT h a e b/\q a.block,λx c=>⟨x.1.ac c x.2,x.2⟩,λx d=>⟨x.1,d _ x.2⟩⟩
def pm{α:Type}(s:Sl)(k:Nat)(f:α->aR)(l:List α):HP:=
 ⟨λh q=>Seq h q s k f l,λa b=>a.ac b,λa c=>a.mono c⟩
def gn{α:Type}(e:TypeId)(s:Sl)(k:Nat)(f:α->aR)(m:List (List α)):HP:=
 ⟨λh q=>∃(rs:List Sl) (j:ak),Own h e s 1 bi rs/\(∀b,s.on b->q b/\¬j b)/\(∀b,j b->q b)/\rs.length=i0 m/\∀(i:Nat) r l,rs[i]?=dB r->m[i]?=dB l->Seq h j r k f l,
  λ⟨rs,j,a,b,c,d,e⟩ hp=>⟨rs,j,a.ac hp λx g=>(b x g).1,b,c,d,λi r l n o=>(e i r l n o).ac (hp.mono λx _ g=>c x g)⟩,
  λ⟨rs,j,a,b,c,d,e⟩ hq=>⟨rs,j,a,λx g=>⟨hq x (b x g).1,(b x g).2⟩,λx g=>hq x (c x g),d,e⟩⟩
structure aa (B:ak) (h0 h:f9) (As:List HP):Prop where
 low:∀b,B b->b<h0.size
 ac:aP B h0 h
 ex:∃c:Nat->Nat,(∀b,B b->c b=0)/\∀(i:Nat) (A:HP),As[i]?=dB A->A.p h (λb=>b<h.size/\c b=i+1)
abbrev Sp(a h:f9)(As:List HP):Prop:=aa (λb=>b<a.size) a h As
variable {As:List HP} {A2 D:HP}
section
variable {B:ak} {Bs:List HP} {A:HP} {i:Nat}
theorem Sp.refl(h:f9):Sp h h []:=⟨λ_ h=>h,aP.refl _ _,λ_=>0,λ_ _=>rfl,λi A a=>by simp at a⟩
theorem aa.at(H:aa B h0 h As)(i:Nat)(a:As[i]?=dB A):A.p h (λb=>b<h.size):=by obtain⟨c,_,d⟩:=H.ex;exact A.mono (d i A a) λ_ e=>e.1
theorem aa.fin(H:aa B h0 h As)(i:Nat)(d:As[i]?=dB A):A.p h (λb=>¬B b/\b<h.size):=by obtain⟨c,f,e⟩:=H.ex;exact A.mono (e i A d) λb g=>⟨λa=>by have:=f b a;omega,g.1⟩
theorem Sp.fresh(H:Sp h0 h As)(i:Nat)(a:As[i]?=dB A):A.p h (λb=>h0.size<=b/\b<h.size):=
 A.mono (aa.fin H i a) λb c=>⟨i5,c.2⟩
theorem aa.comp(H:aa B h0 h As)(R:Sp h h' Bs):aa B h0 h' (As++Bs):=by
 obtain⟨g,j,l,m,o⟩:=H;obtain⟨_,f,k,q,n⟩:=R;have c:=j.1;refine⟨g,j.then f λb a _=>qR a c,λb=>if b<h.size then l b else if k b=0 then 0 else As.length+k b,λb a=>?_,λi A d=>?_⟩
 ·dsimp only;rw[g0 (qR (g b a) c)];exact m b a
 ·by_cases p:i<i0 As
  ·rw[qm p]at d;refine A.mono (A.loc (o i A d) (f.mono λb _ a=>a.1)) λb a=>⟨qR a.1 f.1,?_⟩
   dsimp only;rw[g0 a.1];exact a.2
  ·rw[qi i5]at d;refine A.mono (n _ A d) λb a=>⟨a.1,?_⟩
   have:¬b<h.size:=λe=>by have:=q b e;omega
   dsimp only;rw[g9 this,g9 i5];omega
theorem aa.up(H:aa B h0 h As)(R:aP (λb=>b<h.size) h h'):aa B h0 h' As:=by have:=H.comp (Bs:=[]) ⟨λ_ h=>h,R,λ_=>0,λ_ _=>rfl,λi A a=>by simp at a⟩;simpa using this
theorem Sp.one(R:aP (λb=>b<h.size) h h')(d:A.p h' λb=>h.size<=b/\b<h'.size):Sp h h' [A]:=by
 refine⟨λ_ h=>h,R,λb=>if b<h.size then 0 else 1,λb c=>g0 c,λi A2 a=>?_⟩;cases i with
 |succ i=>simp at a
 |zero=>
  simp at a;subst a;exact A.mono d λb c=>⟨c.2,by dsimp only;rw[g9 i5]⟩
theorem Sp.zip(R:aP (λb=>b<h.size) h h'):Sp h h' []:=aa.up (Sp.refl h) R
theorem aa.enter(q:ak)(c:Nat->Nat)(f:∀b,q b->b<h.size)(a:∀(i:Nat) (A:HP),As[i]?=dB A->A.p h λb=>q b/\c b=i+1):aa (λb=>b<h.size/\¬q b) h h As:=by
 classical
 refine⟨λb d=>d.1,aP.refl _ _,λb=>if q b then c b else 0,λb d=>g9 d.2,λi A e=>A.mono (a i A e) λb d=>⟨f b d.1,?_⟩⟩;dsimp only;rw[g0 d.1];exact d.2
theorem aa.Uu(q:ak)(e:∀b,q b->b<h.size)(a:A.p h q):aa (λb=>b<h.size/\¬q b) h h [A]:=
 .enter q (λ_=>1) e λi A2 c=>by
  cases i with
  |succ i=>simp at c
  |zero=>simp at c;subst c;exact A.mono a λb d=>⟨d,i4⟩
theorem aa.AH(l:∀b,B b->b<h0.size)(f:aP B h0 h)(z:∀b,B b->c b=0)(a:∀(i:Nat) (A:HP),As[i]?=dB A->A.p h λb=>b<h.size/\c b=i+1)
  (k:aP (λb=>¬(b<h.size/\c b=i+1)) h h') (m:D.p h' λb=>b<h'.size/\((b<h.size/\c b=i+1)∨h.size<=b)):aa B h0 h' (As.set i D):=by
 refine⟨l,f.then k λb _ d n=>by have:=z b d;omega,grow c h.size (i+1),λb d=>?_,λj A e=>?_⟩
 ·rw[gx (qR (l b d) f.1)];exact z b d
 ·rw[qV]at e;split at e
  ·rename_i g;subst g;split at e
   ·injection e with e
    subst e;refine D.mono m λb d=>⟨d.1,?_⟩
    rcases d.2 with h1|h1
    ·rw[gx h1.1];exact h1.2
    ·exact pk h1
   ·cases e
  ·rename_i g;refine A.mono (A.loc (a j A e) (k.mono λb _ d n=>i5)) λb d=>⟨qR d.1 k.1,?_⟩
   rw[gx d.1];exact d.2
theorem aa.step(H:aa B h0 h As)(i:Nat)(e:As[i]?=dB A)(d:∀q:ak,A.p h q->(∀b,q b->b<h.size)->aP (λb=>¬q b) h h'/\D.p h' λb=>b<h'.size/\(q b∨h.size<=b)):aa B h0 h' (As.set i D):=by obtain⟨g,p,c,z,a⟩:=H;obtain⟨j,f⟩:=d _ (a i A e) λb k=>k.1;exact aa.AH g p z a j f
theorem aa.fM(H:aa B h0 h As)(i:Nat)(e:As[i]?=dB A)(d:∀q:ak,A.p h q->D.p h q):aa B h0 h (As.set i D):=
 H.step i e λq f a=>⟨aP.refl _ _,D.mono (d q f) λb c=>⟨a b c,.inl c⟩⟩
theorem aa.merge(H:aa B h0 h As)(i j:Nat)(u:i≠j)(s:As[i]?=dB A)(r:As[j]?=dB A2)
  (t:∀m l:ak,(∀b,m b->¬l b)->A.p h m->A2.p h l->D.p h λb=>m b∨l b):aa B h0 h ((As.set i D).set j emp):=by
 obtain⟨o,p,c,z,a⟩:=H;refine⟨o,p,λb=>if c b=j+1 then i+1 else c b,λb e=>?_,λk n d=>?_⟩
 ·have:=z b e;dsimp only;rw[g9 i5];exact this
 ·rw[qV]at d;split at d
  ·split at d
   ·cases d;trivial
   ·cases d
  ·rename_i q;rw[qV]at d;split at d
   ·rename_i g;subst g;split at d
    ·injection d with d
     subst d;refine D.mono (t _ _ (λb f v=>i5) (a i A s) (a j A2 r)) λb e=>?_;rcases e with f|f
     ·exact⟨f.1,by dsimp only;rw[g9 i5];exact f.2⟩
     ·exact⟨f.1,by dsimp only;rw[g0 f.2]⟩
    ·cases d
   ·rename_i g;refine n.mono (a k n d) λb e=>⟨e.1,?_⟩
    dsimp only;rw[g9 i5];exact e.2
theorem aa.pick(H:aa B h0 h As)(f:Nat->Nat)(m:∀i j,f i=f j->i=j)(k:∀(i:Nat) (A2:HP),Bs[i]?=dB A2->As[f i]?=dB A2):aa B h0 h Bs:=by
 obtain⟨n,p,c,z,a⟩:=H
 classical
 refine⟨n,p,λb=>if e:∃i,c b=f i+1 then e.choose+1 else 0,λb e=>?_,λi A2 g=>?_⟩
 ·have:=z b e;dsimp only;rw[dif_neg];rintro⟨i,g⟩;omega
 ·refine A2.mono (a _ _ (k i A2 g)) λb e=>⟨e.1,?_⟩
  have d:∃i,c b=f i+1:=⟨i,e.2⟩
  dsimp only;rw[dif_pos d];have o:=d.choose_spec;have l:=m d.choose i i5;rw[l]
theorem aa.take(H:aa B h0 h As)(n:Nat)(a:∀(i:Nat) (A2:HP),Bs[i]?=dB A2->As[n+i]?=dB A2):aa B h0 h Bs:=H.pick (λi=>n+i) (λ_ _ h=>i5) a
end
section
variable {B:ak} {C:Ctx} {i e:Nat}
theorem aa.own(H:aa B h0 h As)(i:Nat)(a:As[i]?=dB (an e s k f l)):Own h e s k f l:=(H.at i a).1
theorem aa.seq(H:aa B h0 h As)(i:Nat)(a:As[i]?=dB (an e s k f l))(c:∀x,i0 (f x)=k):Seq h (λb=>b<h.size) s k f l:=(H.at i a).1.seq c (H.at i a).2
theorem aa.rd(H:aa B h0 h As)(i:Nat)(a:As[i]?=dB (pm s k f l)):Seq h (λb=>b<h.size) s k f l:=H.at i a
theorem aa.box(H:aa B h0 h As)(i:Nat)(b:As[i]?=dB (av a e cs)):bT h a e cs:=(H.at i b).1
theorem aa.mK(H:aa B h0 h As)(i:Nat)(p:As[i]?=dB (an e s k f l)){β:Type}{n o:Nat}{g:β->aR}{l':List β}(m:aP (λb=>¬s.on b) h h')(q:Own h' n s o g l'):aa B h0 h' (As.set i (an n s o g l')):=
 H.step i p λ_ d c=>⟨m.mono λb _ a j=>a (d.2 b j),q,λb a=>⟨qR (c b (d.2 b a)) m.1,.inl (d.2 b a)⟩⟩
theorem aa.Aa(H:aa B h0 h As)(i:Nat)(k:As[i]?=dB (av a e cs)){c:aR}(j:aP (λb=>b≠a.block) h h')(l:bT h' a e c):aa B h0 h' (As.set i (av a e c)):=
 H.step i k λq f d=>⟨j.mono λb _ m g=>m (by rw[g];exact f.2),l,⟨qR (d _ f.2) j.1,.inl f.2⟩⟩
theorem aa.freeze(H:aa B h0 h As)(i:Nat)(b:As[i]?=dB (an e s k f l))(c:∀x,i0 (f x)=k):aa B h0 h (As.set i (pm s k f l)):=H.fM i b λ_ a=>a.1.seq c a.2
theorem aa.set(o:C.Ok)(H:aa B h0 h As)(i:Nat)(g:As[i]?=dB (an e s k f l))(r:∀x,i0 (f x)=k)(j:C.T.get t=dB ti){x:Int}(n:Nat)(p:x=n)(q:n<i0 l){c:eX}(y:α)(m:c.cells=(f y).toArray)(d:ti.size=k)
  (b:(f y).all (·.oneCell')=eR) {K:f9->Prop} (u:∀h',aa B h0 h' (As.set i (an e s k f (l.set n y)))->K h'):
  ∃a:f7,(s.ptr=dB a/\0<=x/\x<((s.len:Nat):Int))/\aj C.P (qE t (.pointer (dB (a.add (x.toNat*k)))) c) h λ_ h'=>K h':=
 (H.own i g).set o r j n p q y m d b λh' z w _=>u h' (H.mK i g w z)
theorem aa.push(E:C.Ok)(H:aa B h0 h As)(i:Nat)(N:As[i]?=dB (an e s k f l))(y:bO C.toxZ t e k z by_)(I:i0 z=k)(q:0<by_/\by_<=128)(M:∀x,i0 (f x)=k)
  (n:∀x,∀c∈f x,c.oneCell'=eR) (x:α) {parts:Array (Nat×eX)} (d:wE (λi=>dB (i*k,k)) (iE z 1).toArray parts.toList=dB ([x].flatMap f).toArray)
  (r:1*k<=2^20) (p:i0 l+1<=2^32) {ty:Nat} {K:Sl->f9->Prop}
  (O:∀o h',aa B h0 h' (As.set i (an e o k f (l++[x])))->K o h'):
  bG C.P (zG t 1 parts) (.one (.sc .slc)) h λv L=>bG C.P (zD #[t,t] ty #[.slice s.ptr s.len s.cap,.slice v.ptr v.len v.cap]) (.one (.sc .slc)) L K:=by
 obtain⟨G,A,c,Q,a⟩:=H;have w:=a i _ N;have D:dI h c (i+1) e s k f l:=⟨w.1,λb j=>(w.2 b j).2⟩
 refine D.push E y I q M n x d r p λo h' g u=>O o h' ?_;refine aa.AH G A Q a (u.mono λb j J F=>J ⟨j,F⟩) ⟨g.own,λb j=>⟨g.own.lt j,?_⟩⟩;have:=g.bj b j;by_cases m:b<h.size
 ·rw[gx m]at this;exact .inl ⟨m,this⟩
 ·exact .inr i5
theorem aa.append(E:C.Ok)(H:aa B h0 h As)(i:Nat)(M:As[i]?=dB (an e s k f l))(y:bO C.toxZ t e k z by_)(O:∃i e2,C.T.get t2=dB i/\i.cj=.slice e2)(I:i0 z=k)(q:0<by_/\by_<=128)(L:∀x,i0 (f x)=k)
  (w:Seq h p v k f l2) (m:∀x,∀c∈f x,c.oneCell'=eR) (o:i0 l+i0 l2<=2^32) {ty:Nat} {K:Sl->f9->Prop}
  (N:∀n h',aa B h0 h' (As.set i (an e n k f (l++l2)))->K n h'):
  bG C.P (zD #[t,t2] ty #[.slice s.ptr s.len s.cap,.slice v.ptr v.len v.cap]) (.one (.sc .slc)) h K:=by
 obtain⟨G,A,c,Q,a⟩:=H;have u:=a i _ M;have D:dI h c (i+1) e s k f l:=⟨u.1,λb g=>(u.2 b g).2⟩
 refine D.append E y O I q L w m o λn h' d r=>N n h' ?_;refine aa.AH G A Q a (r.mono λb g J F=>J ⟨g,F⟩) ⟨d.own,λb g=>⟨d.own.lt g,?_⟩⟩;have:=d.bj b g;by_cases j:b<h.size
 ·rw[gx j]at this;exact .inl ⟨j,this⟩
 ·exact .inr i5
theorem Iy{h h':f9}{n:Nat}(i:n=h.size)(d:Own h' e s k f l)(g:s.ptr=dB ⟨n,0,eH⟩)(c:aP (λ_=>True) h h'):Sp h h' [an e s k f l]:=
 .one (any c) ⟨d,λb a=>⟨by obtain⟨o,a⟩:=a;rw[g]at a;cases a;omega,d.lt a⟩⟩
theorem aa.make(p:C.Ok)(H:aa B h0 h As)(f:α->aR)(o:bO C.toxZ t e k z by_)(j:0<by_/\by_<=128)(d:α)(r:f d=z)(i:i0 z=k){A s:IntKind}{n l:Int}(m b:Nat)(u:n=m)(q:l=b)(c:m<=b)(g:b<=2^32)
  {K:Sl->f9->Prop} (v:∀a h',a.len=m->a.cap=b->aa B h0 h' (As++[an e a k f (qh m d)])->K a h'):
  bG C.P (zt t (.int A n) (.int s l)) (.one (.sc .slc)) h K:=
 run_make p o j d r i m b u q c g λa h' x y w D _=>v a h' (by rw[x.len];simp) w (H.comp (Iy i4 x y D))
theorem aa.lit(j:C.Ok)(H:aa B h0 h As)(f:α->aR)(g:bO C.toxZ t e k z by_)(d:i0 z=k){n:Nat}{parts:Array (Nat×eX)}(l:List α)(m:i0 l=n)(c:n*k<=2^20)
  (a:wE (λi=>dB (i*k,k)) (iE z n).toArray parts.toList=dB (l.flatMap f).toArray) {K:Sl->f9->Prop}
  (o:∀b h',aa B h0 h' (As++[an e b k f l])->K b h'):
  bG C.P (zG t n parts) (.one (.sc .slc)) h K:=
 Ix j g d l m c a λb h' x y p _=>o b h' (H.comp (Iy i4 x y p))
theorem Iz{h h':f9}(d:a.block=h.size)(c:bT h' a e cs)(b:aP (λ_=>True) h h'):Sp h h' [av a e cs]:=
 .one (any b) ⟨c,i5,c.lt⟩
theorem aa.alloc(d:C.Ok)(H:aa B h0 h As)(b:C.T.get t=dB ti){K:f7->f9->Prop}(c:∀a h',aa B h0 h' (As++[av a t ti.zero])->K a h'):
  oh C.P (w7 t eR (.tuple #[])) h K:=
 ur d b λa h' x y e _=>c a h' (H.comp (Iz x y e))
theorem aa.boxed(H:aa B h0 h As){P:Program}{v:eX}{K:f7->f9->Prop}(b:∀a h',aa B h0 h' (As++[av a t v.cells.toList])->K a h'):
  oh P (vq t v) h K:=
 Qk λa h' x y c _=>b a h' (H.comp (Iz x y c))
theorem aa.store(l:C.Ok)(H:aa B h0 h As)(i:Nat)(f:As[i]?=dB (av a e cs))(g:C.T.get t=dB ti)(off:Nat){v:eX}(vs:aR)(j:v.cells=vs.toArray)(d:ti.size=i0 vs)
  (c:vs.all (·.oneCell')=eR) (b:off+i0 vs<=i0 cs) {K:Unit->f9->Prop}
  (k:∀h',aa B h0 h' (As.set i (av a e (cs.take off++vs++cs.drop (off+i0 vs))))->K () h'):
  aj C.P (qE t (.pointer (dB (a.add off))) v) h K:=
 run_store l (H.box i f) g off vs j d c b λh' x y _=>k h' (H.Aa i f y x)
theorem aa.gA(l:C.Ok)(H:aa B h0 h As)(i:Nat)(j:As[i]?=dB (av a e cs))(f:C.T.get t=dB ti){v:eX}(vs:aR)(g:v.cells=vs.toArray)(c:ti.size=i0 vs)
  (b:vs.all (·.oneCell')=eR) (d:i0 vs<=i0 cs) {K:Unit->f9->Prop}
  (k:∀h',aa B h0 h' (As.set i (av a e (vs++cs.drop vs.length)))->K () h'):
  aj C.P (qE t (.pointer (dB a)) v) h K:=
 H.store l i j f 0 vs g c b i5 (λh' x=>k h' (by simpa using x))
theorem aa.nil(H:aa B h0 h As)(e k:Nat)(f:α->aR):aa B h0 h (As++[an e ⟨eH,0,0⟩ k f []]):=
 H.comp (.one (aP.refl _ _) ⟨Own.nil h e k f,λb a=>by obtain⟨o,a⟩:=a;cases a⟩)
theorem aa.GA(H:aa B h0 h As)(e k:Nat)(f:α->aR):aa B h0 h (As++[gn e ⟨eH,0,0⟩ k f []]):=
 H.comp (.one (aP.refl _ _) ⟨[],λ_=>False,Own.nil h e 1 bi,λb a=>(by obtain⟨o,a⟩:=a;cases a),λ_ a=>a.elim,rfl,λi r l h=>m0⟩)
theorem aa.sK(hC:C.Ok)(H:aa B h0 h As)(i j:Nat)(z:i≠j){L:List (List α)}{r:Sl}{x:List α}(U:As[i]?=dB (gn e s k f L))(hj:As[j]?=dB (pm r k f x))(W:bO C.toxZ t e 1 [.slice eH 0 0] 24)
  (ab:i0 L+1<=2^32) {ty:Nat} {K:Sl->f9->Prop} (hk:∀O h',aa B h0 h' ((As.set j emp).set i (gn e O k f (L++[x])))->K O h'):
  bG C.P (zG t 1 #[(0,.slice r.ptr r.len r.cap)]) (.one (.sc .slc)) h λv u=>bG C.P (zD #[t,t] ty #[.slice s.ptr s.len s.cap,.slice v.ptr v.len v.cap]) (.one (.sc .slc)) u K:=by
 have H2:=H.merge i j z U hj (D:=⟨λh q=>∃(rs:List Sl) (g:ak),Own h e s 1 bi rs/\(∀b,s.on b->q b/\¬g b)/\(∀b,g b->q b)/\rs.length=i0 L/\(∀(i:Nat) r l,rs[i]?=dB r->L[i]?=dB l->Seq h g r k f l)/\Seq h g r k f x,
  λ⟨rs,g,a,b,c,d,e,f⟩ hp=>⟨rs,g,a.ac hp λx n=>(b x n).1,b,c,d,λi r l u A=>(e i r l u A).ac (hp.mono λx _ n=>c x n),f.ac (hp.mono λx _ n=>c x n)⟩,
  λ⟨rs,g,a,b,c,d,e,f⟩ hq=>⟨rs,g,a,λx n=>⟨hq x (b x n).1,(b x n).2⟩,λx n=>hq x (c x n),d,e,f⟩⟩)
  (λg V hd hA X=>by
   obtain⟨rs,q3,a,b,c,d,e'⟩:=hA;refine⟨rs,λb=>q3 b∨V b,a,λx n=>⟨.inl (b x n).1,λN=>N.elim (b x n).2 (hd x (b x n).1)⟩,λx n=>n.elim (λh=>.inl (c x h)) .inr,d,λi r l u A=>(e' i r l u A).mono λ_ h=>.inl h,Seq.mono X λ_ h=>.inr h⟩)
 have p:i<i0 As:=(ql.1 U).1;obtain⟨lo,Y,c,zz,a⟩:=H2;have ha:=a i _ (by rw[zw (Ne.symm z),ze p]);obtain⟨rs,g,a1,a2,a3,a4,a5,a6⟩:=ha;let S:Nat->Nat:=λb=> @ite _ (g b) (Classical.propDecidable _) (i0 As+2) (c b);have F:∀b,g b->b<h.size/\c b=i+1:=a3;have Z:dI h S (i+1) e s 1 bi rs:=⟨a1,λb m=>by
  have:=a2 b m;show @ite _ (g b) (Classical.propDecidable _) _ _=_;rw[g9 this.2];exact this.1.2⟩
 refine Z.push hC W i4 i6 (λ_=>rfl) jG r i4 i6 i5 λO h' y G=>hk O h' ?_;rw[vA _ _ (Ne.symm z)];rw[<-yu (l:=As) (i:=i),vA _ _ z];have I:∀b,g b->S b≠i+1:=λb m=>by
  show @ite _ (g b) (Classical.propDecidable _) _ _≠_;rw[g0 m];omega
 refine aa.AH lo Y zz a (G.mono λb m hn hc=>hn ⟨m,?_⟩) ⟨rs++[r],λb=>g b/\b<h.size,y.own,λb m=>?_,λb m=>⟨qR m.2 G.1,.inl ⟨m.2,(F b m.1).2⟩⟩,by simp[a4],λR r' l' u A=>?_⟩
 ·by_cases E:g b
  ·exact(F b E).2
  ·have o:@ite _ (g b) (Classical.propDecidable _) (i0 As+2) (c b)=i+1:=hc;rw[g9 E]at o;exact o
 ·have w:=y.bj b m;by_cases p:b<h.size
  ·rw[gx p]at w;have M:¬g b:=λE=>I b E w;have o:@ite _ (g b) (Classical.propDecidable _) (i0 As+2) (c b)=i+1:=w;rw[g9 M]at o;exact⟨⟨y.own.lt m,.inl ⟨p,o⟩⟩,λN=>M N.1⟩
  ·exact⟨⟨y.own.lt m,.inr i5⟩,λN=>p N.2⟩
 ·have J:∀{T:Sl} {l:List α},Seq h g T k f l->Seq h' (λb=>g b/\b<h.size) T k f l:=λhs=>
   (hs.mono (q:=λb=>g b/\b<h.size) λb m=>⟨m,(F b m).1⟩).ac (G.mono λb _ m=>I b m.1)
  by_cases Q:R<i0 rs
  ·rw[qm Q]at u;rw[qm i5]at A;exact J (a5 R r' l' u A)
  ·have:R=i0 rs:=by have:=(ql.1 u).1;simp at this;omega
   subst this;simp at u;rw[a4]at A;simp at A;subst u;subst A;exact J a6
theorem aa.rows(H:aa B h0 h As)(i:Nat){g:List (List α)}(m:As[i]?=dB (gn e s k f g)):∃rs,ib h (λb=>b<h.size) s k f g rs:=by obtain⟨rs,p,a,b,c,d,e⟩:=H.at i m;exact⟨rs,a.seq (λ_=>rfl) λx j=>(b x j).1,d,λi r l o n=>(e i r l o n).mono c⟩
end
theorem XS(vs:aR):∀(pre old post:aR),i0 old=i0 vs->((vs.zipIdx 0).foldl (λ(cs:Array eX) (p:eX×Nat)=>cs.setIfInBounds (i0 pre+p.2) p.1) (pre++old++post).toArray)=(pre++vs++post).toArray:=by
 have b:∀(vs pre old post:aR) (k:Nat),i0 old=i0 vs->i0 pre=i0 pre->∀n,n+k=i0 pre->((vs.zipIdx k).foldl (λ(cs:Array eX) (p:eX×Nat)=>cs.setIfInBounds (n+p.2) p.1) (pre++old++post).toArray)=(pre++vs++post).toArray:=by
  intro vs
  induction vs with
  |nil=>intro pre old post k a _ n _;rw[qW a];rfl
  |cons v vs ih=>
   intro pre old post k a _ n c;cases old with
   |nil=>simp at a
   |cons u old=>
    rw[List.zipIdx_cons,zr];have e:(pre++(u::old)++post).toArray.setIfInBounds (n+k) v=((pre++[v])++old++post).toArray:=by rw[c];apply yC;simp
    dsimp only;rw[e,ih (pre++[v]) old post (k+1) j9 i4 n i9];simp
 intro pre old post h;exact b vs pre old post 0 h i4 pre.length i5
theorem LO{a:Nat->Option (Nat×Nat)}{i:Nat}{v:eX}{vs pre old post:aR}{rest:List (Nat×eX)}(c:v.cells=vs.toArray)(b:a i=dB (i0 pre,i0 vs))(d:i0 old=i0 vs):
  wE a (pre++old++post).toArray ((i,v)::rest)=wE a (pre++vs++post).toArray rest:=by
 conv=>lhs;unfold wE
 simp only[b,c];rw[g9 i9];congr 1;have:=XS vs pre old post d;simpa using this
section
variable {C:Ctx}
theorem sZ(d:C.Ok)(o:C.T.get t=dB i){l:List (Nat×TypeId)}(e:i.cj=.struct l){c:List (Nat×Nat)}(k:placesOf C.T l=dB c){vs:List (Nat×eX)}{cells:Array eX}
  (a:wE (λn=>c[n]?) i.zero.toArray vs=dB cells):aF C.P (Instr.build t vs.toArray) (.agg cells):=by
 obtain⟨z,q,j⟩:=pM d.toOk o;have b:i.zero.toArray=z.cells:=by rw[<-j]
 have m:=d.cj o;rw[e]at m;obtain⟨p,r,rfl⟩:=oe m;refine q.bind ((aH r).bind ?_);have g:aF C.P (p.mapM λf=>(do pure (f.offset,<-sizeOf f.type):Sem (Nat×Nat))) c.toArray:=by rw[Array.mapM_eq_mapM_toList];intro w;have:=sT d.toOk k w;rw[map_eq_pure_bind,Sem.run_bind,this];rfl
 refine g.bind ?_;have h:wE (λn=>c.toArray[n]?) z.cells vs.toArray.toList=dB cells:=by rw[<-b];simpa using a
 rw[h];exact .pure
end
theorem take_set{α:Type}(l:List α)(n:Nat)(x:α)(h:n<i0 l):l.take n++[x]++l.drop (n+1)=l.set n x:=by rw[ya,g0 h];simp
section
variable {B:ak} {C:Ctx} {e:Nat}
theorem aa.storeAt(l:C.Ok)(H:aa B h0 h As)(i:Nat)(j:As[i]?=dB (av a e cs))(f:C.T.get t=dB ti){off:Nat}{v:eX}(g:v.cells=#[v])(d:ti.size=1)
  (c:v.oneCell'=eR) (b:off<i0 cs) {K:Unit->f9->Prop}
  (k:∀h',aa B h0 h' (As.set i (av a e (cs.set off v)))->K () h'):
  aj C.P (qE t (.pointer (dB (a.add off))) v) h K:=
 H.store l i j f off [v] g d l5 i9 λh' x=>k h' (by rw[<-take_set _ _ _ b];simpa using x)
theorem aa.storeAll(l:C.Ok)(H:aa B h0 h As)(i:Nat)(j:As[i]?=dB (av a e cs))(f:C.T.get t=dB ti){v:eX}(vs:aR)(g:v.cells=vs.toArray)(c:ti.size=i0 vs)
  (b:vs.all (·.oneCell')=eR) (d:i0 vs=i0 cs) {K:Unit->f9->Prop}
  (k:∀h',aa B h0 h' (As.set i (av a e vs))->K () h'):
  aj C.P (qE t (.pointer (dB a)) v) h K:=
 H.gA l i j f vs g c b i5 λh' x=>k h' (by rw[q8 i5,qH]at x;exact x)
end
theorem sh(n:Nat)(a:n<=9223372036854775807:=by omega):qe xF (n:Int)=n:=af _
abbrev Rd{α:Type}(h:f9)(s:Sl)(k:Nat)(f:α->aR)(l:List α):Prop:=Seq h (λb=>b<h.size) s k f l
abbrev fA{α:Type}(h:f9)(s:Sl)(k:Nat)(f:α->aR)(a:List (List α)):Prop:=∃rs,ib h (λb=>b<h.size) s k f a rs
section
variable {B:ak} {e:Nat}
theorem fA.up(a:fA h s k f ll)(c:aP (λb=>b<h.size) h h'):fA h' s k f ll:=by obtain⟨rs,a⟩:=a;exact⟨rs,ib.up a c⟩
theorem fA.len(a:fA h s k f ll):s.len=i0 ll:=by obtain⟨rs,a⟩:=a;exact a.LJ
theorem fA.get(b:fA h s k f ll){i:Int}(n:Nat)(c:i=n)(g:n<i0 ll){K:Sl->Prop}(d:∀r,Rd h r k f ll[n]->K r):
  ∃a:f7,(s.ptr=dB a/\0<=i/\i<((s.len:Nat):Int))/\∃x:Sl,f8 h (a.add (i.toNat*1))=dB (.slice x.ptr x.len x.cap)/\K x:=by
 obtain⟨rs,b⟩:=b;exact b.get n c g λr e _=>d r e
theorem Seq.isSome{p:ak}(a:Seq h p s k f l)(c:l≠[]):s.ptr.isNone=eS:=by
 cases l with
 |nil=>exact absurd i4 c
 |cons x t=>obtain⟨b,o,d,_⟩:=a.elem 0 x jj;rw[d];rfl
theorem Seq.isNil{p:ak}(b:Seq h p s k f l)(a:s.ptr.isNone=eR):l=[]:=by
 cases l with
 |nil=>rfl
 |cons x t=>rw[b.isSome jj]at a;cases a
theorem aa.Cm(H:aa B h0 h As)(i:Nat)(a:As[i]?=dB (gn e s k f ll)):fA h s k f ll:=H.rows i a
end
section
variable {B:ak} {Bs:List HP} {A:HP}
theorem aa.del(H:aa B h0 h As)(i:Nat):aa B h0 h (As.eraseIdx i):=
 H.pick (λj=>if j<i then j else j+1) (λa b d=>by split at d<;>split at d<;>omega) λj A e=>by
  rw[List.getElem?_eraseIdx]at e;split at e
  ·rename_i c;rw[g0 c];exact e
  ·rename_i c;rw[g9 c];exact e
theorem aa.call(H:aa B h0 h As)(i:Nat)(F:As[i]?=dB A)(q:ak)(I:∀q':ak,A.p h q'->∀b,q b->q' b)(R:aa (λb=>b<h.size/\¬q b) h h' (D::Bs)):aa B h0 h' (As.set i D++Bs):=by
 classical
 obtain⟨v,x,g,w,E⟩:=H;obtain⟨_,t,j,L,z⟩:=R;have s:=x.1;have u:=(ql.1 F).1;have o:∀b,q b->b<h.size/\g b=i+1:=I _ (E i A F);have y:∀b,B b->b<h.size/\¬q b:=λb a=>⟨qR (v b a) s,λr=>by have:=w b a;have:=o b r;omega⟩
 let c:Nat->Nat:=λb=>if b<h.size/\¬q b then(if g b=i+1 then 0 else g b)else if j b=0 then 0 else if j b=1 then i+1 else As.length+j b-1
 have e:∀b,b<h.size/\¬q b->g b≠i+1->c b=g b:=λb a J=>by show ite _ _ _=_;rw[g0 a,g9 J]
 have f:∀b,j b≠0->c b=if j b=1 then i+1 else As.length+j b-1:=λb a=>by
  have:¬(b<h.size/\¬q b):=λr=>a (L b r);show ite _ _ _=_;rw[g9 this,g9 a]
 refine⟨v,x.then t λb _ a=>y b a,c,λb a=>?_,λk m d=>?_⟩
 ·have:=w b a;rw[e b (y b a) i5];exact this
 ·by_cases G:k<i0 As
  ·rw[qm (by simpa using G),qV]at d;split at d
   ·rename_i n;subst n;injection d with d
    subst d;refine D.mono (z 0 D i4) λb a=>⟨a.1,?_⟩
    rw[f b i5,g0 a.2]
   ·rename_i n;have l:∀b,b<h.size/\g b=k+1->b<h.size/\¬q b:=λb a=>⟨a.1,λr=>by have:=o b r;omega⟩
    refine m.mono (m.loc (E k m d) (t.mono λb _ a=>l b a)) λb a=>⟨qR a.1 t.1,?_⟩
    rw[e b (l b a) i5];exact a.2
  ·rw[qi (by simpa using G)]at d;rw[q9]at d;have K:=z (k-i0 As+1) m o4;refine m.mono K λb a=>⟨a.1,?_⟩
   rw[f b i5,g9 i5];omega
end
section
variable {B:ak} {Bs:List HP} {A:HP} {e:Nat}
theorem aa.off(H:aa B h0 h As)(i j:Nat)(m:i≠j)(g:As[i]?=dB (an e s k f l))(n:As[j]?=dB A):A.p h (λb=>b<h.size/\¬s.on b):=by
 obtain⟨_,_,c,_,a⟩:=H;refine A.mono (a j A n) λb o=>⟨o.1,λd=>?_⟩
 have:=(a i _ g).2 b d;omega
theorem aa.base(H:aa B h0 h As)(i:Nat)(g:As[i]?=dB (an e s k f l)){b:Nat}(j:B b):¬s.on b:=λd=>by
 obtain⟨_,_,c,z,a⟩:=H;have:=(a i _ g).2 b d;have:=z b j;omega
theorem aa.acW(H:aa B h0 h (As++[D]))(i:Nat)(k:i<i0 As):aa B h0 h (As.set i D):=
 H.pick (λj=>if j<i0 As then(if j=i then As.length else j)else j+1) (λa b c=>by split at c<;>split at c<;>(try split at c)<;>(try split at c)<;>omega) λj A f=>by
  have e:j<i0 As:=by have:=(ql.1 f).1;simpa using this
  rw[g0 e];rw[qV]at f;split at f
  ·rename_i d;subst d;rw[g0 i4,qi (qk _),qZ];exact f
  ·rename_i d;rw[g9 λg=>d g.symm,qm e];exact f
theorem aa.aai(H:aa B h0 h As)(i j:Nat){A2:HP}(m:As[i]?=dB A)(n:As[j]?=dB A2):aa B h0 h ((As.set i A2).set j A):=by
 have g:=(ql.1 m).1;have l:=(ql.1 n).1;refine H.pick (λx=>if x=j then i else if x=i then j else x) (λa b c=>by split at c<;>split at c<;>(try split at c)<;>(try split at c)<;>omega) λx o d=>?_;rw[qV,qV]at d;by_cases f:j=x
 ·subst f;simp[l]at d;subst d;simpa using m
 ·by_cases k:i=x
  ·subst k;simp[f,g]at d;subst d;rw[g9 λe=>f e.symm,g0 rfl];exact n
  ·simp[f,k]at d;rw[g9 λe=>f e.symm,g9 λe=>k e.symm];exact d
end
def bt{α:Type}(e k:Nat)(f:α->aR)(rs:List Sl)(a:List (List α)):List HP:=za (λr l=>an e r k f l) rs a
section
variable {e:Nat}
theorem lQ(h:i0 rs=i0 ll):i0 (bt e k f rs ll)=i0 ll:=by simp[bt,h]
theorem fU(h:i0 rs=i0 ll)(i:Nat)(a:i<i0 ll):(bt e k f rs ll)[i]?=dB (an e (rs[i]'(by omega)) k f ll[i]):=by
 have b:i<i0 rs:=i5
 simp[bt,wc,qc a,qc b]
theorem ta(h:i0 rs=i0 ll)(r:Sl)(l:List α):bt e k f (rs++[r]) (ll++[l])=bt e k f rs ll++[an e r k f l]:=by unfold bt;rw[yF h];rfl
theorem kz(h:i0 rs=i0 ll)(i:Nat)(r:Sl)(l:List α):(bt e k f rs ll).set i (an e r k f l)=bt e k f (rs.set i r) (ll.set i l):=by
 apply zy;intro j;simp only[bt,qV,wc,List.length_zipWith];by_cases a:i=j
 ·subst a;by_cases b:i<i0 ll
  ·have:i<i0 rs:=i5
   simp[b,this];omega
  ·have:¬i<i0 rs:=i5
   simp[b];omega
 ·simp[a]
theorem LP(h:i0 rs=i0 ll)(i:Nat)(a:i<i0 ll)(l:List α):(bt e k f rs ll).set i (an e (rs[i]'(by omega)) k f l)=bt e k f rs (ll.set i l):=by rw[kz h,List.set_getElem_self]
theorem aa.LQ{B:ak}{n h:f9}{s:Sl}{a:Nat}(H:aa B n h (an a s 1 bi rs::bt e k f rs ll))(g:i0 rs=i0 ll)(m:∀x,i0 (f x)=k):fA h s k f ll:=by
 refine⟨rs,H.seq 0 i4 λ_=>rfl,g,λi r l c b=>?_⟩;have d:i<i0 ll:=(ql.1 b).1;have j:=fU (e:=e) (k:=k) (f:=f) g i d;have h3:=H.seq (i+1) o5 m;have a:rs[i]'(by omega)=r:=by rw[qc i5]at c;simpa using c
 have e2:ll[i]=l:=by rw[qc d]at b;simpa using b
 rw[a,e2]at h3;exact h3
end
theorem Seq.Le{X:Type}{g:X->eX}(e:Seq h p s 1 f l){i:Int}(n:Nat)(q:i=n)(k:n<i0 l)(x:X)(j:f l[n]=[g x]){K:f7->X->Prop}(r:∀a:f7,f8 h (a.add (i.toNat*1))=dB (g x)->K a x):
  ∃a:f7,(s.ptr=dB a/\0<=i/\i<((s.len:Nat):Int))/\∃x:X,f8 h (a.add (i.toNat*1))=dB (g x)/\K a x:=by
 subst q;obtain⟨b,o,m,_,h3⟩:=e.elem n l[n] (qc k);rw[j]at h3;have c:=h3.1;rw[add_eq,wJ]at c;have d:f8 h ((⟨b,o,eH⟩:f7).add ((n:Int).toNat*1))=dB (g x):=by rw[add_eq];simpa using c
 exact⟨_,⟨m,i5,by rw[e.len];omega⟩,x,d,r _ d⟩
theorem Seq.mY{h:f9}{p:ak}{s:Sl}{rs:List Sl}(e:Seq h p s 1 bi rs){i:Int}(n:Nat)(j:i=n)(f:n<i0 rs){K:f7->Sl->Prop}
  (k:∀a:f7,f8 h (a.add (i.toNat*1))=dB (.slice rs[n].ptr rs[n].len rs[n].cap)->p (a.add (i.toNat*1)).block->K a rs[n]):
  ∃a:f7,(s.ptr=dB a/\0<=i/\i<((s.len:Nat):Int))/\∃x:Sl,f8 h (a.add (i.toNat*1))=dB (.slice x.ptr x.len x.cap)/\K a x:=by
 subst j;obtain⟨b,o,g,l,h3⟩:=e.elem n rs[n] (qc f);have c:=h3.1;rw[add_eq,wJ]at c;have d:f8 h ((⟨b,o,eH⟩:f7).add ((n:Int).toNat*1))=dB (.slice rs[n].ptr rs[n].len rs[n].cap):=by rw[add_eq];simpa using c
 exact⟨_,⟨g,i5,by rw[e.len];omega⟩,rs[n],d,k _ d (by rw[add_eq];exact l)⟩
section
variable {B:ak} {e:Nat}
theorem Own.cut(a:Own h e s k f l)(c:∀x,i0 (f x)=k)(j:Nat)(g:j<=i0 l):Own h e ⟨s.ptr,j,s.cap⟩ k f (l.take j):=by
 have d:=a.len;refine⟨i9,?_⟩;rcases a.head with⟨h1,h2,h3⟩|⟨b,rest,h1,h2,h3,h4⟩
 ·subst h3;exact .inl ⟨h1,h2,jj⟩
 ·refine .inr ⟨b,(l.drop j).flatMap f++rest,h1,?_,?_,i7⟩
  ·rw[<-qn,<-zf,qB];exact h2
  ·rw[qp,ez c,q7,h3,<-Nat.add_mul];dsimp only;congr 1;omega
end
section
variable {B:ak} {C:Ctx} {e:Nat}
end
section
variable {C:Ctx} {ty e:Nat} {B:ak}
theorem Own.GB(F:C.Ok)(E:bO C.toxZ t e k z by_)(r:∀x,i0 (f x)=k)(o:Own h e s k f l)(D:Seq h p v k f l2)(g:∀x,∀c∈f x,c.oneCell'=eR){K:Int->f9->Prop}
  (y:∀n h',Own h' e s k f (l2.take l.length++l.drop l2.length)->aP (λb=>¬s.on b) h h'->K n h'):
  bG C.P (yZ #[t,t2] ty #[.slice s.ptr s.len s.cap,.slice v.ptr v.len v.cap]) (.one (.sc (.int .i64))) h K:=by
 unfold bG yZ;simp only[wb,y8,qq];refine aj.bind (aj.always (aH (E.under F)) ?_);refine aj.bind (aj.pure' ?_);refine aj.bind (aj.always (E.size F) ?_);have a:=o.len;have d:=D.len;obtain⟨m,i⟩:∃m,m=Nat.min v.len s.len:=⟨_,rfl⟩
 rw[<-i];have B:m<=i0 l2:=by rw[i,<-d];exact Nat.min_le_left _ _
 have u:m<=i0 l:=by rw[i,<-a];exact Nat.min_le_right _ _
 have G:m=min l2.length l.length:=by rw[i,a,d]
 have A:=D.take m B;have J:l2.take l.length++l.drop l2.length=l2.take m++l.drop m:=by
  rcases Nat.le_total l2.length l.length with hh|hh
  ·rw[qg hh,show m=i0 l2 by omega,qU]
  ·rw[show m=i0 l by omega,q8 hh,List.drop_length]
 rw[J]at y;have j:wN k m (.slice v.ptr v.len v.cap)=wN k m (.slice v.ptr m v.cap):=by cases v.ptr<;>rfl
 rw[j];refine aj.bind (iq (v:=⟨v.ptr,m,v.cap⟩) r A ?_);rcases o.head with⟨h1,h2,h3⟩|⟨b,rest,h1,h2,h3,h4⟩
 ·rw[h1];subst h3;have:m=0:=o9
  subst this;refine aj.pure' ⟨_,i4,y _ h ?_ (aP.refl _ _)⟩;simpa using o
 ·rw[h1];refine aj.bind ?_;have q:l.flatMap f++rest=(l.take m).flatMap f++((l.drop m).flatMap f++rest):=by rw[<-qn,<-zf,qB]
  rw[q]at h2;refine fV (e:=e) (pre:=[]) (old:=(l.take m).flatMap f) (post:=(l.drop m).flatMap f++rest) (by simpa using h2) (by rw[ez r,ez r,qP,qP];congr 1;omega) i4 ?_ ?_
  ·intro c H;obtain⟨x,_,w⟩:=zO.1 H;exact g x c w
  ·refine aj.pure' ⟨_,i4,y _ _ ⟨by rw[a,qp,qP,q7];omega,.inr ⟨b,rest,h1,?_,h3,h4⟩⟩ (aP.jb h2 λI=>I ⟨0,h1⟩)⟩;rw[iQ h2,g0 i4,zf];simp
theorem aa.GB(m:C.Ok)(H:aa B h0 h As)(i:Nat)(b:As[i]?=dB (an e s k f l))(g:bO C.toxZ t e k z by_)(o:∀x,i0 (f x)=k)(d:Seq h p v k f l2)(a:∀x,∀c∈f x,c.oneCell'=eR){K:Int->f9->Prop}
  (j:∀n h',aa B h0 h' (As.set i (an e s k f (l2.take l.length++l.drop l2.length)))->K n h'):
  bG C.P (yZ #[t,t2] ty #[.slice s.ptr s.len s.cap,.slice v.ptr v.len v.cap]) (.one (.sc (.int .i64))) h K:=
 (H.own i b).GB m g o d a λn h' x y=>j n h' (H.mK i b y x)
end
def IA(d:Sl)(w i:Nat):Sl:=⟨if d.cap=i*w then d.ptr else d.ptr.map (·.add (i*w*1)),(i+1)*w-i*w,d.cap-i*w⟩
def Cn{α:Type}(l:List α)(w i:Nat):List α:=(l.drop (i*w)).take w
theorem Seq.piece{α:Type}{h:f9}{p:ak}{s:Sl}{f:α->aR}{l:List α}(a:Seq h p s 1 f l)(c:s.len<=s.cap)(w i:Nat)(g:(i+1)*w<=i0 l):Seq h p (IA s w i) 1 f (Cn l w i):=by
 have d:=a.drop (i*w) c;have e:(i+1)*w=i*w+w:=zI i w;have b:=d.take w l9;have e2:(i+1)*w-i*w=w:=i5
 unfold IA Cn;rw[e2];exact b
theorem abh{α:Type}{l:List α}{w i:Nat}(a:(i+1)*w<=i0 l):i0 (Cn l w i)=w:=by have e:(i+1)*w=i*w+w:=zI i w;simp only[Cn,qP,q7];omega
def HP.sep(A D:HP):HP:=
 ⟨λh q=>∃i f:ak,(∀b,i b->¬f b)/\(∀b,i b->q b)/\(∀b,f b->q b)/\A.p h i/\D.p h f,
  λ⟨i,f,a,b,c,d,e⟩ hp=>⟨i,f,a,b,c,A.loc d (hp.mono λx _ g=>b x g),D.loc e (hp.mono λx _ g=>c x g)⟩,
  λ⟨i,f,a,b,c,d,e⟩ hq=>⟨i,f,a,λx g=>hq x (b x g),λx g=>hq x (c x g),d,e⟩⟩
def HP.ex{ι:Type}(F:ι->HP):HP:=⟨λh q=>∃i,(F i).p h q,λ⟨i,a⟩ hp=>⟨i,(F i).loc a hp⟩,λ⟨i,a⟩ hq=>⟨i,(F i).mono a hq⟩⟩
def HP.and(A:HP)(P:Prop):HP:=⟨λh q=>A.p h q/\P,λa b=>⟨A.loc a.1 b,a.2⟩,λa c=>⟨A.mono a.1 c,a.2⟩⟩
variable {E:HP}
section
variable {B:ak} {Bs:List HP} {A:HP} {i:Nat}
theorem aa.split(H:aa B h0 h As)(i:Nat)(n:As[i]?=dB (A.sep D)):aa B h0 h (As.set i A++[D]):=by
 classical
 obtain⟨q,p,c,z,a⟩:=H;obtain⟨w,o,u,m,s2,r,s⟩:=a i _ n;have t:=(ql.1 n).1;refine⟨q,p,λb=>if o b then As.length+1 else c b,λb e=>?_,λj X d=>?_⟩
 ·have v:=z b e;dsimp only;rw[g9];exact v;intro l;have:=(s2 b l).2;omega
 ·by_cases k:j<i0 As
  ·rw[qm (by simpa using k),qV]at d;split at d
   ·rename_i f;subst f
    first|rw[g0 k]at d|skip
    injection d with d
    subst d;refine A.mono r λb e=>⟨(m b e).1,?_⟩
    dsimp only;rw[g9 (u b e)];exact(m b e).2
   ·rename_i f;refine X.mono (a j X d) λb e=>⟨e.1,?_⟩
    dsimp only;rw[g9];exact e.2;intro l;have:=(s2 b l).2;omega
  ·rw[qi (by simpa using k)]at d;rw[q9]at d;have g:j=i0 As:=by have:=(ql.1 d).1;simp at this;omega
   subst g;simp at d;subst d;refine D.mono s λb e=>⟨(s2 b e).1,?_⟩
   dsimp only;rw[g0 e]
theorem aa.join(H:aa B h0 h As)(i j:Nat)(a:i≠j)(e:As[i]?=dB A)(k:As[j]?=dB D):aa B h0 h ((As.set i (A.sep D)).set j emp):=
 H.merge i j a e k λf d l c g=>⟨f,d,l,λ_ b=>.inl b,λ_ b=>.inr b,c,g⟩
theorem aa.RO{ι:Type}{F:ι->HP}(H:aa B h0 h As)(i:Nat)(f:As[i]?=dB (HP.ex F)):∃x,aa B h0 h (As.set i (F x)):=by
 obtain⟨g,p,c,z,a⟩:=H;obtain⟨x,e⟩:=a i _ f;refine⟨x,g,p,c,z,λj X b=>?_⟩;rw[qV]at b;split at b
 ·rename_i d;subst d;split at b
  ·injection b with b;subst b;exact e
  ·cases b
 ·exact a j X b
theorem aa.close'{ι:Type}{F:ι->HP}(H:aa B h0 h As)(i:Nat)(x:ι)(a:As[i]?=dB (F x)):aa B h0 h (As.set i (HP.ex F)):=H.fM i a λ_ b=>⟨x,b⟩
theorem aa.fact{P:Prop}(H:aa B h0 h As)(i:Nat)(a:As[i]?=dB (A.and P)):P:=(H.at i a).2
theorem aa.aaj{P:Prop}(H:aa B h0 h As)(i:Nat)(a:As[i]?=dB (A.and P)):aa B h0 h (As.set i A):=H.fM i a λ_ b=>b.1
theorem aa.aeM{P:Prop}(H:aa B h0 h As)(i:Nat)(b:As[i]?=dB A)(a:P):aa B h0 h (As.set i (A.and P)):=H.fM i b λ_ c=>⟨c,a⟩
theorem aa.cons(H:aa B h0 h As)(i:Nat)(g:As[i]?=dB A):aa B h0 h (A::As.set i emp):=by
 obtain⟨l,p,c,z,a⟩:=H;have k:=(ql.1 g).1;refine⟨l,p,λb=>if c b=i+1 then 1 else if c b=0 then 0 else c b+1,λb e=>?_,λj X d=>?_⟩
 ·have:=z b e;dsimp only;rw[g9 i5,g0 this]
 ·cases j with
  |zero=>
   simp at d;subst d;refine A.mono (a i A g) λb e=>⟨e.1,by dsimp only;rw[g0 e.2]⟩
  |succ j=>
   rw[qq,qV]at d;split at d
   ·rename_i f;injection d with d;subst d;trivial
   ·rename_i f;refine X.mono (a j X d) λb e=>⟨e.1,by dsimp only;rw[g9 i5,g9 i5];omega⟩
theorem aa.rest(H:aa B h0 h (A::As)):aa B h0 h As:=H.pick (λj=>j+1) (λa b h=>i5) λj X c=>pa
end
structure iF (α β:Type) where
 p:f9->ak->α->β->Prop
 loc:∀{h h':f9} {q:ak} {a:α} {b:β},p h q a b->aP q h h'->p h' q a b
 mono:∀{h:f9} {q q':ak} {a:α} {b:β},p h q a b->(∀x,q x->q' x)->p h q' a b
def cw{α:Type}(k:Nat)(f:α->aR):iF Sl (List α):=⟨λh q s l=>Seq h q s k f l,λa b=>a.ac b,λa c=>a.mono c⟩
def rJ{α:Type}(k:Nat)(f:α->aR):iF Sl (List α):=⟨λh q s l=>Seq h q s k f l/\(l=[]->s.ptr=eH),λa b=>⟨a.1.ac b,a.2⟩,λa c=>⟨a.1.mono c,a.2⟩⟩
def bD{α β:Type}(E:iF α β)(k:Nat)(f:α->aR):iF Sl (List β):=
 ⟨λh q s ll=>∃rs:List α,Seq h q s k f rs/\rs.length=i0 ll/\∀(i:Nat) r l,rs[i]?=dB r->ll[i]?=dB l->E.p h q r l,
  λ⟨rs,a,b,c⟩ hp=>⟨rs,a.ac hp,b,λi r l e d=>E.loc (c i r l e d) hp⟩,λ⟨rs,a,b,c⟩ hq=>⟨rs,a.mono hq,b,λi r l e d=>E.mono (c i r l e d) hq⟩⟩
def acX{α β:Type}(E:iF α β)(P:α->β->Prop):iF α β:=⟨λh q a b=>E.p h q a b/\P a b,λa c=>⟨E.loc a.1 c,a.2⟩,λa d=>⟨E.mono a.1 d,a.2⟩⟩
def EA{α β:Type}(E:iF α β)(a:α)(b:β):HP:=⟨λh q=>E.p h q a b,λx c=>E.loc x c,λx d=>E.mono x d⟩
abbrev dN{α β:Type}(E:iF α β)(h:f9)(a:α)(b:β):Prop:=E.p h (λb=>b<h.size) a b
def ck{α β:Type}(e:TypeId)(s:Sl)(k:Nat)(f:α->aR)(E:iF α β)(m:List β):HP:=
 ⟨λh q=>∃(rs:List α) (j:ak),Own h e s k f rs/\(∀b,s.on b->q b/\¬j b)/\(∀b,j b->q b)/\rs.length=i0 m/\∀(i:Nat) r l,rs[i]?=dB r->m[i]?=dB l->E.p h j r l,
  λ⟨rs,j,a,b,c,d,e⟩ hp=>⟨rs,j,a.ac hp λx g=>(b x g).1,b,c,d,λi r l n o=>E.loc (e i r l n o) (hp.mono λx _ g=>c x g)⟩,
  λ⟨rs,j,a,b,c,d,e⟩ hq=>⟨rs,j,a,λx g=>⟨hq x (b x g).1,(b x g).2⟩,λx g=>hq x (c x g),d,e⟩⟩
variable {β:Type} {b:β}
section
variable {E:iF α β} {ll:List β} {a:α}
theorem dN.up(x:dN E h a b)(c:aP (λb=>b<h.size) h h'):dN E h' a b:=E.mono (E.loc x c) λ_ d=>qR d c.1
theorem bD.kg(x:(bD E k f).p h q s ll):∃rs:List α,Seq h q s k f rs/\rs.length=i0 ll/\∀(i:Nat) (e:i<i0 rs) (d:i<i0 ll),E.p h q rs[i] ll[i]:=by obtain⟨rs,a,b,c⟩:=x;exact⟨rs,a,b,λi e d=>c i _ _ (qc e) (qc d)⟩
theorem bD.len(x:(bD E k f).p h q s ll):s.len=i0 ll:=by obtain⟨rs,a,b,c⟩:=x;rw[a.len,b]
theorem bD.nil(h:f9)(q:ak)(a:bK)(c:Nat):(bD E k f).p h q ⟨a,0,c⟩ []:=⟨[],Seq.nil h q c a k f,i4,λi r l b=>by simp at b⟩
theorem bD.take(x:(bD E k f).p h q s ll)(n:Nat)(j:n<=i0 ll):(bD E k f).p h q ⟨s.ptr,n,s.cap⟩ (ll.take n):=by
 obtain⟨rs,a,b,c⟩:=x;refine⟨rs.take n,a.take n i5,n5,λi r l d e=>?_⟩;rw[vf]at d e;split at d
 ·rename_i g;rw[g0 g]at e;exact c i r l d e
 ·cases d
theorem bD.get{X:Type}{g:X->eX}(x:(bD E 1 f).p h q s ll){i:Int}(n:Nat)(b:i=n)(e:n<i0 ll)(u:α->X)(d:∀r,f r=[g (u r)]){K:X->Prop}(c:∀r,E.p h q r ll[n]->K (u r)):
  ∃a:f7,(s.ptr=dB a/\0<=i/\i<((s.len:Nat):Int))/\∃x:X,f8 h (a.add (i.toNat*1))=dB (g x)/\K x:=by
 obtain⟨rs,j,k,h3⟩:=bD.kg x;exact j.bo n b i5 (u (rs[n]'(by omega))) (d _) (c _ (h3 n i5 e))
theorem bD.mY{E:iF Sl β}(x:(bD E 1 bi).p h q s ll){i:Int}(n:Nat)(c:i=n)(b:n<i0 ll){K:Sl->Prop}(d:∀r,E.p h q r ll[n]->K r):
  ∃a:f7,(s.ptr=dB a/\0<=i/\i<((s.len:Nat):Int))/\∃x:Sl,f8 h (a.add (i.toNat*1))=dB (.slice x.ptr x.len x.cap)/\K x:=
 bD.get (g:=λr:Sl=>Value.slice r.ptr r.len r.cap) x n c b id (λ_=>rfl) d
theorem bD.tofA{γ:Type}{d:Nat}{g:γ->aR}{l:List (List γ)}(x:dN (bD (cw d g) 1 bi) h s l):fA h s d g l:=by obtain⟨rs,a,b,c⟩:=x;exact⟨rs,a,b,c⟩
theorem bD.impl{α':Type}{e:Type}{E':iF α e}(u:β->e)(g:∀{h q a b},E.p h q a b->E'.p h q a (u b))(x:(bD E k f).p h q s ll):(bD E' k f).p h q s (ll.map u):=by
 obtain⟨rs,a,b,c⟩:=x;refine⟨rs,a,n5,λi r l j d=>?_⟩;rw[qO]at d;cases h3:ll[i]? with
 |none=>rw[h3]at d;cases d
 |some y=>rw[h3]at d;simp at d;subst d;exact g (c i r y j h3)
end
section
variable {E:iF α β} {C:Ctx} {e:Nat} {B:ak} {ll:List β}
theorem aa.Co(H:aa B h0 h As)(e k:Nat)(f:α->aR)(E:iF α β):aa B h0 h (As++[ck e ⟨eH,0,0⟩ k f E []]):=
 H.comp (.one (aP.refl _ _) ⟨[],λ_=>False,Own.nil h e k f,λb a=>(by obtain⟨o,a⟩:=a;cases a),λ_ a=>a.elim,rfl,λi r l h=>m0⟩)
theorem aa.Jv(H:aa B h0 h As)(i:Nat)(j:As[i]?=dB (ck e s k f E ll))(n:∀x,i0 (f x)=k):dN (bD E k f) h s ll:=by obtain⟨rs,p,a,b,c,d,e⟩:=H.at i j;exact⟨rs,a.seq n λx g=>(b x g).1,d,λi r l o m=>E.mono (e i r l o m) c⟩
theorem aa.Ql(H:aa B h0 h As)(i:Nat)(m:As[i]?=dB (ck e s k f E ll))(j:∀x,i0 (f x)=k):aa B h0 h (As.set i (EA (bD E k f) s ll)):=
 H.fM i m λq ⟨rs,p,a,b,c,d,e⟩=>⟨rs,a.seq j λx g=>(b x g).1,d,λi r l o n=>E.mono (e i r l o n) c⟩
theorem aa.eAt{a:α}{b:β}(H:aa B h0 h As)(i:Nat)(c:As[i]?=dB (EA E a b)):dN E h a b:=H.at i c
theorem aa.RP(H:aa B h0 h As)(i:Nat)(g:As[i]?=dB (ck e s k f E ll)):s.len=i0 ll/\s.len<=s.cap:=by obtain⟨rs,j,a,b,c,d,e⟩:=H.at i g;exact⟨by rw[a.len,d],a.cap⟩
theorem aa.pQ(hC:C.Ok)(H:aa B h0 h As)(i j:Nat)(A:i≠j){a:α}{b:β}(Z:As[i]?=dB (ck e s k f E ll))(hj:As[j]?=dB (EA E a b))(he:bO C.toxZ t e k z by_)(hz:i0 z=k)(U:0<by_/\by_<=128)(hw:∀x,i0 (f x)=k)
  (O:∀x,∀c∈f x,c.oneCell'=eR) {parts:Array (Nat×eX)} (J:wE (λi=>dB (i*k,k)) (iE z 1).toArray parts.toList=dB ([a].flatMap f).toArray) (W:1*k<=2^20)
  (ab:i0 ll+1<=2^32) {ty:Nat} {K:Sl->f9->Prop} (hk:∀T h',aa B h0 h' ((As.set j emp).set i (ck e T k f E (ll++[b])))->K T h'):
  bG C.P (zG t 1 parts) (.one (.sc .slc)) h λv u=>bG C.P (zD #[t,t] ty #[.slice s.ptr s.len s.cap,.slice v.ptr v.len v.cap]) (.one (.sc .slc)) u K:=by
 have H2:=H.merge i j A Z hj (D:=⟨λh q=>∃(rs:List α) (g:ak),Own h e s k f rs/\(∀b,s.on b->q b/\¬g b)/\(∀b,g b->q b)/\rs.length=i0 ll/\(∀(i:Nat) r l,rs[i]?=dB r->ll[i]?=dB l->E.p h g r l)/\E.p h g a b,
  λ⟨rs,g,a,b,c,d,e,f⟩ hp=>⟨rs,g,a.ac hp λx n=>(b x n).1,b,c,d,λi r l u I=>E.loc (e i r l u I) (hp.mono λx _ n=>c x n),E.loc f (hp.mono λx _ n=>c x n)⟩,
  λ⟨rs,g,a,b,c,d,e,f⟩ hq=>⟨rs,g,a,λx n=>⟨hq x (b x n).1,(b x n).2⟩,λx n=>hq x (c x n),d,e,f⟩⟩)
  (λg q2 hd hA hB=>by
   obtain⟨rs,q3,a,b,c,d,e'⟩:=hA;refine⟨rs,λb=>q3 b∨q2 b,a,λx n=>⟨.inl (b x n).1,λN=>N.elim (b x n).2 (hd x (b x n).1)⟩,λx n=>n.elim (λh=>.inl (c x h)) .inr,d,λi r l u I=>E.mono (e' i r l u I) λ_ h=>.inl h,E.mono hB λ_ h=>.inr h⟩)
 have w:i<i0 As:=(ql.1 Z).1;obtain⟨lo,pp,c,zz,ax⟩:=H2;have ha:=ax i _ (by rw[zw (Ne.symm A),ze w]);obtain⟨rs,g,a1,a2,a3,a4,a5,a6⟩:=ha;let c':Nat->Nat:=λb=> @ite _ (g b) (Classical.propDecidable _) (i0 As+2) (c b);have M:∀b,g b->b<h.size/\c b=i+1:=a3;have ho:dI h c' (i+1) e s k f rs:=⟨a1,λb m=>by
  have:=a2 b m;show @ite _ (g b) (Classical.propDecidable _) _ _=_;rw[g9 this.2];exact this.1.2⟩
 refine ho.push hC he hz U hw O a J W i5 λT h' F L=>hk T h' ?_;rw[vA _ _ (Ne.symm A)];rw[<-yu (l:=As) (i:=i),vA _ _ A];have R:∀b,g b->c' b≠i+1:=λb m=>by
  show @ite _ (g b) (Classical.propDecidable _) _ _≠_;rw[g0 m];omega
 refine aa.AH lo pp zz ax (L.mono λb m hn hc=>hn ⟨m,?_⟩) ⟨rs++[a],λb=>g b/\b<h.size,F.own,λb m=>?_,λb m=>⟨qR m.2 L.1,.inl ⟨m.2,(M b m.1).2⟩⟩,by simp[a4],λX r' l' u I=>?_⟩
 ·by_cases G:g b
  ·exact(M b G).2
  ·have o:@ite _ (g b) (Classical.propDecidable _) (i0 As+2) (c b)=i+1:=hc;rw[g9 G]at o;exact o
 ·have y:=F.bj b m;by_cases w:b<h.size
  ·rw[gx w]at y;have Q:¬g b:=λG=>R b G y;have o:@ite _ (g b) (Classical.propDecidable _) (i0 As+2) (c b)=i+1:=y;rw[g9 Q]at o;exact⟨⟨F.own.lt m,.inl ⟨w,o⟩⟩,λN=>Q N.1⟩
  ·exact⟨⟨F.own.lt m,.inr i5⟩,λN=>w N.2⟩
 ·have S:∀{Y:α} {l:β},E.p h g Y l->E.p h' (λb=>g b/\b<h.size) Y l:=λhs=>
   E.loc (E.mono hs (q':=λb=>g b/\b<h.size) λb m=>⟨m,(M b m).1⟩) (L.mono λb _ m=>R b m.1)
  by_cases V:X<i0 rs
  ·rw[qm V]at u;rw[qm i5]at I;exact S (a5 X r' l' u I)
  ·have:X=i0 rs:=by have:=(ql.1 u).1;simp at this;omega
   subst this;simp at u;rw[a4]at I;simp at I;subst u;subst I;exact S a6
theorem aa.afn{N:TI}(X:C.Ok)(H:aa B h0 h As)(i j:Nat)(y:i≠j){a:α}{b:β}(Q:As[i]?=dB (ck e s k f E ll))(hj:As[j]?=dB (EA E a b))(hw:∀x,i0 (f x)=k)(R:C.T.get t=dB N){x:Int}(n:Nat)(g:x=n)(hn:n<i0 ll){J:eX}(U:J.cells=(f a).toArray)(L:N.size=k)
  (I:(f a).all (·.oneCell')=eR) {K:f9->Prop} (hk:∀h',aa B h0 h' ((As.set j emp).set i (ck e s k f E (ll.set n b)))->K h'):
  ∃a:f7,(s.ptr=dB a/\0<=x/\x<((s.len:Nat):Int))/\aj C.P (qE t (.pointer (dB (a.add (x.toNat*k)))) J) h λ_ h'=>K h':=by
 have H2:=H.merge i j y Q hj (D:=⟨λh q=>∃(rs:List α) (m:ak),Own h e s k f rs/\(∀b,s.on b->q b/\¬m b)/\(∀b,m b->q b)/\rs.length=i0 ll/\(∀(i:Nat) r l,rs[i]?=dB r->ll[i]?=dB l->E.p h m r l)/\E.p h m a b,
  λ⟨rs,m,a,b,c,d,e,f⟩ hp=>⟨rs,m,a.ac hp λx g=>(b x g).1,b,c,d,λi r l o v=>E.loc (e i r l o v) (hp.mono λx _ g=>c x g),E.loc f (hp.mono λx _ g=>c x g)⟩,
  λ⟨rs,m,a,b,c,d,e,f⟩ hq=>⟨rs,m,a,λx g=>⟨hq x (b x g).1,(b x g).2⟩,λx g=>hq x (c x g),d,e,f⟩⟩)
  (λm S hd Z V=>by
   obtain⟨rs,q3,a,b,c,d,e'⟩:=Z;refine⟨rs,λb=>q3 b∨S b,a,λx g=>⟨.inl (b x g).1,λhh=>hh.elim (b x g).2 (hd x (b x g).1)⟩,λx g=>g.elim (λh=>.inl (c x h)) .inr,d,λi r l o v=>E.mono (e' i r l o v) λ_ h=>.inl h,E.mono V λ_ h=>.inr h⟩)
 have M:i<i0 As:=(ql.1 Q).1;obtain⟨Y,W,c,zz,ax⟩:=H2;have ha:=ax i _ (by rw[zw (Ne.symm y),ze M]);obtain⟨rs,m,a1,G,a3,a4,a5,a6⟩:=ha;refine a1.set X hw R n g i5 a U L I λh' z w _=>hk h' ?_;rw[vA _ _ (Ne.symm y)];rw[<-yu (l:=As) (i:=i),vA _ _ y];have keep:∀{O:α} {l:β},E.p h m O l->E.p h' m O l:=λhs=>E.loc hs (w.mono λb _ u F=>(G b F).2 u);refine aa.AH Y W zz ax (w.mono λb _ u F=>u (G b F).1) ⟨rs.set n a,m,z,λb u=>⟨⟨qR (G b u).1.1 w.1,.inl (G b u).1⟩,(G b u).2⟩,λb u=>⟨qR (a3 b u).1 w.1,.inl (a3 b u)⟩,by simp[a4],λi' r' l' o v=>?_⟩;rw[qV]at o v;split at o
 ·rename_i A;rw[g0 A]at v;split at o
  ·injection o with o;subst o
   have e:l'=b:=by rw[g0 i5]at v;exact(zQ.inj v).symm
   subst e;exact keep a6
  ·cases o
 ·rename_i A;rw[g9 A]at v;exact keep (a5 i' r' l' o v)
end
section
variable {E:iF α β} {e:Nat} {B:ak}
theorem aa.acY(H:aa B h0 h As)(i j:Nat)(g:i≠j){a:α}{b:β}(v:As[i]?=dB (an e s k f [a]))(u:As[j]?=dB (EA E a b)):aa B h0 h ((As.set i (ck e s k f E [b])).set j emp):=
 H.merge i j g v u λw o t c p=>⟨[a],o,c.1,λx m=>⟨.inl (c.2 x m),t x (c.2 x m)⟩,λ_ q=>.inr q,i4,λi r l d n=>by
  cases i with
  |succ i=>simp at d
  |zero=>simp at d n;subst d;subst n;exact p⟩
theorem aa.uu{α:Type}{f:α->aR}{l:List α}(H:aa B h0 h As)(i:Nat)(b:As[i]?=dB (an e s k f l))(c:∀x,i0 (f x)=k):aa B h0 h (As.set i (EA (cw k f) s l)):=H.fM i b λ_ a=>a.1.seq c a.2
end
variable {e2:Nat}
section
variable {B:ak} {e:Nat}
theorem aa.abi(H:aa B h0 h (As++(an e s 1 bi rs::bt e2 k f rs ll)))(A:i0 rs=i0 ll)(G:∀x,i0 (f x)=k)(n:Nat)(J:n<=i0 ll):aa B h0 h (As++[ck e ⟨s.ptr,n,s.cap⟩ 1 bi (cw k f) (ll.take n)]):=by
 classical
 obtain⟨D,p,c,z,a⟩:=H;refine⟨D,p,λb=>if c b>i0 As then As.length+1 else c b,λb d=>?_,λj X g=>?_⟩
 ·have:=z b d;dsimp only;rw[g9 i5];exact this
 ·by_cases m:j<i0 As
  ·rw[qm m]at g;refine X.mono (a j X (by rw[qm m];exact g)) λb d=>⟨d.1,?_⟩
   dsimp only;rw[g9 i5];exact d.2
  ·rw[qi i5]at g;have u:j=i0 As:=by have:=(ql.1 g).1;simp at this;omega
   subst u;simp at g;subst g;have w:=a As.length (an e s 1 bi rs) (by rw[qi (qk _)];simp);refine⟨rs.take n,λb=>b<h.size/\c b>i0 As+1,w.1.cut (λ_=>rfl) n i5,λb d=>?_,λb d=>?_,by simp[A],λi r l o h3=>?_⟩
   ·have t:=w.2 b d;refine⟨⟨t.1,?_⟩,λK=>i5⟩;dsimp only;rw[g0 i5]
   ·refine⟨d.1,?_⟩;dsimp only;rw[g0 i5]
   ·rw[vf]at o h3;split at o
    ·rename_i v;rw[g0 v]at h3;have y:i<i0 ll:=(ql.1 h3).1;have E:=fU (e:=e2) (k:=k) (f:=f) A i y;have q:=a (i0 As+(i+1)) _ (by rw[qi i5];simpa using E);have F:rs[i]'(by omega)=r:=by rw[qc i5]at o;simpa using o
     have I:ll[i]=l:=by rw[qc y]at h3;simpa using h3
     rw[F,I]at q;exact q.1.seq G λb d=>⟨(q.2 b d).1,by have:=(q.2 b d).2;omega⟩
    ·cases o
theorem aa.Lf{s:Sl}{a:List (List α)}(H:aa B h0 h As)(i:Nat)(b:As[i]?=dB (gn e s k f a)):aa B h0 h (As.set i (ck e s 1 bi (cw k f) a)):=H.fM i b λ_ c=>c
end
theorem Jw{h h':f9}{p:ak}(a:aP p h h'):∀{L:bH},L.ok h->(∀x∈L,p x.1.block)->L.ok h'
 |[],_,_=>trivial
 |x::L,hk,hq=>⟨a.cell (hq x jj) hk.1,Jw a hk.2 λy b=>hq y n5⟩
theorem lh{h h':f9}(d:aP (λb=>b<h.size) h h'){L:bH}(c:L.ok h):L.ok h':=Jw d c (by
 clear d
 induction L with
 |nil=>intro x a;cases a
 |cons y L ih=>
  intro x a;rcases qX.1 a with rfl|a
  ·exact sf c.1
  ·exact ih c.2 x a)
theorem bG.both{P:Program}{s:Sem eX}{h:f9}{K:Sl->f9->Prop}{Q:f9->Prop}(f:bG P s (.one (.sc .slc)) h λ_ h'=>Q h')(i:bG P s (.one (.sc .slc)) h K):bG P s (.one (.sc .slc)) h λx h'=>Q h'/\K x h':=by intro w b;obtain⟨n,k,c,e,j,a3,a4⟩:=f w b;obtain⟨m,o,a,l,x2,g,d⟩:=i w b;rw[c]at a;cases a;exact⟨_,_,c,e,x2,g,a4,d⟩
theorem aa.nN{α:Type}{B:ak}{C:Ctx}{p h:f9}{As:List HP}{e t k d:Nat}{z:aR}{K:Sl->f9->Prop}(j:C.Ok)(H:aa B p h As)(f:α->aR)(g:bO C.toxZ t e k z d)(c:i0 z=k){n:Nat}{parts:Array (Nat×eX)}(l:List α)(m:i0 l=n)(b:n*k<=2^20)
  (a:wE (λi=>dB (i*k,k)) (iE z n).toArray parts.toList=dB (l.flatMap f).toArray) {L:bH} (r:L.ok h) (q:bG C.P (zG t n parts) (.one (.sc .slc)) h K):
  bG C.P (zG t n parts) (.one (.sc .slc)) h λx h'=>L.ok h'/\K x h':=
 bG.both ((Sp.refl h).lit j f g c l m b a λ_ _ o=>lh o.ac r) q
section
variable {B:ak} {Bs:List HP} {A:HP} {i:Nat}
theorem aa.front(H:aa B h0 h (As++Bs)):aa B h0 h (Bs++As):=
 H.pick (λj=>if j<i0 Bs then As.length+j else if j<i0 Bs+i0 As then j-i0 Bs else j)
  (λa b c=>by(try dsimp only at c);split at c<;>split at c<;>(try split at c)<;>(try split at c)<;>omega) λj X e=>by
  try dsimp only
  split
  ·rename_i d;rw[qm d]at e;rw[qi i5,zk];exact e
  ·rename_i d;rw[qi i5]at e;have:=(ql.1 e).1;rw[g0 i5,qm this];exact e
theorem aa.aY(H:aa B h0 h (As++[A])):aa B h0 h (A::As):=H.front
theorem aa.bR(H:aa B h0 h As)(R:Sp h h' [A]):aa B h0 h' (A::As):=(H.comp R).aY
theorem aa.nr(H:aa B h0 h (A::As)):aa B h0 h As:=H.rest
theorem aa.om(H:aa B h0 h (A::D::As)):aa B h0 h (A::As):=H.del 1
theorem aa.pR{ι:Type}{F:ι->HP}(H:aa B h0 h (HP.ex F::As)):∃x,aa B h0 h (F x::As):=H.RO 0 i4
theorem aa.td{ι:Type}{F:ι->HP}(x:ι)(H:aa B h0 h (F x::As)):aa B h0 h (HP.ex F::As):=H.close' 0 x i4
theorem aa.rn(H:aa B h0 h (A.sep D::As)):aa B h0 h (D::A::As):=(H.split 0 i4).aY
theorem aa.lq(H:aa B h0 h (D::A::As)):aa B h0 h (A.sep D::As):=by have a:aa B h0 h (emp::A.sep D::As):=H.join 1 0 i6 i4 i4;exact a.rest
theorem aa.nf(H:aa B h0 h (A::D::As)):aa B h0 h (D::A::As):=H.aai 0 1 i4 i4
end
theorem Seq.lr{h:f9}{p:ak}{s:Sl}{rs:List Sl}(c:Seq h p s 1 bi rs){i:Int}(n:Nat)(d:i=n)(b:n<i0 rs){K:Sl->Prop}(e:K rs[n]):
  ∃a:f7,(s.ptr=dB a/\0<=i/\i<((s.len:Nat):Int))/\∃x:Sl,f8 h (a.add (i.toNat*1))=dB (.slice x.ptr x.len x.cap)/\K x:=
 c.bo (g:=λr:Sl=>Value.slice r.ptr r.len r.cap) n d b rs[n] i4 e
def St(B:ak)(a:f9)(As:List HP)(Q:f9->Prop):Prop:=∀(Bs:List HP) (h':f9),aa B a h' (Bs++As)->Q h'
variable {Q:f9->Prop}
section
variable {B:ak} {Bs:List HP} {A:HP}
theorem St.at(x:St B h0 As Q)(Bs:List HP)(H:aa B h0 h (Bs++As)):Q h:=x Bs h H
theorem St.base(b:Q h0)(a:∀h',aP B h0 h'->Q h'):St B h0 As Q:=λ_ _ H=>a _ H.ac
theorem St.ee(j:Nat)(c:As[j]?=dB A)(a:∀h',A.p h' (λb=>b<h'.size)->Q h'):St B h0 As Q:=λBs h' H=>a _ (H.at (i0 Bs+j) (by rw[qi i5,zk];exact c))
theorem St.cons(x:St B h0 As Q):St B h0 (A::As) Q:=λBs h' H=>x (Bs++[A]) h' (by rw[qn];exact H)
end
section
variable {E:iF Sl β} {ll:List β}
theorem bD.afo(x:(bD E 1 bi).p h q s ll){i:Int}(n:Nat)(k:i=n)(g:n<i0 ll){K:Sl->Prop}(l:∀(a:f7) (r:Sl),s.ptr=dB a->f8 h (a.add (n*1))=dB (.slice r.ptr r.len r.cap)->E.p h q r ll[n]->K r):
  ∃a:f7,(s.ptr=dB a/\0<=i/\i<((s.len:Nat):Int))/\∃x:Sl,f8 h (a.add (i.toNat*1))=dB (.slice x.ptr x.len x.cap)/\K x:=by
 subst k;obtain⟨rs,f,m,h3⟩:=bD.kg x;obtain⟨b,o,e,e2,j⟩:=f.elem n (rs[n]'(by omega)) (qc i5);have c:=j.1;rw[add_eq,wJ]at c;have d:f8 h ((⟨b,o,eH⟩:f7).add (n*1))=dB (.slice (rs[n]'(by omega)).ptr (rs[n]'(by omega)).len (rs[n]'(by omega)).cap):=by rw[add_eq];exact c
 refine⟨_,⟨e,i5,by rw[f.len];omega⟩,rs[n]'(by omega),by rw[qj];exact d,l _ _ e d (h3 n i5 g)⟩
theorem bD.pick(x:(bD E 1 bi).p h q s ll)(n:Nat)(i:n<i0 ll){a:f7}{r:Sl}(l:s.ptr=dB a)(g:f8 h (a.add (n*1))=dB (.slice r.ptr r.len r.cap)):E.p h q r ll[n]:=by
 obtain⟨rs,j,w,h3⟩:=bD.kg x;obtain⟨b,o,d,e2,k⟩:=j.elem n (rs[n]'(by omega)) (qc i5);rw[l]at d;injection d with d
 subst d;have e:=k.1;rw[add_eq,wJ]at e;have c:f8 h ((⟨b,o,eH⟩:f7).add (n*1))=dB (.slice (rs[n]'(by omega)).ptr (rs[n]'(by omega)).len (rs[n]'(by omega)).cap):=by rw[add_eq];exact e
 rw[g]at c;have f:=h3 n i5 i;generalize rs[n]'(by omega)=r' at c f;obtain⟨t,l1,m⟩:=r;obtain⟨v,l2,u⟩:=r';simp at c;obtain⟨rfl,rfl,rfl⟩:=c;exact f
end
theorem Cp{α:Type}{l:List α}(f:l.Nodup){a b:Nat}(e:a<i0 l)(d:b<i0 l)(h:l[a]=l[b]):a=b:=by
 have c:=zj.1 f;rcases yd a b with hlt|he|hgt
 ·exact absurd h (c a b e d hlt)
 ·exact he
 ·exact absurd h.symm (c b a d e hgt)
theorem aa.bX{B:ak}{k h:f9}{As:List HP}(H:aa B k h As)(L:List Nat)(g:∀j∈L,j<i0 As:=by simp)(m:L.Nodup:=by decide):aa B k h (L.map λj=>As.getD j emp):=by
 refine H.pick (λi=>if h:i<i0 L then L[i]else As.length+i) (λa b c=>?_) λi A2 e=>?_
 ·try dsimp only at c
  split at c<;>split at c
  ·exact Cp m _ _ c
  ·have:=g _ (qf (l:=L) (n:=a) n9);omega
  ·have:=g _ (qf (l:=L) (n:=b) n9);omega
  ·omega
 ·try dsimp only
  rw[qO]at e;split
  ·rename_i d;rw[qc d]at e;have f:=g _ (qf d);simp only[qS,zQ.injEq]at e;rw[<-e,qd,qc f];rfl
  ·rename_i d;rw[qM i5]at e;simp at e
theorem St.mk'{B:ak}{a:f9}{As:List HP}{Q:f9->Prop}(x:∀h',aa B a h' As->Q h'):St B a As Q:=λBs h' H=>x h' (H.take Bs.length λi A b=>by
 rw[qi i5,zk];exact b)
theorem St.here{B:ak}{a h:f9}{As:List HP}{Q:f9->Prop}(x:St B a As Q)(H:aa B a h As):Q h:=x [] h H
theorem St.mono{B:ak}{a:f9}{As:List HP}{Q b:f9->Prop}(x:St B a As Q)(c:∀h,Q h->b h):St B a As b:=λBs h' H=>c _ (x Bs h' H)
theorem aa.aK{B:ak}{m h:f9}{As:List HP}(H:aa B m h As)(k:Nat)(L:List Nat)(p:k<=i0 As:=by simp)(f:∀j∈L,j<k:=by simp)(o:L.Nodup:=by decide):aa B m h (L.map (λj=>As.getD j emp)++As.drop k):=by
 refine H.pick (λi=>if h:i<i0 L then L[i]else k+(i-i0 L)) (λa b d=>?_) λi A2 e=>?_
 ·try dsimp only at d
  split at d<;>split at d
  ·exact Cp o _ _ d
  ·have:=f _ (qf (l:=L) (n:=a) n9);omega
  ·have:=f _ (qf (l:=L) (n:=b) n9);omega
  ·omega
 ·try dsimp only
  by_cases c:i<i0 L
  ·rw[dif_pos c];rw[qm pa,qO,qc c]at e;have g:=f _ (qf c);simp only[qS,zQ.injEq]at e;rw[<-e,qd,qc i5];rfl
  ·rw[dif_neg c];rw[qi pa,qy,wO]at e;exact e
section
variable {E:iF α β} {C:Ctx} {e:Nat} {B:ak} {rs:List α} {ll:List β}
def Fix(E:iF α β)(k:Nat)(f:α->aR)(h:f9)(q:ak)(s:Sl)(rs:List α)(a:List β):Prop:=Seq h q s k f rs/\rs.length=i0 a/\∀(i:Nat) r l,rs[i]?=dB r->a[i]?=dB l->E.p h q r l
theorem Fix.ac(x:Fix E k f h q s rs ll)(a:aP q h h'):Fix E k f h' q s rs ll:=⟨x.1.ac a,x.2.1,λi r l c b=>E.loc (x.2.2 i r l c b) a⟩
theorem Fix.mono{q':ak}(x:Fix E k f h q s rs ll)(a:∀b,q b->q' b):Fix E k f h q' s rs ll:=⟨x.1.mono a,x.2.1,λi r l d c=>E.mono (x.2.2 i r l d c) a⟩
abbrev ng(E:iF α β)(k:Nat)(f:α->aR)(h:f9)(s:Sl)(rs:List α)(a:List β):Prop:=Fix E k f h (λb=>b<h.size) s rs a
theorem ng.up(x:ng E k f h s rs ll)(a:aP (λb=>b<h.size) h h'):ng E k f h' s rs ll:=(Fix.ac x a).mono λ_ c=>qR c a.1
theorem Fix.row(x:Fix E k f h q s rs ll){i:Nat}(a:i<i0 ll):E.p h q (rs[i]'(by rw[x.2.1];exact a)) ll[i]:=x.2.2 i _ _ (qc _) (qc _)
theorem bD.fix(x:(bD E k f).p h q s ll):∃rs,Fix E k f h q s rs ll:=x
theorem Fix.elt(x:Fix E k f h q s rs ll):(bD E k f).p h q s ll:=⟨rs,x⟩
def cJ(E:iF α β)(k:Nat)(f:α->aR)(s:Sl)(rs:List α)(b:List β):HP:=⟨λh q=>Fix E k f h q s rs b,λx a=>x.ac a,λx c=>x.mono c⟩
theorem aa.IB(H:aa B h0 h As)(i:Nat)(j:As[i]?=dB (ck e s k f E ll))(p:∀x,i0 (f x)=k):∃rs,aa B h0 h (As.set i (cJ E k f s rs ll)):=by
 have g:i<i0 As:=(ql.1 j).1;have t:aa B h0 h (As.set i (HP.ex λrs=>cJ E k f s rs ll)):=H.fM i j λq ⟨rs,v,a,b,c,d,e⟩=>⟨rs,a.seq p λx n=>(b x n).1,d,λi r l o u=>E.mono (e i r l o u) c⟩
 obtain⟨rs,m⟩:=t.RO i (ze g);exact⟨rs,by rw[yu]at m;exact m⟩
theorem aa.eu(H:aa B h0 h As)(i:Nat)(a:As[i]?=dB (cJ E k f s rs ll)):ng E k f h s rs ll:=H.at i a
theorem aa.Cq(f:C.Ok)(H:aa B h0 h As)(d:C.T.get t=dB ti){K:f7->f9->Prop}(e:∀a h',aP (λb=>b<h.size) h h'->aa B h0 h' (As++[av a t ti.zero])->K a h'):
  oh C.P (w7 t eR (.tuple #[])) h K:=
 ur f d λa h' x y c _=>e a h' (c.mono λ_ _ _=>trivial) (H.comp (Iz x y c))
theorem aa.Lg(r:C.Ok)(H:aa B h0 h As)(f:α->aR)(q:bO C.toxZ t e k z by_)(l:0<by_/\by_<=128)(g:α)(u:f g=z)(j:i0 z=k){E v:IntKind}{n o:Int}(m c:Nat)(A:n=m)(s:o=c)(d:m<=c)(i:c<=2^32)
  {K:Sl->f9->Prop} (D:∀a h',a.len=m->aP (λb=>b<h.size) h h'->aa B h0 h' (As++[an e a k f (qh m g)])->K a h'):
  bG C.P (zt t (.int E n) (.int v o)) (.one (.sc .slc)) h K:=
 run_make r q l g u j m c A s d i λa h' x y w p _=>D a h' (by rw[x.len];simp) (p.mono λ_ _ _=>trivial) (H.comp (Iy i4 x y p))
end
section
variable {C:Ctx} {B:ak} {e:Nat}
theorem Own.XT(D:C.Ok)(r:Own h e s k f l)(A:∀x,i0 (f x)=k)(G:C.T.get t=dB i){x:Int}(n:Nat)(F:x=n)(v:n<i0 l)(j:Nat)(vs:aR)(M:j+i0 vs<=k){q:eX}(y:α)(B:q.cells=vs.toArray)(u:i.size=i0 vs)
  (p:vs.all (·.oneCell')=eR) (J:f y=(f l[n]).take j++vs++(f l[n]).drop (j+i0 vs)) {K:f9->Prop} (H:∀h',Own h' e s k f (l.set n y)->aP (λb=>¬s.on b) h h'->K h'):
  ∃a:f7,(s.ptr=dB a/\0<=x/\x<((s.len:Nat):Int))/\aj C.P (qE t (.pointer (dB ((a.add (x.toNat*k)).add j))) q) h λ_ h'=>K h':=by
 subst F;rcases r.head with⟨_,_,h3⟩|⟨b,rest,h1,h2,h3,h4⟩
 ·subst h3;simp at v
 ·refine⟨_,⟨h1,i5,by rw[r.len];omega⟩,?_⟩;unfold qE;refine aj.bind (aj.pure' ?_);unfold storeVar;refine aj.bind (aj.always (dT D.toOk G) ?_);rw[B,u];simp only[yc,ne_eq,not_true,if_false];rw[add_eq,add_eq,we,qj];have g:l=l.take n++l[n]::l.drop (n+1):=by rw[<-qI v,qB]
  have o:l.set n y=l.take n++y::l.drop (n+1):=ya.trans (g0 v);have m:i0 ((l.take n).flatMap f)=n*k:=by rw[ez A,qP,yj i5]
  have I:=A l[n];have d:f l[n]=(f l[n]).take j++((f l[n]).drop j).take vs.length++(f l[n]).drop (j+i0 vs):=by rw[qn,<-zE,qB,qB]
  refine fV (e:=e) (pre:=(l.take n).flatMap f++(f l[n]).take j) (old:=((f l[n]).drop j).take vs.length) (post:=(f l[n]).drop (j+i0 vs)++((l.drop (n+1)).flatMap f++rest)) ?_ ?_ ?_ ?_ ?_
  ·have:l.flatMap f++rest=(l.take n).flatMap f++(f l[n]).take j++((f l[n]).drop j).take vs.length++((f l[n]).drop (j+i0 vs)++((l.drop (n+1)).flatMap f++rest)):=by
    have w:=congrArg (List.flatMap f) g;rw[zf,zd]at w;rw[w];generalize f l[n]=z at d;rw[qn]at d;simp only[qn];congr 1
    conv=>lhs;rw[d]
    simp only[qn]
   rw[<-this];exact h2
  ·simp;omega
  ·rw[qp,m,qP];omega
  ·intro c E;exact qK.1 p c E
  ·refine H _ ⟨by rw[q9];exact r.len,.inr ⟨b,rest,h1,?_,h3,h4⟩⟩ (aP.jb h2 λL=>L ⟨0,h1⟩);rw[iQ h2,g0 i4,o,zf,zd,J];simp[qn]
theorem aa.XT(p:C.Ok)(H:aa B h0 h As)(g:Nat)(b:As[g]?=dB (an e s k f l))(r:∀x,i0 (f x)=k)(A:C.T.get t=dB i){x:Int}(n:Nat)(q:x=n)(v:n<i0 l)(j:Nat)(vs:aR)(u:j+i0 vs<=k){d:eX}(y:α)(o:d.cells=vs.toArray)(m:i.size=i0 vs)
  (c:vs.all (·.oneCell')=eR) (E:f y=(f l[n]).take j++vs++(f l[n]).drop (j+i0 vs)) {K:f9->Prop} (D:∀h',aa B h0 h' (As.set g (an e s k f (l.set n y)))->K h'):
  ∃a:f7,(s.ptr=dB a/\0<=x/\x<((s.len:Nat):Int))/\aj C.P (qE t (.pointer (dB ((a.add (x.toNat*k)).add j))) d) h λ_ h'=>K h':=
 (H.own g b).XT p r A n q v j vs u y o m c E λh' z w=>D h' (H.mK g b w z)
end
def HP.all:List HP->HP
 |[]=>emp
 |A::L=>A.sep (HP.all L)
variable {L:List HP}
section
variable {B:ak} {A:HP}
theorem aa.nO:∀{L:List HP} {As:List HP},aa B h0 h (HP.all L::As)->aa B h0 h (L++As)
 |[],_,H=>H.rest
 |A::L,As,H=>by
  have g:aa B h0 h (HP.all L::A::As):=H.rn;have e:=aa.nO g;exact e.pick (λi=>if i=0 then L.length else if i<=i0 L then i-1 else i) (λa b c=>by(try dsimp only at c);split at c<;>split at c<;>(try split at c)<;>(try split at c)<;>omega) λi X d=>by
   try dsimp only
   rw[zp]at d;cases i with
   |zero=>simp at d;subst d;rw[g0 i4,qi (qk _),qZ];rfl
   |succ i=>
    rw[qq]at d;rw[g9 i5];by_cases f:i<i0 L
    ·rw[qm f]at d;rw[g0 i5,qm i5];simpa using d
    ·rw[qi i5]at d;rw[g9 i5,qi i5];rw[show i+1-i0 L=(i-i0 L)+1 by omega,qq];exact d
theorem aa.closeAll:∀(L:List HP) {As:List HP},aa B h0 h (L++As)->aa B h0 h (HP.all L::As)
 |[],As,H=>((H.comp (.one (A:=emp) (aP.refl _ _) trivial)).aY:aa B h0 h (emp::As))
 |A::L,As,H=>by
  have g:aa B h0 h (L++(A::As)):=H.pick (λi=>if i<i0 L then i+1 else if i=i0 L then 0 else i) (λa b c=>by(try dsimp only at c);split at c<;>split at c<;>(try split at c)<;>(try split at c)<;>omega) λi X d=>by
   try dsimp only
   by_cases e:i<i0 L
   ·rw[qm e]at d;rw[g0 e,zp,qq,qm e];exact d
   ·rw[qi i5]at d;by_cases f:i=i0 L
    ·subst f;rw[qZ]at d;rw[g9 i5,g0 rfl];simpa using d
    ·rw[g9 e,g9 f,zp];obtain⟨j,rfl⟩:∃j,i=i0 L+(j+1):=⟨i-i0 L-1,i5⟩
     rw[zk,qq]at d;rw[show L.length+(j+1)=(i0 L+j)+1 by omega,qq,qi i5,zk];exact d
  exact(aa.closeAll L g).lq
theorem aa.Fp{P:Prop}(H:aa B h0 h (A.and P::As)):aa B h0 h (A::As)/\P:=⟨H.aaj 0 i4,H.fact 0 i4⟩
theorem aa.toFp{P:Prop}(H:aa B h0 h (A::As))(p:P):aa B h0 h (A.and P::As):=H.aeM 0 i4 p
end
def fo{α:Type}(e:TypeId)(s:Sl)(b:TypeId)(k:Nat)(f:α->aR)(a:List (List α)):HP:=
 HP.ex λrs:List Sl=>(HP.all (an e s 1 bi rs::bt b k f rs a)).and (i0 rs=i0 a)
section
variable {C:Ctx} {B:ak} {e:Nat}
theorem aa.AI(H:aa B h0 h (fo e s e2 k f ll::As)):∃rs:List Sl,i0 rs=i0 ll/\aa B h0 h ((an e s 1 bi rs::bt e2 k f rs ll)++As):=by obtain⟨rs,H⟩:=H.pR;obtain⟨H,a⟩:=H.Fp;exact⟨rs,a,H.nO⟩
theorem aa.Ct{rs:List Sl}(a:i0 rs=i0 ll)(H:aa B h0 h ((an e s 1 bi rs::bt e2 k f rs ll)++As)):aa B h0 h (fo e s e2 k f ll::As):=
 ((aa.closeAll _ H).toFp a).td (F:=λrs:List Sl=>(HP.all (an e s 1 bi rs::bt e2 k f rs ll)).and (i0 rs=i0 ll)) rs
theorem aa.te(H:aa B h0 h As)(e a k:Nat)(f:α->aR):aa B h0 h (fo e ⟨eH,0,0⟩ a k f []::As):=
 aa.Ct (rs:=[]) i4 ((H.nil e 1 bi).aY)
theorem aa.nB{Bs:List HP}(H:aa B h0 h (As++Bs)):aa B h0 h As:=H.pick id (λ_ _ h=>h) λi A a=>by
 rw[id,qm (ql.1 a).1];exact a
theorem aa.BJ(H:aa B h0 h (fo e s e2 k f ll::As))(b:∀x,i0 (f x)=k):fA h s k f ll:=by obtain⟨rs,a,H⟩:=H.AI;exact aa.LQ (aa.nB H) a b
theorem aa.th(H:aa B h0 h (fo e s e2 k f ll::As)):s.len=i0 ll/\s.len<=s.cap:=by obtain⟨rs,a,H⟩:=H.AI;exact⟨by rw[(H.own 0 i4).len,a],(H.own 0 i4).cap⟩
theorem aa.AJ(g:C.Ok){r:Sl}{x:List α}(H:aa B h0 h (fo e s e2 k f ll::an e2 r k f x::As))(d:bO C.toxZ t e 1 [.slice eH 0 0] 24)(i:i0 ll+1<=2^32){ty:Nat}{K:Sl->f9->Prop}
  (m:∀a h',aa B h0 h' (fo e a e2 k f (ll++[x])::As)->K a h'):
  bG C.P (zG t 1 #[(0,.slice r.ptr r.len r.cap)]) (.one (.sc .slc)) h λv l=>bG C.P (zD #[t,t] ty #[.slice s.ptr s.len s.cap,.slice v.ptr v.len v.cap]) (.one (.sc .slc)) l K:=by
 obtain⟨rs,c,H⟩:=H.AI;refine H.push g 0 i4 d i4 i6 (λ_=>rfl) jG r i4 i6 i5 λa h' b=>m a h' ?_;refine aa.Ct (rs:=rs++[r]) l5 ?_;rw[ta c];have b:aa B h0 h' (an e a 1 bi (rs++[r])::(bt e2 k f rs ll++an e2 r k f x::As)):=b;have j:an e a 1 bi (rs++[r])::(bt e2 k f rs ll++[an e2 r k f x])++As=an e a 1 bi (rs++[r])::(bt e2 k f rs ll++an e2 r k f x::As):=jj
 rw[j];exact b
end
namespace Gf
theorem XU{p:UInt8->Prop}(h:∀n,n<256->p (yH n))(a:UInt8):p a:=by
 have:=h a.toNat (UInt8.toNat_lt a)
 rwa [UInt8.ofNat_toNat]at this
def x2(a:UInt8):UInt8:=(a<<<1)^^^(if a&&&0x80=0 then 0 else 0x1b)
def x3(a:UInt8):UInt8:=x2 a^^^a
def pw:Nat->UInt8
 |0=>1
 |n+1=>x3 (pw n)
theorem abj(a b c:UInt8):(a^^^b)&&&c=(a&&&c)^^^(b&&&c):=by apply UInt8.toBitVec_inj.1;simp[UInt8.toBitVec_xor,UInt8.toBitVec_and];ext i hi;simp[Bool.and_xor_distrib_right]
theorem abk(a b:UInt8):(a^^^b)<<<1=(a<<<1)^^^(b<<<1):=by apply UInt8.toBitVec_inj.1;simp[UInt8.toBitVec_xor,UInt8.toBitVec_shiftLeft,BitVec.shiftLeft_xor_distrib]
theorem LR:∀a:UInt8,a&&&0x80=0∨a&&&0x80=0x80:=XU j4
theorem XV(a b c d:UInt8):(a^^^b)^^^(c^^^d)=(a^^^c)^^^(b^^^d):=by ac_rfl
theorem acZ(a b:UInt8):x2 (a^^^b)=x2 a^^^x2 b:=by
 unfold x2;rw[abj,abk];rcases LR a with ha|ha<;>rcases LR b with hb|hb<;>rw[ha,hb]
 ·simp
 ·simp[UInt8.xor_assoc]
 ·rw[XV];simp
 ·rw[XV];simp
theorem ada(a b:UInt8):x3 (a^^^b)=x3 a^^^x3 b:=by unfold x3;rw[acZ,XV]
def tj:Nat->UInt8->UInt8
 |0,a=>a
 |n+1,a=>x3 (tj n a)
theorem Qm(a b:UInt8):∀n,tj n (a^^^b)=tj n a^^^tj n b
 |0=>rfl
 |n+1=>by simp only[tj,Qm a b n,ada]
theorem IC(a:UInt8)(m:Nat):∀n,tj (n+m) a=tj n (tj m a)
 |0=>by simp[tj]
 |n+1=>by rw[Nat.add_right_comm];simp only[tj,IC a m n]
theorem LS:∀n,tj n 0=0
 |0=>rfl
 |n+1=>by rw[tj,LS n];rfl
theorem Ac:∀n,pw n=tj n 1
 |0=>rfl
 |n+1=>by rw[pw,tj,Ac n]
def afp:Nat:=939374623831894136699086600277250597547650664638770418422125146541797353646788332867483593573384618611044815625336497665827114626705134492515730415652478061620339993830966980270842846318821775850471098591710629241171812800746666233448222972174585295916389942636813666312872914849454985560152530477328703759683306625234997237483834721220409437442253146756845415190424543171129629468776480674528486868811725071010351012234056630775688111116293610821126543142160426617079940511630006820862697466582575257349116925728488930366609138264019883664906661504235885380294353134295748489096855100647154935187045898006656778240
def lg(a:UInt8):Nat:=(afp>>>(8*a.toNat))%256
theorem GC:∀a:UInt8,lg a<255:=XU j4
theorem RQ:∀a:UInt8,a≠0->pw (lg a)=a:=XU j4
theorem RR:∀n,n<255->lg (pw n)=n:=j4
theorem adb:pw 255=1:=j4
theorem RS:∀n,n<255->pw n≠0:=j4
theorem Uv(n:Nat):pw (n+255)=pw n:=by rw[Ac,IC,<-Ac 255,adb,<-Ac]
theorem Uw(n:Nat):pw (n%255)=pw n:=by
 have:∀k m,pw (m+255*k)=pw m:=by
  intro k
  induction k with
  |zero=>intro m;rfl
  |succ k ih=>intro m;rw[Nat.mul_succ,<-wY,Uv,ih]
 have h:=this (n/255) (n%255);rw[Nat.mod_add_div]at h;exact h.symm
def mul(a b:UInt8):UInt8:=if a=0∨b=0 then 0 else pw ((lg a+lg b)%255)
def inv(a:UInt8):UInt8:=if a=0 then 0 else pw ((255-lg a)%255)
theorem mul_zero(a:UInt8):mul a 0=0:=by simp[mul]
theorem zero_mul(a:UInt8):mul 0 a=0:=by simp[mul]
theorem mul_comm(a b:UInt8):mul a b=mul b a:=by
 unfold mul;rw[Nat.add_comm];by_cases h:a=0∨b=0
 ·rw[g0 h,g0 h.symm]
 ·rw[g9 h,g9 λx=>h x.symm]
theorem LU(a b:UInt8)(d:a≠0):mul a b=tj (lg a) b:=by
 by_cases c:b=0
 ·subst c;rw[mul_zero,LS]
 ·rw[mul,g9 (by simp[d,c]),Uw,Ac,IC,<-Ac,RQ b c]
theorem jY(a b c:UInt8):mul a (b^^^c)=mul a b^^^mul a c:=by
 by_cases d:a=0
 ·subst d;simp[zero_mul]
 ·rw[LU _ _ d,LU _ _ d,LU _ _ d,Qm]
theorem Qn(a b c:UInt8):mul (a^^^b) c=mul a c^^^mul b c:=by rw[mul_comm,jY,mul_comm c a,mul_comm c b]
theorem Ux{a b:UInt8}(d:a≠0)(c:b≠0):mul a b≠0:=by rw[mul,g9 (by simp[d,c])];exact RS _ (yK _ i6)
theorem Uy{a b:UInt8}(d:a≠0)(c:b≠0):lg (mul a b)=(lg a+lg b)%255:=by rw[mul,g9 (by simp[d,c]),RR _ (yK _ i6)]
theorem mul_assoc(a b c:UInt8):mul (mul a b) c=mul a (mul b c):=by
 by_cases f:a=0
 ·subst f;simp[zero_mul]
 by_cases d:b=0
 ·subst d;simp[zero_mul,mul_zero]
 by_cases e:c=0
 ·subst e;simp[mul_zero]
 rw[mul,g9 (by simp[Ux f d,e]),Uy f d,mul,g9 (by simp[f,Ux d e]),Uy d e];congr 1;omega
theorem adc:lg 1=0:=j4
theorem one_mul(a:UInt8):mul 1 a=a:=by
 by_cases b:a=0
 ·subst b;rfl
 ·rw[mul,g9 n5,adc,we,Uw,RQ a b]
theorem mul_one(a:UInt8):mul a 1=a:=by rw[mul_comm,one_mul]
theorem ade{a:UInt8}(b:a≠0):inv a≠0:=by rw[inv,g9 b];exact RS _ (yK _ i6)
theorem ID{a:UInt8}(b:a≠0):mul a (inv a)=1:=by
 have c:=GC a;rw[mul,g9 (by simp[b,ade b]),inv,g9 b,RR _ (yK _ i6)];have:(lg a+(255-lg a)%255)%255=0:=i5
 rw[this];rfl
end Gf
structure Pow where
 off:Bool
 fuse:Option Nat
 offs:Int
def Pow.new:Pow:=⟨eS,eH,0⟩
def Pow.step(w:Pow):Bool×Pow:=
 if w.off then(eS,w)else match w.fuse with
 |none=>(eR,w)
 |some 0=>(eS,⟨eR,dB 0,Go.IntKind.wrap .i64 (w.offs+1)⟩)
 |some (k+1)=>(eR,⟨eS,dB k,w.offs⟩)
structure aW where
 room:Nat
 l:bY
 wait:Nat
 laid:bY
 has:Bool
 lost:Bool
def aW.new(a:Nat):aW:=⟨a,[],0,[],eS,eS⟩
def aW.append(w:Pow)(d:aW)(b:aM):Int×Pow×aW:=
 if b.length≠64 then(1,w,d)
 else if d.lost then(5,w,d)
 else if d.room<=i0 d.l then(7,w,d)
 else if w.off then(14,w,d)
 else if w.step.1 then(0,w.step.2,{d with l:=d.l++[b],wait:=d.wait+1,laid:=[],has:=eS})
 else(14,w.step.2,{d with l:=d.l++[b],wait:=d.wait+1})
def aW.sync(w:Pow)(d:aW):Int×Pow×aW:=
 if d.lost then(5,w,d)
 else if w.step.1 then(0,w.step.2,{d with wait:=0,laid:=[],has:=eS})
 else(14,w.step.2,d)
def aW.rewrite(w:Pow)(d:aW)(l:bY):Int×Pow×aW:=
 if !l.all (λb=>decide (i0 b=64))then(1,w,d)
 else if d.lost then(5,w,d)
 else if d.room<i0 l then(7,w,d)
 else if w.off then(14,w,d)
 else if w.step.1 then(0,w.step.2,{d with l:=l,wait:=0,laid:=[],has:=eS})
 else(14,w.step.2,{d with laid:=l,has:=eR})
def aW.Cu(d:aW):aW:={d with lost:=eR,l:=[],wait:=0,laid:=[],has:=eS}
abbrev aC:=List (Option aW)
def aS(ds:aC)(slot:Int):Option aW:=if 0<=slot/\slot<64 then(ds[slot.toNat]?).join else eH
def bV(ds:aC)(slot:Int)(d:aW):aC:=ds.set slot.toNat (dB d)
def isLive(ds:aC)(slot:Int):Bool:=match aS ds slot with|some d=>!d.lost|none=>eS
def aN(ds:aC)(a:au):au:=a.filter (isLive ds)
def fQ(w:Pow)(ds:aC)(slot:Int)(b:aM):Int×Pow×aC:=
 match aS ds slot with
 |none=>(if b.length≠64 then 1 else 5,w,ds)
 |some d=>((d.append w b).1,(d.append w b).2.1,bV ds slot (d.append w b).2.2)
def gB(w:Pow)(ds:aC)(slot:Int):Int×Pow×aC:=
 match aS ds slot with
 |none=>(5,w,ds)
 |some d=>((d.sync w).1,(d.sync w).2.1,bV ds slot (d.sync w).2.2)
def kN:List (Int×aM)->Pow->aC->Int×Pow×aC
 |[],w,ds=>(0,w,ds)
 |x::l,w,ds=>let r:=fQ w ds x.1 x.2;if r.1=0 then kN l r.2.1 r.2.2 else r
def eI:au->Pow->aC->Int×Pow×aC
 |[],w,ds=>(0,w,ds)
 |x::l,w,ds=>let r:=gB w ds x;if r.1=0 then eI l r.2.1 r.2.2 else r
theorem si(x:Int)(l:au)(w:Pow)(ds:aC):eI (x::l) w ds=if(gB w ds x).1=0 then eI l (gB w ds x).2.1 (gB w ds x).2.2 else gB w ds x:=rfl
theorem tk(x:Int×aM)(l:List (Int×aM))(w:Pow)(ds:aC):kN (x::l) w ds=if(fQ w ds x.1 x.2).1=0 then kN l (fQ w ds x.1 x.2).2.1 (fQ w ds x.1 x.2).2.2 else fQ w ds x.1 x.2:=rfl
def cx(l:au):au:=((qt 64).map λi:Nat=>(i:Int)).filter λi=>decide (i∈l)
def layAll(l:List (Int×aM))(w:Pow)(ds:aC):Int×Pow×aC:=
 let r:=kN l w ds
 if r.1=0 then eI (cx (l.map qL)) r.2.1 r.2.2 else r
theorem Fq(l:au):l.flatMap az=l.map (Value.int .i64):=by
 induction l with
 |nil=>rfl
 |cons a t ih=>rw[zd,ih];rfl
theorem Jx{w:World}{e:TypeId}{b:Nat}{rest:aR}{l:au}(c:w.heap[b]?=dB (.cells (l.flatMap az++rest).toArray e (0,0))):Sort.Holds (Value.int .i64) w b 0 l.toArray:=by
 intro j d;have a:j<i0 l:=o4
 refine⟨?_,by simp[World.frozen?,c]⟩;rw[Fq]at c;have:(l.map (Value.int .i64)++rest)[j]?=dB (xz xF l[j]):=by rw[qm j9,qO,qc a];rfl
 simp[World.cell?,c,this,a]
theorem LV(l l':au)(rest:aR)(b:i0 l'=i0 l):Sort.putCells (Value.int .i64) 0 l'.toArray (l.flatMap az++rest).toArray=(l'.flatMap az++rest).toArray:=by
 rw[Fq,Fq];apply yJ;intro i;simp only[Sort.putCells,Array.getElem?_mapIdx,wb,yc,we,Nat.zero_le,true_and];by_cases a:i<i0 l
 ·rw[qm j9,qm i9];have c:i<i0 l':=i5
  simp[a,c]
 ·rw[qi i9,qi i9];simp only[qy,b];cases h:rest[i-i0 l]? with
  |none=>rfl
  |some x=>simp only[qS];rw[g9 a]
theorem LW{P:Program}{id:FuncId}(D:∀(eV off cap:Nat) (o:au) (w:World),Sort.Holds (Value.int .i64) w eV off o.toArray->eV<w.heap.size->i0 o<4611686018427387904->
   Calls P id #[.slice (dB ⟨eV,off,eH⟩) o.length cap] w λe j=>e=.returned (.tuple #[])/\∃n os,j=Sort.grow (Sort.putRow (Value.int .i64) (Sort.ahead w n) eV off (o.mergeSort λx y=>decide (x<=y)).toArray) os)
  (z:∀(p:bK) (cap:Nat) (w:World),Calls P id #[.slice p 0 cap] w λe j=>e=.returned (.tuple #[])/\j=w)
  {e:TypeId} {s:Sl} {l:au} {h:f9} (r:Own h e s 1 az l) (t:i0 l<2^40):
  ai P id #[.slice s.ptr s.len s.cap] h λv h'=>v=.tuple #[]/\Own h' e s 1 az (l.mergeSort λx y=>decide (x<=y))/\aP (λb=>¬s.on b) h h':=by
 intro w f;have a:=r.len;rcases r.head with⟨h1,h2,h3⟩|⟨b,rest,h1,h2,h3,h4⟩
 ·subst h3;rw[a,h1];refine(z eH s.cap w).mono ?_;rintro A j ⟨rfl,rfl⟩;have B:(([]:au).mergeSort λx y=>decide (x<=y))=[]:=jj
  exact⟨_,i4,cX.refl _,i4,by rw[B];exact⟨a,.inl ⟨h1,h2,i4⟩⟩,by rw[<-f];exact aP.refl _ _⟩
 ·rw[h1,a];have m:w.heap[b]?=dB (.cells (l.flatMap az++rest).toArray e (0,0)):=by rw[f];exact h2
  refine(D b 0 s.cap l w (Jx m) (lt_of_block m) i5).mono ?_;rintro A j ⟨rfl,n,os,rfl⟩;have i:=lt_of_block m;have g:i0 (l.mergeSort λx y=>decide (x<=y))=i0 l:=wF l;have c:∀k,k<h.size->(Sort.grow (Sort.putRow (Value.int .i64) (Sort.ahead w n) b 0 (l.mergeSort λx y=>decide (x<=y)).toArray) os).heap[k]?=if b=k then dB (.cells ((l.mergeSort λx y=>decide (x<=y)).flatMap az++rest).toArray e (0,0))else h[k]?:=by
   intro k q;rw[Sort.heap_grow_old _ _ (by simpa[Sort.putRow,Sort.mapBlock,Sort.ahead,f]using q)];simp only[Sort.putRow,Sort.mapBlock,Sort.ahead,ym];by_cases d:b=k
   ·subst d;rw[g0 i4,g0 i4,m,qS,Sort.onCells,LV _ _ _ g]
   ·rw[g9 d,g9 d,f]
  rw[f]at i;refine⟨_,i4,⟨i4,i4,i4,by simp[Sort.grow,Sort.putRow,Sort.mapBlock,Sort.ahead]⟩,i4,⟨by rw[g];exact a,.inr ⟨b,rest,h1,?_,h3,h4⟩⟩,?_,?_⟩
  ·rw[c b i,g0 rfl]
  ·simp[Sort.grow,Sort.putRow,Sort.mapBlock,Sort.ahead,f]
  ·intro k q u;rw[c k q,g9 λd=>u ⟨0,by rw[h1,d]⟩]
def bx(p:Int×Int×Int):Bool:=decide (p.1>=1)&&(decide (p.1<=16)&&(decide (p.2.1>=1)&&(decide (p.2.1<=4)&&(decide (p.2.2>=1)&&decide (p.2.2<=24)))))
theorem bN(p:Int×Int×Int):bx p=eR↔(1<=p.1/\p.1<=16)/\(1<=p.2.1/\p.2.1<=4)/\1<=p.2.2/\p.2.2<=24:=by simp[bx,and_assoc]
def bu(p:Int×Int×Int):Int:=if bx p then p.1+p.2.1 else 0
def rZ(s:Int):Int:=qe xI (qe xI (s*(6364136223846793005:Int))+(1442695040888963407:Int))
def told(s:Int):Int:=qe xH (zx (rZ s) (2^min (32:Int).toNat (qG xI)))
def lJ(s n:Int):Int:=qe xF (xq (qe xI (told s)) (qe xI n))
theorem wrap_u64(x:Int):qe xI x=x%18446744073709551616:=rfl
theorem wrap_u32(x:Int):qe xH x=x%4294967296:=rfl
theorem tl(s n:Int)(d:0<n:=by omega)(e:n<=2^62:=by omega):0<=lJ s n/\lJ s n<n:=by
 unfold lJ;have c:qe xI n=n:=o6
 rw[c];have b:0<=qe xI (told s):=o6
 have e2:=vF (qe xI (told s)) d;have a:0<=xq (qe xI (told s)) n:=Int.tmod_nonneg n b;rw[Qw.af _];exact⟨a,e2⟩
def kO(l:au)(i:Nat):Int:=l.getD i 0
def pS(l:au)(i j:Nat):au:=(l.set i (kO l j)).set j (kO l i)
theorem LX(l:au)(i j:Nat):i0 (pS l i j)=i0 l:=by simp[pS]
def go(n:Nat)(s:Int)(l:au):Nat->Int×au
 |0=>(s,l)
 |k+1=>(rZ (go n s l k).1,pS (go n s l k).2 k (k+(lJ (go n s l k).1 ((n-k:Nat):Int)).toNat))
theorem tm(n:Nat)(s:Int)(l:au):∀k,(go n s l k).2.length=i0 l
 |0=>rfl
 |k+1=>by rw[go,LX,tm n s l k]
theorem Fs{l:au}{i:Nat}(h:i<i0 l):kO l i∈l:=by rw[kO,qd,qc h];exact qf h
theorem XW{l:au}{i j:Nat}(b:i<i0 l)(c:j<i0 l){x:Int}(a:x∈pS l i j):x∈l:=by
 rcases zR a with h|h
 ·rcases zR h with h|h
  ·exact h
  ·rw[h];exact Fs c
 ·rw[h];exact Fs b
def upto(n:Nat):au:=(qt n).map λi:Nat=>(i:Int)
theorem gK(n:Nat):i0 (upto n)=n:=by simp[upto]
theorem Ft(n:Nat)(s:Int):∀k,k<=n->∀x∈(go n s (upto n) k).2,0<=x/\x<n
 |0,_,x,hx=>by
  simp only[go,upto,qo,qA]at hx;obtain⟨i,j,rfl⟩:=hx;omega
 |k+1,hk,x,hx=>by
  have f:k<n->n-k<=2^62->k+(lJ (go n s (upto n) k).1 ((n-k:Nat):Int)).toNat<n:=λm l=>by
   have:=tl (go n s (upto n) k).1 ((n-k:Nat):Int);omega
  have e:=tm n s (upto n) k;rw[gK]at e;by_cases b:n-k<=2^62
  ·refine Ft n s k i5 x (XW i5 ?_ hx);have:=f i5 b;omega
  ·--beyond any size:what is set is 0 or a member
   have c:∀y∈pS (go n s (upto n) k).2 k (k+(lJ (go n s (upto n) k).1 ((n-k:Nat):Int)).toNat),y∈(go n s (upto n) k).2∨y=0:=by
    intro y d;have g:∀i,kO (go n s (upto n) k).2 i∈(go n s (upto n) k).2∨kO (go n s (upto n) k).2 i=0:=λi=>by
     by_cases h:i<(go n s (upto n) k).2.length
     ·exact .inl (Fs h)
     ·right;simp only[kO,qd];rw[qM i5];rfl
    rcases zR d with h|h
    ·rcases zR h with h|h
     ·exact .inl h
     ·rw[h];exact g _
    ·rw[h];exact g _
   rcases c x hx with h|h
   ·exact Ft n s k i5 x h
   ·subst h;omega
def iA(l:au):au:=l.mergeSort λx y=>decide (x<=y)
theorem Cv(l:au):i0 (iA l)=i0 l:=wF l
theorem uv(l:au)(x:Int):x∈iA l↔x∈l:=List.mem_mergeSort
def AK(s:Int)(n k:Nat):au:=iA ((go n s (upto n) k).2.take k)
theorem XX{s:Int}{n k:Nat}(b:k<=n){x:Int}(a:x∈AK s n k):0<=x/\x<n:=
 Ft n s k b x (zN ((uv _ _).1 a))
theorem XY(s:Int)(n k:Nat)(a:k<=n):i0 (AK s n k)=k:=by rw[AK,Cv,qP,tm,gK];omega
def fB(l:Nat):Nat:=if l<=1 then l else if l<=4 then 2 else if l<=9 then 3 else if l<=16 then 4 else 5
def Eg(r:Nat):Nat:=if r=0 then 0 else if r=1 then 1 else if r<=3 then 2 else 3
def po(l k:Nat):Nat:=
 (if k>1 then 1048576/(k*(k-1))else 1048576/l)+
  (if k<l/fB l then 1048576*fB l/(l*k)else if k=l/fB l then 1048576*fB l*Eg (fB l)/l else 0)
def mi(l:Nat):Nat->Nat
 |0=>0
 |k+1=>mi l k+po l (k+1)
def jH(l:Nat):au:=(qt l).map λk=>((mi l (k+1):Nat):Int)
theorem lu(l:Nat):i0 (jH l)=l:=by simp[jH]
def RT(t:au)(x:Int):Nat:=(t.findIdx λy=>decide (y>x))+1
theorem GD:∀l,l<=20->∀k,k<=20->po l k<=2^30:=j4
theorem Eh(l:Nat)(a:l<=20):∀k,k<=20->mi l k<=k*2^30
 |0,_=>by simp[mi]
 |k+1,hk=>by
  have:=Eh l a k i5;have:=GD l a (k+1) hk;rw[mi];omega
theorem LY:∀l,l<=20->1<=l->0<mi l l:=j4
theorem GF(l:Nat)(h:1<=l):(jH l).getLast?=dB ((mi l l:Nat):Int):=by
 obtain⟨k,rfl⟩:∃k,l=k+1:=⟨l-1,i5⟩
 simp[jH,zL]
def ro(seed id:Int):Int:=qe xI (qe xH ((qN (qG xH) seed^^^(qN (qG xH) (qe xH ((qe xH id)*(2654435761:Int))))).toNat:Nat))
def uw(s:Int)(n:Nat):Nat:=RT (jH n) (lJ s (mi n n))
theorem tq(s:Int)(n:Nat)(b:1<=n)(a:n<=20):uw s n<=n:=by unfold uw RT;have e:=LY n a b;have c:=Eh n a n a;have d:=tl s (mi n n);have:=List.findIdx_lt_length_of_exists (p:=λy=>decide (y>lJ s (mi n n))) (xs:=jH n) ⟨_,List.mem_of_getLast? (GF n b),by simpa using d.2⟩;rw[lu]at this;omega
def bJ(id:Int):Bool:=decide (0<=id)&&decide (id<=65535)
def cW(n:Nat)(seed id:Int):au:=AK (rZ (rZ (ro seed id))) n (uw (rZ (ro seed id)) n)
theorem mj{n:Nat}(c:1<=n)(b:n<=20){seed id x:Int}(a:x∈cW n seed id):0<=x/\x<n:=XX (tq _ n c b) a
theorem ux{n:Nat}(b:1<=n)(a:n<=20)(seed id:Int):i0 (cW n seed id)<=n:=by rw[cW,XY _ _ _ (tq _ n b a)];exact tq _ n b a
def fW(n:Nat)(l:au):aM:=l.foldl (λr i=>r.set i.toNat 1) (qh n 0)
theorem pq(n:Nat)(l:au):i0 (fW n l)=n:=by
 have:∀(l:au) (r:aM),i0 (l.foldl (λr i=>r.set i.toNat 1) r)=i0 r:=by
  intro l
  induction l with
  |nil=>intro r;rfl
  |cons a t ih=>intro r;rw[zr,ih];simp
 rw[fW,this];simp
def mq(n:Nat)(seed id:Int):aM:=fW n (cW n seed id)
theorem LZ(n:Nat)(seed id:Int):i0 (mq n seed id)=n:=pq _ _
def lx(K H h:Nat):aM:=(qt K).map (λj=>Gf.pw ((h+1)*(j+1)%255))++(qt H).map λi=>if i=h then 1 else 0
def bn(K H:Nat):bY:=(qt H).map (lx K H)
theorem tu(K H h:Nat):i0 (lx K H h)=K+H:=by simp[lx]
def dE(p:Int×Int×Int)(seed:Int)(ids:au):bY:=
 if bx p then bn p.1.toNat p.2.1.toNat++(ids.filter bJ).map (mq (bu p).toNat seed)else[]
theorem nC{α:Type}{f:α->Bool}{l:List α}{k:Nat}(a:k<i0 l):(l.take (k+1)).filter f=if f l[k]then(l.take k).filter f++[l[k]]else(l.take k).filter f:=by rw[zF a,zg];by_cases h:f l[k]=eR<;>simp[h]
abbrev Row:=aM
abbrev aI:=List Row
def scaleB(c:UInt8)(l:Row):Row:=l.map (Gf.mul c)
def cK(c:UInt8)(a to:Row):Row:=za (λx y=>y^^^Gf.mul c x) a to
def aJ(r:Row)(bj:Nat):UInt8:=r.getD bj 0
def aA(m:aI)(i:Nat):Row:=m.getD i []
def iM(m:aI)(a bj:Nat):Option Nat:=(qt m.length).find? λi=>decide (a<=i)&&(aJ (aA m i) bj !=0)
def jc(m:aI)(i j:Nat):aI:=(m.set i (aA m j)).set j (aA m i)
def eZ(a bj:Nat)(m:aI)(k:Nat):aI:=m.mapIdx λi r=>if i<k/\i≠a then cK (aJ r bj) (aA m a) r else r
def jR(a bj:Nat)(m:aI):aI:=m.set a (scaleB (Gf.inv (aJ (aA m a) bj)) (aA m a))
def jd(s:Nat×aI)(bj:Nat):Nat×aI:=
 match iM s.2 s.1 bj with
 |none=>s
 |some i=>(s.1+1,eZ s.1 bj (jR s.1 bj (jc s.2 s.1 i)) s.2.length)
def bA(m:aI):Nat->Nat×aI
 |0=>(0,m)
 |c+1=>jd (bA m c) c
def eC(m:aI):Nat:=i0 (aA m 0)
def bL(m:aI):Nat:=(bA m (eC m)).1
def aQ(n:Nat)(m:aI):Prop:=∀r∈m,i0 r=n
theorem nP(c:UInt8)(l:Row):i0 (scaleB c l)=i0 l:=by simp[scaleB]
theorem bM{c:UInt8}{a t:Row}(h:i0 a=i0 t:=by omega):i0 (cK c a t)=i0 t:=by simp[cK,h]
theorem bm{m:aI}{i:Nat}(h:i<i0 m):aA m i=m[i]:=by rw[aA,qd,qc h];rfl
theorem ce{n:Nat}{m:aI}(h:aQ n m){i:Nat}(a:i<i0 m:=by omega):i0 (aA m i)=n:=by rw[bm a];exact h _ (qf a)
theorem Fu{n:Nat}{m:aI}(h:aQ n m){i:Nat}{r:Row}(b:i0 r=n):aQ n (m.set i r):=λx a=>by
 rcases zR a with h1|h1
 ·exact h x h1
 ·rw[h1];exact b
theorem RU{P:Nat->Bool}{n:Nat}(h:∀j,j<n->P j=eS):(qt n).find? P=eH:=by rw[z7];intro x a;rw[qA]at a;simp[h x a]
theorem RV{P:Nat->Bool}{n k:Nat}(e:k<n)(h:∀j,j<k->P j=eS)(c:P k=eR):(qt n).find? P=dB k:=by
 rw[List.find?_eq_some_iff_append];refine⟨c,qt k,List.range' (k+1) (n-k-1),?_,λa b=>?_⟩
 ·rw[yW,yW];have d:n=k+(n-k):=i5
  have e2:n-k=(n-k-1)+1:=i5
  conv=>lhs;rw[d,<-List.range'_append_1 (s:=0) (m:=k) (n:=n-k)]
  rw[we]
  conv=>lhs;rw[e2,List.range'_succ]
 ·rw[qA]at b;simp[h a b]
theorem pT{m:aI}{a bj i:Nat}(h:iM m a bj=dB i):a<=i/\i<i0 m/\aJ (aA m i) bj≠0:=by have b:=List.find?_some h;have c:=List.mem_of_find?_eq_some h;simp at b c;exact⟨b.1,c,b.2⟩
theorem Ov{m:aI}{a bj:Nat}(h:iM m a bj=eH):∀i,a<=i->i<i0 m->aJ (aA m i) bj=0:=λi c b=>by
 have:=z7.1 h i (qA.2 b);simpa[c]using this
theorem li(m:aI)(i j:Nat):i0 (jc m i j)=i0 m:=by simp[jc]
theorem Cw{n:Nat}{m:aI}(h:aQ n m){i j:Nat}(a:i<i0 m)(b:j<i0 m):aQ n (jc m i j):=Fu (Fu h (ce h b)) (ce h a)
theorem nD(t c:Nat)(m:aI):i0 (jR t c m)=i0 m:=by simp[jR]
theorem uy{n:Nat}{m:aI}(h:aQ n m){t c:Nat}(a:t<i0 m):aQ n (jR t c m):=Fu h (by rw[nP];exact ce h a)
theorem nE(t c:Nat)(m:aI)(k:Nat):i0 (eZ t c m k)=i0 m:=by simp[eZ]
theorem uz{n:Nat}{m:aI}(h:aQ n m){t c k:Nat}(b:t<i0 m):aQ n (eZ t c m k):=λx d=>by
 obtain⟨i,e,rfl⟩:=List.mem_mapIdx.1 d;have a:=h _ (qf e);split
 ·rw[bM (by rw[ce h b,a])];exact a
 ·exact a
theorem Uz(t c:Nat)(m:aI):eZ t c m 0=m:=by apply zy;intro i;simp[eZ,vn]
theorem pr{t c k:Nat}{m:aI}{i:Nat}(a:i<i0 m):aA (eZ t c m k) i=if i<k/\i≠t then cK (aJ (aA m i) c) (aA m t) (aA m i)else aA m i:=by rw[bm (by rw[nE];exact a),bm a];simp[eZ]
theorem UA{t c k:Nat}{m:aI}(d:k<i0 m)(b:k≠t):eZ t c m (k+1)=(eZ t c m k).set k (cK (aJ (aA m k) c) (aA m t) (aA m k)):=by
 apply zy;intro i;simp only[eZ,qV,vn,List.length_mapIdx];by_cases a:k=i
 ·subst a;simp only[if_true,d,qc d,qS];rw[g0 ⟨i5,b⟩,bm d]
 ·rw[g9 a];congr 1;funext r;by_cases h:i<k/\i≠t
  ·rw[g0 h,g0 ⟨i5,h.2⟩]
  ·rw[g9 h,g9 λe=>h ⟨i5,e.2⟩]
theorem UB{t c:Nat}{m:aI}:eZ t c m (t+1)=eZ t c m t:=by
 apply zy;intro i;simp only[eZ,vn];congr 1;funext r;by_cases h:i<t/\i≠t
 ·rw[g0 h,g0 ⟨i5,h.2⟩]
 ·rw[g9 h,g9 λa=>h ⟨i5,a.2⟩]
theorem UC{n:Nat}{s:Nat×aI}(h:aQ n s.2)(bj:Nat):aQ n (jd s bj).2/\(jd s bj).2.length=i0 s.2:=by
 unfold jd;cases hb:iM s.2 s.1 bj with
 |none=>exact⟨h,i4⟩
 |some i=>
  have a:=pT hb;dsimp only;refine⟨uz (uy (Cw h i5 a.2.1) (by rw[li];omega)) (by rw[nD,li];omega),by rw[nE,nD,li]⟩
theorem gI{n:Nat}{m:aI}(h:aQ n m):∀c,aQ n (bA m c).2/\(bA m c).2.length=i0 m
 |0=>⟨h,i4⟩
 |c+1=>by
  have:=gI h c;have a:=UC this.1 c;rw[bA];exact⟨a.1,by rw[a.2,this.2]⟩
theorem XZ{s:Nat×aI}(h:s.1<=i0 s.2)(bj:Nat):(jd s bj).1<=(jd s bj).2.length:=by
 unfold jd;cases hb:iM s.2 s.1 bj with
 |none=>exact h
 |some i=>
  have a:=pT hb;dsimp only;rw[nE,nD,li];omega
theorem AL(m:aI):∀c,(bA m c).1<=(bA m c).2.length
 |0=>by simp[bA]
 |c+1=>XZ (AL m c) c
variable {t t2 e k:Nat} {z:aR} {by_:Nat} {α:Type} {h h0:f9} {p B:ak} {s v:Sl} {f:α->aR} {l l2:List α} {As:List HP}
section
variable {C:Ctx} {ty:Nat}
theorem Own.Ma(R:C.Ok)(O:bO C.toxZ t e k z by_)(D:∀x,i0 (f x)=k)(o:Own h e s k f l)(N:Seq h p v k f l2)(w:∀x,∀c∈f x,c.oneCell'=eR)(j:Nat)(W:j<=i0 l){y:bK}{M U:Nat}(g:y=if s.cap=j then s.ptr else s.ptr.map (·.add (j*k)))(A:M=s.len-j){K:Int->f9->Prop}
  (F:∀n h',Own h' e s k f (l.take j++(l2.take (i0 l-j)++l.drop (j+i0 l2)))->aP (λb=>¬s.on b) h h'->K n h'):
  bG C.P (yZ #[t,t2] ty #[.slice y M U,.slice v.ptr v.len v.cap]) (.one (.sc (.int .i64))) h K:=by
 unfold bG yZ;simp only[wb,y8,qq];refine aj.bind (aj.always (aH (O.under R)) ?_);refine aj.bind (aj.pure' ?_);refine aj.bind (aj.always (O.size R) ?_);have i:=o.len;have q:=N.len;have Q:=o.cap;obtain⟨m,E⟩:∃m,m=Nat.min v.len M:=⟨_,rfl⟩
 rw[<-E];have L:m<=i0 l2:=by rw[E,<-q];exact Nat.min_le_left _ _
 have u:m<=i0 l-j:=by rw[E,<-i,A];exact Nat.min_le_right _ _
 have S:m=min l2.length (i0 l-j):=by rw[E,A,i,q]
 have J:=N.take m L;have X:l2.take (i0 l-j)++l.drop (j+i0 l2)=l2.take m++l.drop (j+m):=by
  rcases Nat.le_total l2.length (i0 l-j)with hh|hh
  ·rw[qg hh,show m=i0 l2 by omega,qU]
  ·rw[show m=i0 l-j by omega,q8 (show l.length<=j+i0 l2 by omega),q8 i5]
 rw[X]at F;have G:wN k m (.slice v.ptr v.len v.cap)=wN k m (.slice v.ptr m v.cap):=by cases v.ptr<;>rfl
 rw[G];refine aj.bind (iq (v:=⟨v.ptr,m,v.cap⟩) D J ?_);have d:m=0->l.take j++(l2.take m++l.drop (j+m))=l:=λe=>by rw[e];simp
 rcases o.head with⟨h1,h2,h3⟩|⟨b,rest,h1,h2,h3,h4⟩
 ·have a:y=eH:=by rw[g,h1];split<;>rfl
  rw[a];subst h3;have:m=0:=by simp at u;exact u
  refine aj.pure' ⟨_,i4,F _ h ?_ (aP.refl _ _)⟩;rw[d this];exact o
 ·by_cases r:s.cap=j
  ·have a:y=dB ⟨b,0,eH⟩:=by rw[g,g0 r,h1]
   rw[a];have B:m=0:=i5
   refine aj.bind ?_;rw[B];simp only[vN,List.flatMap_nil];exact aj.pure' (aj.pure' ⟨_,i4,F _ h (by rw[d B];exact o) (aP.refl _ _)⟩)
  ·have a:y=dB ⟨b,0+j*k,eH⟩:=by rw[g,g9 r,h1];simp only[qS];rw[add_eq]
   rw[a];refine aj.bind ?_;have H:l.flatMap f++rest=(l.take j).flatMap f++((l.drop j).take m).flatMap f++((l.drop (j+m)).flatMap f++rest):=by rw[<-qn,<-zf,<-zf,<-zE,qn (List.take j l),qB,qB]
   rw[H]at h2;refine fV (e:=e) (pre:=(l.take j).flatMap f) (old:=((l.drop j).take m).flatMap f) (post:=(l.drop (j+m)).flatMap f++rest) h2 (by rw[ez D,ez D,qP,qP,q7];congr 1;omega) (by rw[ez D,qP];rw[yj W];omega) ?_ ?_
   ·intro c T;obtain⟨x,_,I⟩:=zO.1 T;exact w x c I
   ·refine aj.pure' ⟨_,i4,F _ _ ⟨by rw[i,qp,qp,qP,qP,q7];omega,.inr ⟨b,rest,h1,?_,h3,h4⟩⟩ (aP.jb h2 λV=>V ⟨0,h1⟩)⟩;rw[iQ h2,g0 i4,zf,zf];simp[qn]
theorem aa.Ma(u:C.Ok)(H:aa B h0 h As)(i:Nat)(g:As[i]?=dB (an e s k f l))(r:bO C.toxZ t e k z by_)(A:∀x,i0 (f x)=k)(q:Seq h p v k f l2)(a:∀x,∀c∈f x,c.oneCell'=eR)(j:Nat)(D:j<=i0 l){m:bK}{o w:Nat}(b:m=if s.cap=j then s.ptr else s.ptr.map (·.add (j*k)))(d:o=s.len-j){K:Int->f9->Prop}
  (E:∀n h',aa B h0 h' (As.set i (an e s k f (l.take j++(l2.take (i0 l-j)++l.drop (j+i0 l2)))))->K n h'):
  bG C.P (yZ #[t,t2] ty #[.slice m o w,.slice v.ptr v.len v.cap]) (.one (.sc (.int .i64))) h K:=
 (H.own i g).Ma u r A q a j D b d λn h' x y=>E n h' (H.mK i g y x)
end
def b8(n:Int):UInt8:=yH (n%256).toNat
theorem dU(n:Int):qe xG n=((b8 n).toNat:Int):=by
 have h0:=yk n (show(256:Int)≠0 by decide);have a:=wq n (show(0:Int)<256 by decide);have e:((b8 n).toNat:Int)=n%256:=by unfold b8;rw[UInt8.toNat_ofNat'];omega
 rw[e];unfold qe;simp[qG,y9]
abbrev jq:=BitVec 32
def jI(s:jq):jq:=if s&&&1#32=1#32 then(s>>>1)^^^3988292384#32 else s>>>1
def dV:Nat->jq->jq
 |0,s=>s
 |n+1,s=>jI (dV n s)
def lR(s:jq)(x:UInt8):jq:=dV 8 (s^^^BitVec.ofNat 32 x.toNat)
def kI(l:aM):jq:=l.foldl lR 4294967295#32
def lK(l:aM):jq:=4294967295#32^^^kI l
theorem RW(l:aM)(x:UInt8):kI (l++[x])=lR (kI l) x:=by unfold kI;rw[zK];rfl
theorem Mb(s:jq):qe xH ((s.toNat:Nat):Int)=(s.toNat:Int):=by have:=s.isLt;unfold qe;simp[qG,y9];omega
theorem RX(a b:jq):qe xH ((qN (qG xH) (a.toNat:Int)^^^qN (qG xH) (b.toNat:Int)).toNat:Nat)=((a^^^b).toNat:Int):=by show qe xH (((qN 32 (a.toNat:Int)^^^qN 32 (b.toNat:Int):BitVec 32).toNat:Nat):Int)=_;rw[w8,w8,vG,vG,vH,vH,Mb]
theorem aeN(a b:jq):qe xH ((qN (qG xH) (a.toNat:Int)&&&qN (qG xH) (b.toNat:Int)).toNat:Nat)=((a&&&b).toNat:Int):=by show qe xH (((qN 32 (a.toNat:Int)&&&qN 32 (b.toNat:Int):BitVec 32).toNat:Nat):Int)=_;rw[w8,w8,vG,vG,vH,vH,Mb]
theorem Jy(n:Int):qe xH n=((qN 32 n).toNat:Int):=by unfold qe;simp[qG,y9,BitVec.toNat_ofInt];omega
theorem abl(s:jq):zx (s.toNat:Int) (2^min (1:Int).toNat (qG xH))=((s>>>1).toNat:Int):=by rw[show min (1:Int).toNat (qG xH)=1 from i4,yM _ i6,BitVec.toNat_ushiftRight,Nat.shiftRight_eq_div_pow];simp
theorem Qp(s:jq):((s&&&1#32).toNat:Int)=1↔s&&&1#32=1#32:=by
 constructor
 ·intro h;apply BitVec.eq_of_toNat_eq;have:(1#32:jq).toNat=1:=rfl;omega
 ·intro h;rw[h];rfl
def kP(s:jq):aM:=(qt 4).map λi=>b8 (zx (s.toNat:Int) (2^(8*i)))
theorem AM(s:jq):i0 (kP s)=4:=by simp[kP]
def dK(kind:Int)(a:aM):aM:=[87,115,1,b8 kind]++a++qh (55-i0 a) 0
def dL(kind:Int)(a:aM):aM:=
 if 1<=kind/\kind<=255/\a.length<=55 then dK kind a++kP (lK (dK kind a))++[165]else[]
theorem tv{kind:Int}{a:aM}(h:i0 a<=55):i0 (dK kind a)=59:=by simp[dK];omega
theorem lS{kind:Int}{a:aM}(c:1<=kind)(b:kind<=255)(h3:i0 a<=55):i0 (dL kind a)=64:=by unfold dL;rw[g0 ⟨c,b,h3⟩];simp[tv h3,AM]
def je(s:ByteArray):aM:=s.data.toList
theorem AN(s:ByteArray):i0 (je s)=s.size:=rfl
def afq(n:Nat):Obj->Obj
 | .cells c elem (lo,hi)=>.cells c elem (if lo==hi then(n,n+1)else(min lo n,max hi (n+1)))
 |o=>o
theorem aj.Jz{P:Program}{h:f9}{b n:Nat}{c:Array eX}{e:TypeId}{K:Unit->f9->Prop}(j:h[b]?=dB (.cells c e (0,0)))(k:n=c.size)(g:∀h',(∀x,x≠b->h'[x]?=h[x]?)->h'.size=h.size->(∃f,h'[b]?=dB (.cells c e f))->K () h'):
  aj P (freeze {block:=b,off:=n} 1) h K:=λw i=>by
 refine⟨(),w.freeze {block:=b,off:=n} 1,run_freeze P w _ _,⟨i4,i4,i4,qk _⟩,?_⟩;subst i;have a:(w.freeze {block:=b,off:=n} 1).heap=w.heap.modify b (afq n):=rfl;refine g _ (λx d=>?_) ?_ ?_
 ·rw[a,ym,g9 λe=>d e.symm]
 ·rw[a];simp
 ·rw[a,ym,g0 i4,j];exact⟨_,i4⟩
section
variable {C:Ctx} {ts:Nat}
theorem abm(g:C.Ok)(H:∃i,C.T.get ts=dB i/\i.cj=.str)(o:∃i,C.T.get t=dB i/\i.cj=.slice e)(p:∃i,C.T.get e=dB i/\i.cj=.int .u8)(s:ByteArray){K:Sl->f9->Prop}(D:∀r h',Sp h h' [pm r 1 aB (je s)]->K r h'):
  bG C.P (convert ts t (.string s)) (.one (.sc .slc)) h K:=by
 obtain⟨L,A,y⟩:=H;obtain⟨J,z,w⟩:=o;obtain⟨i3,a3,F⟩:=p;have G:C.P.underlying ts=dB .string:=by have:=g.cj A;rw[y]at this;exact sJ this
 have v:C.P.underlying t=dB (.slice e):=by have:=g.cj z;rw[w]at this;exact jo this
 have u3:C.P.underlying e=dB (.int .u8):=by have:=g.cj a3;rw[F]at this;exact zZ this
 unfold bG convert;refine aj.bind (aj.always (aH G) ?_);refine aj.bind (aj.always (aH v) ?_);refine aj.bind (aj.always (aH u3) ?_);unfold Conv.stringToBytes;refine aj.bind (aj.xW ⟨λu=>(by cases u),λ_ q=>?_⟩);generalize j:Question.cut (Question.appendCap s.size 0 e) q=cc;have n:s.size<=cc:=by rw[<-j];simp only[Question.cut];omega
 unfold newRow;refine aj.bind (aj.bind (aj.mI (aj.pure' ?_)));unfold markStringish;obtain⟨cs,a⟩:∃cs:Array eX,cs=s.data.map (λb=>Value.int .u8 b.toNat)++Array.replicate (cc-s.size) (Value.int .u8 0):=⟨_,rfl⟩
 rw[<-a];refine aj.bind (aj.bind (aj.Ui ?_));have k:shapeOf (h.push (.cells cs e)) h.size=dB (e,cs.size):=by unfold shapeOf;simp
 dsimp only;rw[k];refine aj.Jz (c:=cs) (e:=e) jj i4 λh' E l d=>?_;refine aj.pure' ⟨⟨dB ⟨h.size,0,eH⟩,s.size,cc⟩,i4,D _ _ ?_⟩;obtain⟨f,d⟩:=d;refine .one ⟨by rw[l];simp,λb I _=>by rw[E b i5,Array.getElem?_push,g9 i5]⟩ ?_;refine⟨by rw[AN],λi x m=>⟨h.size,0,i4,⟨qk _,by rw[l];simp⟩,?_,trivial⟩⟩;rw[add_zero];have B:i<s.data.size:=by have:=(ql.1 m).1;simpa[je]using this
 unfold f8;simp only[d,Nat.mul_one,we,Option.isSome_none,zb,if_false];rw[a,Array.getElem?_append_left (by simpa using B),vE];have:s.data[i]?=dB x:=by rw[<-m];simp[je]
 rw[this];rfl
end
section
variable {C:Ctx} {l:aM}
theorem KF(v:C.Ok)(A:bO C.toxZ t e 1 z by_)(h2:∃i,C.T.get t2=dB i/\i.cj=.str)(V:i0 z=1)(G:0<by_/\by_<=128)
  (u:Own h e s 1 aB l) (x:ByteArray) (R:i0 l+x.size<=2^32) {ty:Nat} {K:Sl->f9->Prop}
  (H:∀J h',Own h' e J 1 aB (l++je x)->aP (λb=>¬s.on b) h h'->(∀b,J.on b->s.on b∨h.size<=b)->K J h'):
  bG C.P (zD #[t,t2] ty #[.slice s.ptr s.len s.cap,.string x]) (.one (.sc .slc)) h K:=by
 obtain⟨i2,g1,Y⟩:=h2;have L:C.P.underlying t2=dB .string:=by have:=v.cj g1;rw[Y]at this;exact sJ this
 obtain⟨F,r,x2,x3,zv,W,x5⟩:=A.info v;have p:∀y∈(je x).flatMap aB,y.oneCell'=eR:=λy hy=>by
  obtain⟨b,_,S⟩:=zO.1 hy;exact gJ b y S
 have g:((x.extract 0 x.size).data.map λb=>Value.int .u8 (b.toNat:Int))=((je x).flatMap aB).toArray:=by
  have e0:x.extract 0 x.size=x:=by apply ByteArray.ext;simp[ByteArray.data_extract]
  rw[e0];apply yC;simp only[vX,je];exact List.map_eq_flatMap
 unfold bG zD;simp only[wb,y8,qq];refine aj.bind (aj.always (aH (A.under v)) ?_);refine aj.bind (aj.always (A.size v) ?_);refine aj.bind (aj.always (aH L) ?_);refine aj.bind (aj.pure' ?_);simp only[zb,if_false,yx,if_true];refine aj.bind (aj.pure' ?_);have k:=u.len;have w:∀y,i0 (aB y)=1:=λ_=>rfl;have j:=ez w l;have a:=ez w (je x);have ab:=AN x;have m:∀{h:f9} {K:Array eX->f9->Prop},K ((je x).flatMap aB).toArray h->aj C.P (wN 1 x.size (.string x)) h K:=λ{h K} hK=>by
  unfold wN;dsimp only;rw[g];exact aj.pure' hK
 by_cases f:s.len+x.size<=s.cap
 ·rw[g0 f];refine aj.bind (m ?_);rcases u.head with⟨p1,p2,p3⟩|⟨b,rest,p1,p2,p3,p4⟩
  ·rw[p1];have I:je x=[]:=qW i5;refine aj.pure' ⟨⟨eH,s.len+x.size,s.cap⟩,i4,H _ _ ⟨?_,.inl ⟨i4,p2,by simp[p3,I]⟩⟩ (aP.refl _ _) ?_⟩
   ·simp;omega
   ·rintro M ⟨o,d⟩;cases d
  ·rw[p1];refine aj.bind ?_;rw[add_eq,we];have E:i0 ((je x).flatMap aB)<=i0 rest:=by rw[a,p3];omega
   refine fV (e:=e) (pre:=l.flatMap aB) (old:=rest.take ((je x).flatMap aB).length) (post:=rest.drop ((je x).flatMap aB).length) ?_ ?_ ?_ ?_ ?_
   ·rw[qn,qB];exact p2
   ·rw[qP];exact yj E
   ·rw[j,k];omega
   ·intro c O;exact p c (by simpa using O)
   ·refine aj.pure' ⟨⟨dB ⟨b,0,eH⟩,s.len+x.size,s.cap⟩,i4,H _ _ ⟨?_,.inr ⟨b,rest.drop ((je x).flatMap aB).length,i4,?_,?_,f⟩⟩ ?_ ?_⟩
    ·simp;omega
    ·rw[iQ p2,g0 rfl];simp
    ·rw[q7,p3,a];show(s.cap-s.len)*1-i0 (je x)*1=(s.cap-(s.len+x.size))*1;omega
    ·exact aP.jb p2 (λZ=>Z ⟨0,p1⟩)
    ·rintro M ⟨o,d⟩;cases d;exact .inl ⟨0,p1⟩
 ·rw[g9 f];have n:Seq h (λ_=>True) s 1 aB l:=u.seq w λ_ _=>trivial;have N:=u.cap;refine aj.bind (aj.always (cZ r) ?_);rw[g9 λhh=>by rcases hh.2 with h|h<;>first|exact h|(rw[x3]at h;omega)];refine aj.bind (aj.always (cZ r) ?_);have X:=Qj (s.len+x.size) s.cap;rw[g9 (by
   have:vm (s.len+x.size) s.cap*F.bytes<=(16*2^32+16*768)*128:=wi i5 (by rw[x3];exact G.2);omega)]
  refine aj.bind (aj.xW ⟨λU=>(by cases U),λ_ Q=>?_⟩);refine aj.bind (aj.always (cZ r) ?_);refine aj.bind (aj.Ff ?_);refine aj.bind (iq w n ?_);refine aj.bind (m ?_);have D:aF C.P (zeroValue e) zv:=(cZ r).bind (by rw[W];exact .pure);refine aj.bind (aj.always D ?_);rw[x5,Ck];unfold newRow;refine aj.bind (aj.bind (aj.mI (aj.pure' (aj.pure' ?_))));generalize B:Question.cut (Question.appendCap (s.len+x.size) s.cap e) Q=cc;have q:s.len+x.size<=cc:=by rw[<-B];simp only[Question.cut];omega
  refine⟨⟨dB ⟨h.size,0,eH⟩,s.len+x.size,cc⟩,i4,H _ _ ⟨?_,.inr ⟨h.size,iE z (cc-(s.len+x.size)),i4,?_,?_,q⟩⟩ (aP.push _ _ _) ?_⟩
  ·simp;omega
  ·simp
  ·rw[nA,V]
  ·rintro M ⟨o,d⟩;cases d;exact .inr (qk _)
theorem aa.UD(r:C.Ok)(H:aa B h0 h As)(i:Nat)(A:As[i]?=dB (an e s 1 aB l))(p:bO C.toxZ t e 1 z by_)(E:∃i,C.T.get t2=dB i/\i.cj=.str)(w:i0 z=1)(k:0<by_/\by_<=128)
  (x:ByteArray) (g:i0 l+x.size<=2^32) {ty:Nat} {K:Sl->f9->Prop} (D:∀f h',aa B h0 h' (As.set i (an e f 1 aB (l++je x)))->K f h'):
  bG C.P (zD #[t,t2] ty #[.slice s.ptr s.len s.cap,.string x]) (.one (.sc .slc)) h K:=by
 obtain⟨v,q,c,F,a⟩:=H;have o:=a i _ A;refine KF r p E w k o.1 x g λf h' d n m=>D f h' ?_;refine aa.AH v q F a (n.mono λb j y u=>y (o.2 b u)) ⟨d,λb j=>⟨d.lt j,?_⟩⟩;rcases m b j with h1|h1
 ·exact .inl (o.2 b h1)
 ·exact .inr h1
end
structure ci where
 name:ByteArray
 object:Int
 length:Int
 tries:au
structure aw where
 seq:Int
 next:Int
 p:Int×Int×Int
 extra:Int
 drives:au
 objs:List ci
def aeO:ci:=⟨⟨#[]⟩,0,0,[]⟩
def oq(l:List ci)(i:Nat):ci:=l.getD i aeO
theorem nF{l:List ci}{i:Nat}(h:i<i0 l:=by omega):oq l i=l[i]:=by unfold oq;rw[qd,qc h];rfl
def fz(n a b:Int):Bool:=decide (a<=n)&&decide (n<=b)
def ms(c:UInt8):Bool:=(decide (97<=c.toNat)&&decide (c.toNat<=122))||(decide (48<=c.toNat)&&decide (c.toNat<=57))||decide (c.toNat=45)
def mb(s:ByteArray):Bool:=s.data.toList.all ms&&(decide (1<=s.size)&&decide (s.size<=12))
def fg(a b:ByteArray):Bool:=Op.bytesLess a.toList b.toList
def jJ(l:au)(most:Int)(i:Nat):Bool:=fz (l.getD i 0) 0 most&&(decide (i=0)||decide (l.getD (i-1) 0<l.getD i 0))
def ot(l:au)(most:Int):Bool:=(qt l.length).all (jJ l most)
def countP(p:Int×Int×Int)(n:Int):Int:=if bx p&&decide (0<n)then(n-1)/(p.1*p.2.2)+1 else 0
def gM(m:aw)(x:ci):Bool:=
 mb x.name&&(fz x.object 0 (m.next-1)&&(fz x.length 0 (m.p.1*m.p.2.2*8)&&(x.tries.all (fz · 0 15)&&decide ((x.tries.length:Int)=countP m.p x.length))))
def ou(m:aw)(i:Nat):Bool:=
 gM m (oq m.objs i)&&((decide (i=0)||fg (oq m.objs (i-1)).name (oq m.objs i).name)&&!(m.objs.take i).any λy=>decide (y.object=(oq m.objs i).object))
def kJ(m:aw):Bool:=fz m.seq 1 2147483647&&(fz m.next 0 16777216&&(bx m.p&&fz m.extra 0 16))
def bp(m:aw):Bool:=kJ m&&(ot m.drives 63&&(decide (i0 m.objs<=12)&&(qt m.objs.length).all (ou m)))
theorem Cx{p:Nat->Bool}{n i:Nat}(a:i<n)(h:p i=eS):(qt n).all p=eS:=List.all_eq_false.2 ⟨i,qA.2 a,by rw[h];simp⟩
theorem rK{p:Nat->Bool}{n:Nat}(h:∀i,i<n->p i=eR):(qt n).all p=eR:=qK.2 λi a=>h i (qA.1 a)
def bS(n:Int)(k:Nat):aM:=(qt k).map λi=>b8 (zx n (2^(8*(k-1-i))))
theorem cm(n:Int)(k:Nat):i0 (bS n k)=k:=by simp[bS]
def jf(x:ci):aM:=b8 x.name.size::(x.name.data.toList++(bS x.object 3++(bS x.length 2++x.tries.map b8)))
def fX(m:aw):aM:=
 if bp m then bS m.seq 4++(bS m.next 4++([b8 m.p.1,b8 m.p.2.1,b8 m.p.2.2,b8 m.extra,b8 m.drives.length]++(m.drives.map b8++(b8 m.objs.length::m.objs.flatMap jf))))else[]
def jZ(seq a c:Int)(b:aM):aM:=dL 2 (bS seq 4++([b8 a,b8 c,b8 b.length]++b))
def ik(b:aM):Nat:=(i0 b+47)/48
def aX(m:aw):bY:=(qt (ik (fX m))).map λi:Nat=>jZ m.seq i (ik (fX m)) (((fX m).drop (48*i)).take 48)
theorem UE{m:aw}(h:bp m=eR):kJ m=eR:=by unfold bp at h;simp at h;exact h.1
theorem Mc{m:aw}(h:kJ m=eR):(1<=m.seq/\m.seq<=2147483647)/\(0<=m.next/\m.next<=16777216)/\bx m.p=eR/\0<=m.extra/\m.extra<=16:=by unfold kJ fz at h;simpa[and_assoc]using h
theorem sj{m:aw}{c:aM}(h:c∈aX m):i0 c=64:=by unfold aX at h;obtain⟨i,_,rfl⟩:=qo.1 h;exact lS i6 i6 m5
structure cP where
 object:Int
 block:Int
 id:Int
 p:Int×Int×Int
 seed:Int
 data:aM
theorem ov(n:Int):((b8 n).toNat:Int)=n%256:=by have h0:=yk n (show(256:Int)≠0 by decide);have a:=wq n (show(0:Int)<256 by decide);unfold b8;rw[UInt8.toNat_ofNat'];omega
def iR(r:cP):Bool:=(fz r.object 0 16777215&&(fz r.block 0 7&&bJ r.id))&&(bx r.p&&decide ((r.data.length:Int)=r.p.2.2))
def iN(r:cP):aM:=bS r.object 3++(bS r.block 1++(bS r.id 2++([b8 r.p.1,b8 r.p.2.1,b8 r.p.2.2]++(bS r.seed 4++r.data))))
def cT(r:cP):aM:=if iR r then dL 1 (iN r)else[]
def db(l:aM):Int:=l.foldl (λn x=>n*256+x.toNat) 0
def fC(c:aM):Option (Int×aM):=
 if c.length=64/\dL ((c.getD 3 0).toNat:Int) ((c.drop 4).take 55)=c then dB (((c.getD 3 0).toNat:Int),(c.drop 4).take 55)else eH
def sl(x:aM):cP:=
 ⟨db (x.take 3),db ((x.drop 3).take 1),db ((x.drop 4).take 2),(db ((x.drop 6).take 1),db ((x.drop 7).take 1),db ((x.drop 8).take 1)),db ((x.drop 9).take 4),(x.drop 13).take (db ((x.drop 8).take 1)).toNat⟩
def dg(c:aM):Option cP:=
 match fC c with
 |some (k,x)=>if k=1/\bx (sl x).p=eR/\cT (sl x)=c then dB (sl x)else eH
 |none=>eH
theorem UF(n:Int):bS n 1=[b8 n]:=by simp[bS]
theorem UG(n:Int):bS n 2=[b8 (zx n (2^8)),b8 n]:=by simp[bS,zL]
theorem Ow(n:Int):bS n 3=[b8 (zx n (2^16)),b8 (zx n (2^8)),b8 n]:=by simp[bS,zL]
theorem GG(n:Int):bS n 4=[b8 (zx n (2^24)),b8 (zx n (2^16)),b8 (zx n (2^8)),b8 n]:=by simp[bS,zL]
theorem AO{n:Int}(b:0<=n:=by omega)(a:n<256:=by omega):db [b8 n]=n:=by simp only[db,zr,wx,ov];omega
theorem fdiv_pow(n:Int)(k:Nat):zx n (2^k)=n/(2^k):=yM _ (Int.pow_nonneg i6)
theorem Ya{n:Int}(b:0<=n)(a:n<65536):db (bS n 2)=n:=by rw[UG,fdiv_pow];simp only[db,zr,wx,ov];omega
theorem RY{n:Int}(b:0<=n)(a:n<16777216):db (bS n 3)=n:=by rw[Ow,fdiv_pow,fdiv_pow];simp only[db,zr,wx,ov];omega
theorem JA{n:Int}(b:0<=n)(a:n<4294967296):db (bS n 4)=n:=by rw[GG,fdiv_pow,fdiv_pow,fdiv_pow];simp only[db,zr,wx,ov];omega
theorem kA(r:cP):iR r=eR↔(0<=r.object/\r.object<=16777215)/\(0<=r.block/\r.block<=7)/\(0<=r.id/\r.id<=65535)/\bx r.p=eR/\(r.data.length:Int)=r.p.2.2:=by unfold iR fz bJ;simp[and_assoc]
theorem nQ{r:cP}(h:iR r=eR):i0 (iN r)=13+i0 r.data/\r.data.length<=24:=by obtain⟨_,_,_,a,b⟩:=(kA r).1 h;have:=(bN r.p).1 a;refine⟨by unfold iN;simp[cm];omega,i5⟩
theorem Fv{r:cP}(h:iR r=eR):i0 (cT r)=64:=by have:=nQ h;unfold cT;rw[g0 h];exact lS i6 i6 i5
theorem uA{k:Int}{a:aM}(d:1<=k:=by decide)(c:k<=255:=by decide)(h3:i0 a<=55:=by omega):fC (dL k a)=dB (k,a++qh (55-i0 a) 0):=by
 obtain⟨x,b⟩:∃x,x=a++qh (55-i0 a) 0:=⟨_,rfl⟩
 have e:i0 x=55:=by rw[b];simp;omega
 have f:dL k a=[87,115,1,b8 k]++(x++(kP (lK (dK k a))++[165])):=by unfold dL;rw[g0 ⟨d,c,h3⟩];unfold dK;rw[b];simp[qn]
 have h:((dL k a).getD 3 0)=b8 k:=by rw[f];rfl
 have e2:((dL k a).drop 4).take 55=x:=by rw[f];have:([87,115,1,b8 k]++(x++(kP (lK (dK k a))++[165]))).drop 4=x++(kP (lK (dK k a))++[165]):=rfl;rw[this,List.take_append_of_le_length i5,qg i5]
 have i:((b8 k).toNat:Int)=k:=by rw[ov];omega
 have j:dK k x=dK k a:=by unfold dK;rw[e,b];simp[qn]
 have g:dL k x=dL k a:=by unfold dL;rw[g0 ⟨d,c,i5⟩,g0 ⟨d,c,h3⟩,j]
 unfold fC;rw[h,e2,i,g0 ⟨lS d c h3,g⟩,b]
theorem RZ{r:cP}(h:iR r=eR)(y:0<=r.seed/\r.seed<4294967296)(z:aM):sl (iN r++z)=r:=by
 obtain⟨x,A,h3,q,t⟩:=(kA r).1 h;have w:=(bN r.p).1 q;have l1:=cm r.object 3;have l2:=cm r.id 2;have i:=cm r.seed 4;have e:iN r++z=bS r.object 3++([b8 r.block]++(bS r.id 2++([b8 r.p.1]++([b8 r.p.2.1]++([b8 r.p.2.2]++(bS r.seed 4++(r.data++z))))))):=by unfold iN;rw[UF];simp[qn]
 have c:∀(u v:aM) (n:Nat),u.length=n->∀m,(u++v).drop (n+m)=v.drop m:=λu v n b m=>by
  rw[<-zE,<-b,List.drop_left]
 have a:∀(u v:aM) (n:Nat),u.length=n->(u++v).take n=u:=λu v n b=>by rw[<-b,xj]
 have o:(iN r++z).drop 3=[b8 r.block]++(bS r.id 2++([b8 r.p.1]++([b8 r.p.2.1]++([b8 r.p.2.2]++(bS r.seed 4++(r.data++z)))))):=by rw[e];exact c _ _ 3 l1 0
 have j:(iN r++z).drop 4=bS r.id 2++([b8 r.p.1]++([b8 r.p.2.1]++([b8 r.p.2.2]++(bS r.seed 4++(r.data++z))))):=by rw[show 4=3+1 from i4,<-zE,o];rfl
 have g:(iN r++z).drop 6=[b8 r.p.1]++([b8 r.p.2.1]++([b8 r.p.2.2]++(bS r.seed 4++(r.data++z)))):=by rw[show 6=4+2 from i4,<-zE,j];exact c _ _ 2 l2 0
 have k:(iN r++z).drop 7=[b8 r.p.2.1]++([b8 r.p.2.2]++(bS r.seed 4++(r.data++z))):=by rw[show 7=6+1 from i4,<-zE,g];rfl
 have l:(iN r++z).drop 8=[b8 r.p.2.2]++(bS r.seed 4++(r.data++z)):=by rw[show 8=7+1 from i4,<-zE,k];rfl
 have f:(iN r++z).drop 9=bS r.seed 4++(r.data++z):=by rw[show 9=8+1 from i4,<-zE,l];rfl
 have d:(iN r++z).drop 13=r.data++z:=by rw[show 13=9+4 from i4,<-zE,f];exact c _ _ 4 i 0
 have s:db (((iN r++z).drop 8).take 1)=r.p.2.2:=by rw[l,a _ _ 1 i4,AO]
 unfold sl;rw[s,o,j,g,k,f,d];rw[a [b8 r.block] _ 1 i4,a _ _ 2 l2,a [b8 r.p.1] _ 1 i4,a [b8 r.p.2.1] _ 1 i4,a _ _ 4 i];have t0:(iN r++z).take 3=bS r.object 3:=by rw[e];exact a _ _ 3 l1
 rw[t0,RY i5 i5,AO,Ya i5 i5,AO,AO,JA i5 i5];have:r.p.2.2.toNat=r.data.length:=i5
 rw[this,xj]
theorem nR{r:cP}(h:iR r=eR)(a:0<=r.seed/\r.seed<4294967296):dg (cT r)=dB r:=by
 have c:=nQ h;have b:=((kA r).1 h).2.2.2.1;have e:cT r=dL 1 (iN r):=by unfold cT;rw[g0 h]
 unfold dg;rw[e,uA];dsimp only;rw[RZ h a,g0 ⟨i4,b,e⟩]
theorem Sa{c:aM}{r:cP}(h:dg c=dB r):cT r=c/\iR r=eR/\bx r.p=eR:=by
 unfold dg at h;cases hc:fC c with
 |none=>rw[hc]at h;cases h
 |some kx=>
  rw[hc]at h;dsimp only at h;by_cases a:kx.1=1/\bx (sl kx.2).p=eR/\cT (sl kx.2)=c
  ·rw[g0 a]at h;injection h with h
   subst h;refine⟨a.2.2,?_,a.2.1⟩;by_cases d:iR (sl kx.2)=eR
   ·exact d
   ·exfalso;have b:=a.2.2;unfold cT at b;rw[g9 d]at b;unfold fC at hc;rw[<-b]at hc;simp at hc
  ·rw[g9 a]at h;cases h
section
variable {C:Ctx} {ts:Nat}
theorem EN:∀(l:aM) (b:ByteArray),l.foldl ByteArray.push b=⟨(b.data.toList++l).toArray⟩
 |[],b=>jj
 |x::l,b=>by
  rw[zr,EN l (b.push x)];simp[ByteArray.push]
theorem IE(j:C.Ok)(z:∃i,C.T.get t=dB i/\i.cj=.slice e)(L:∃i,C.T.get ts=dB i/\i.cj=.str)(A:∃i,C.T.get e=dB i/\i.cj=.int .u8){s:Sl}{l:aM}{p:ak}(u:Seq h p s 1 aB l){K:ByteArray->f9->Prop}(y:K ⟨l.toArray⟩ h):
  bG C.P (convert t ts (.slice s.ptr s.len s.cap)) (.one (.sc .str)) h K:=by
 obtain⟨N,H,E⟩:=L;obtain⟨M,F,D⟩:=z;obtain⟨i3,a3,I⟩:=A;have J:C.P.underlying ts=dB .string:=by have:=j.cj H;rw[E]at this;exact sJ this
 have B:C.P.underlying t=dB (.slice e):=by have:=j.cj F;rw[D]at this;exact jo this
 have u3:C.P.underlying e=dB (.int .u8):=by have:=j.cj a3;rw[I]at this;exact zZ this
 unfold bG convert;refine aj.bind (aj.always (aH B) ?_);refine aj.bind (aj.always (aH J) ?_);refine aj.bind (aj.always (aH u3) ?_);unfold Conv.bytesToString;have d:=iq (P:=C.P) (f:=aB) (k:=1) (K:=λcs h'=>cs=(l.flatMap aB).toArray/\h'=h) (λ_=>rfl) u ⟨i4,i4⟩;cases hp:s.ptr with
 |none=>
  have:l=[]:=by
   cases l with
   |nil=>rfl
   |cons x r=>obtain⟨b,o,w,_⟩:=u.elem 0 x jj;rw[hp]at w;cases w
  subst this;exact aj.pure' ⟨⟨#[]⟩,i4,y⟩
 |some a=>
  rw[hp]at d;dsimp only;have g:aj C.P (loadCells a s.len) h λcs h'=>cs=(l.flatMap aB).toArray/\h'=h:=by
   have:wN 1 s.len (.slice (dB a) s.len s.cap)=loadCells a s.len:=by unfold wN;simp
   rw[<-this];exact d
  refine aj.bind (g.mono ?_);rintro _ _ ⟨rfl,rfl⟩;have q:∀(l:aM) (b:ByteArray),aF C.P (forIn (m:=Sem) (l.flatMap aB) b λc r=>match c with
    |xz xG n=>do pure (ForInStep.yield (r.push (yH n.toNat)))
    |_=>do let r<-stuck "bytesToString: byte expected";pure r) (l.foldl ByteArray.push b):=λl=>by
   induction l with
   |nil=>intro b;exact .pure
   |cons x l ih=>
    intro b;have G:(x::l).flatMap aB=Value.int .u8 x.toNat::l.flatMap aB:=rfl;rw[G,List.forIn_cons];have e2:b.push (yH ((x.toNat:Int)).toNat)=b.push x:=by rw[qj];congr 1;apply wy.1;simp
    refine aF.bind (v:=ForInStep.yield (b.push x)) (by dsimp only;rw[e2];exact .pure) ?_;exact ih _
  refine aj.bind (aj.always (v:=l.foldl ByteArray.push ByteArray.empty) ?_ ?_)
  ·rw[List.forIn_toArray];exact q l _
  ·refine aj.pure' ⟨_,i4,?_⟩;rw[EN];exact y
end
section
variable (le:α->α->Bool)
def iG(a b:α):Bool:=le a b&&le b a
def co(l l':List α):Prop:=∀x,l.filter (iG le x)=l'.filter (iG le x)
def Sd(l:List α):Prop:=l.Pairwise λa b=>le a b=eR
structure Ord:Prop where
 trans:∀a b c,le a b=eR->le b c=eR->le a c=eR
 total:∀a b,(le a b||le b a)=eR
variable {le}
theorem Ord.Cy(o:Ord le){a b:α}(h:¬le a b=eR):le b a=eR:=by
 have:=o.total a b;cases h1:le a b with
 |true=>exact absurd h1 h
 |false=>rw[h1]at this;simpa using this
theorem Ord.refl(o:Ord le)(a:α):le a a=eR:=by have:=o.total a a;simpa using this
theorem co.refl(l:List α):co le l l:=λ_=>rfl
theorem co.trans{l1 l2 a:List α}(h:co le l1 l2)(k:co le l2 a):co le l1 a:=λx=>(h x).trans (k x)
theorem co.symm{l1 l2:List α}(h:co le l1 l2):co le l2 l1:=λx=>(h x).symm
theorem co.app{a b c d:List α}(h:co le a b)(k:co le c d):co le (a++c) (b++d):=λx=>by
 rw[zg,zg,h x,k x]
theorem co.mem(o:Ord le){l l':List α}(h:co le l l'){y:α}(b:y∈l'):y∈l:=by have a:y∈l'.filter (iG le y):=qC.2 ⟨b,nn⟩;rw[<-h y]at a;exact(qC.1 a).1
theorem co.UH(o:Ord le){u v:List α}(h:∀x∈u,∀y∈v,¬le x y=eR):co le (u++v) (v++u):=λz=>by
 rw[zg,zg];by_cases f:u.filter (iG le z)=[]
 ·rw[f];simp
 ·by_cases e:v.filter (iG le z)=[]
  ·rw[e];simp
  ·exfalso;obtain⟨x,i⟩:=vw _ f;obtain⟨y,g⟩:=vw _ e;obtain⟨d,a⟩:=qC.1 i;obtain⟨c,b⟩:=qC.1 g;unfold iG at a b;simp only[qu]at a b;exact h x d y c (o.trans _ _ _ a.2 b.1)
theorem co.Md(o:Ord le){l:List α}(h:co le [] l):l=[]:=by
 cases l with
 |nil=>rfl
 |cons a l=>exact absurd (co.mem o h (qF ..)) jj
theorem JB(o:Ord le):∀(l l':List α),Sd le l->Sd le l'->co le l l'->l=l'
 |[],l',_,_,h=>(co.Md o h).symm
 |a::l,[],_,_,h=>absurd (co.Md o h.symm) jj
 |a::l,b::l',s,s',h=>by
  have c:a=b:=by
   have g:le a b=eR:=by
    have:=co.mem o h (y:=b) (qF ..);rcases qX.1 this with e|e
    ·rw[e];exact o.refl _
    ·exact(zu.1 s).1 _ e
   have d:le b a=eR:=by
    have:=co.mem o h.symm (y:=a) (qF ..);rcases qX.1 this with e|e
    ·rw[e];exact o.refl _
    ·exact(zu.1 s').1 _ e
   have h3:=h a;have f:iG le a a=eR:=nn
   have e2:iG le a b=eR:=by unfold iG;rw[g,d];rfl
   rw[va f,va e2]at h3;injection h3
  subst c;rw[JB o l l' (zu.1 s).2 (zu.1 s').2 λx=>by
   have h3:=h x;rw[zl,zl]at h3;split at h3
   ·injection h3
   ·exact h3]
theorem Cz(o:Ord le)(l:List α):Sd le (l.mergeSort le)/\co le l (l.mergeSort le):=by
 refine⟨yA o.trans o.total l,λx=>?_⟩;have f:(l.filter (iG le x)).Pairwise λa b=>le a b=eR:=by rw[List.pairwise_filter];refine List.Pairwise.imp ?_ (List.pairwise_of_forall (l:=l) (R:=λ_ _=>True) λ_ _=>trivial);intro a b _ e d;unfold iG at e d;simp only[qu]at e d;exact o.trans _ _ _ e.2 d.1
 have g:=List.sublist_mergeSort o.trans o.total f List.filter_sublist;have c:=g.filter (iG le x);rw[List.filter_filter]at c;simp only[Bool.and_self]at c;exact c.eq_of_length ((yi l le).symm.filter _).length_eq
theorem aal(o:Ord le){l l':List α}(s:Sd le l')(h:co le l l'):l'=l.mergeSort le:=by obtain⟨b,a⟩:=Cz o l;exact JB o _ _ s b (h.symm.trans a)
theorem Sd.app(o:Ord le){u v:List α}(b:Sd le u)(a:Sd le v)(h:∀x∈u,∀y∈v,le x y=eR):Sd le (u++v):=wP.2 ⟨b,a,h⟩
theorem Sd.left{u v:List α}(h:Sd le (u++v)):Sd le u:=(wP.1 h).1
theorem Sd.right{u v:List α}(h:Sd le (u++v)):Sd le v:=(wP.1 h).2.1
theorem Sd.Ei{u v:List α}(h:Sd le (u++v)):∀x∈u,∀y∈v,le x y=eR:=(wP.1 h).2.2
theorem Sd.at_(o:Ord le){l:List α}(h:Sd le l){i j:Nat}(a:i<=j)(b:j<i0 l):le (l[i]'(by omega)) l[j]=eR:=by
 by_cases e:i=j
 ·subst e;exact o.refl _
 ·exact zj.1 h i j i5 b i5
theorem UI(o:Ord le){l1 l2 a b f g:List α}(p:Sd le (l1++l2))(n:Sd le (a++b))(h:∀x∈l1,∀y∈b,le x y=eR)(e:∀x∈l2,∀y∈a,¬le x y=eR)
  (j:co le (l1++a) f) (k:Sd le f) (i:co le (l2++b) g) (m:Sd le g):Sd le (f++g)/\co le ((l1++l2)++(a++b)) (f++g):=by
 constructor
 ·refine Sd.app o k m λx c y d=>?_;rcases qw.1 (co.mem o j c)with c|c<;>rcases qw.1 (co.mem o i d)with d|d
  ·exact p.Ei x c y d
  ·exact h x c y d
  ·exact o.Cy (e y d x c)
  ·exact n.Ei x c y d
 ·have l:co le ((l1++l2)++(a++b)) ((l1++a)++(l2++b)):=by rw[show(l1++l2)++(a++b)=l1++((l2++a)++b)by simp,show(l1++a)++(l2++b)=l1++((a++l2)++b)by simp];exact(co.refl _).app ((co.UH o e).app (co.refl _))
  exact l.trans (j.app i)
end
variable {le:α->α->Bool}
theorem sM(o:Ord le):∀{l l':List α},co le l l'->i0 l=i0 l'
 |[],l',h=>by rw[co.Md o h]
 |a::l,l',h=>by
  have r:=co.mem o h.symm (y:=a) (qF ..);obtain⟨u,v,q⟩:=List.append_of_mem r;have p:∃(u:List α) (b:α) (v:List α),l'=u++b::v/\(∀x∈u,iG le a x=eS)/\iG le a b=eR:=by
   have k:l'.filter (iG le a)≠[]:=λD=>by
    have:a∈l'.filter (iG le a):=qC.2 ⟨r,nn⟩;rw[D]at this;cases this
   clear q u v r h
   induction l' with
   |nil=>exact absurd i4 k
   |cons c l' ih=>
    by_cases n:iG le a c=eR
    ·exact⟨[],c,l',i4,jj,n⟩
    ·rw[List.filter_cons_of_neg n]at k;obtain⟨u,b,v,e,f,g⟩:=ih k;refine⟨c::u,b,v,oi,λx i=>?_,g⟩;rcases qX.1 i with rfl|i
     ·simpa using n
     ·exact f x i
  obtain⟨u,b,v,rfl,z,A⟩:=p;have B:iG le a a=eR:=nn
  have m:=h a;have t:u.filter (iG le a)=[]:=wT.2 λx i=>by rw[z x i];simp
  rw[va B,zg,t,wg,va A]at m;have w:a=b:=by injection m
  subst w;have F:co le l (u++v):=λx=>by
   have i:=h x;rw[zl,zg,zl]at i;rw[zg];by_cases d:iG le x a=eR
   ·rw[g0 d,g0 d]at i;have s:u.filter (iG le x)=[]:=wT.2 λy E j=>by
     have:=z y E;unfold iG at this d j;simp only[qu]at d j;rw[o.trans _ _ _ d.2 j.1,o.trans _ _ _ j.2 d.1]at this;cases this
    rw[s,wg]at i⊢;injection i
   ·rw[g9 d,g9 d]at i;exact i
  rw[zc,sM o F];simp;omega
theorem GH{P:Program}{id:FuncId}(H:∀(eV off cap:Nat) (i:au) (w:World),Sort.Holds (Value.int .i64) w eV off i.toArray->i0 i<=9223372036854775807->i0 i<=cap->
   Calls P id #[.slice (dB ⟨eV,off,eH⟩) i.length cap] w λe r=>e=.returned (.slice (dB ⟨eV,off,eH⟩) (Lib.compact i).length cap)/\∃q,r=Sort.putRow (Value.int .i64) (Sort.ahead w q) eV off (Lib.compact i++qh (i0 i-i0 (Lib.compact i)) 0).toArray)
  (F:∀(a:bK) (cap:Nat) (w:World),Calls P id #[.slice a 0 cap] w λe r=>e=.returned (.slice a 0 cap)/\r=w)
  {e:TypeId} {s:Sl} {l:au} {h:f9} (t:Own h e s 1 az l) (B:i0 l<2^40):
  ai P id #[.slice s.ptr s.len s.cap] h λv h'=>v=.slice s.ptr (Lib.compact l).length s.cap/\Own h' e ⟨s.ptr,i0 (Lib.compact l),s.cap⟩ 1 az (Lib.compact l)/\aP (λb=>¬s.on b) h h':=by
 intro w p;have d:=t.len;have y:=t.cap;rcases t.head with⟨h1,h2,h3⟩|⟨b,rest,h1,h2,h3,h4⟩
 ·subst h3;have z:Lib.compact ([]:au)=[]:=rfl;rw[d,h1];refine(F eH s.cap w).mono ?_;rintro G r ⟨rfl,rfl⟩;refine⟨_,i4,cX.refl _,by rw[z];rfl,by rw[z];exact⟨i4,.inl ⟨i4,by simpa using h2,i4⟩⟩,by rw[<-p];exact aP.refl _ _⟩
 ·rw[h1,d];have u:w.heap[b]?=dB (.cells (l.flatMap az++rest).toArray e (0,0)):=by rw[p];exact h2
  refine(H b 0 s.cap l w (Jx u) i5 i5).mono ?_;rintro G r ⟨rfl,n,rfl⟩;have o:=lt_of_block u;have D:=Lib.compact_length_le l;obtain⟨l',g⟩:∃l',l'=Lib.compact l++qh (i0 l-i0 (Lib.compact l)) 0:=⟨_,rfl⟩
  rw[<-g];have m:i0 l'=i0 l:=by rw[g];simp;omega
  have c:∀k,k<h.size->(Sort.putRow (Value.int .i64) (Sort.ahead w n) b 0 l'.toArray).heap[k]?=if b=k then dB (.cells (l'.flatMap az++rest).toArray e (0,0))else h[k]?:=by
   intro k A;simp only[Sort.putRow,Sort.mapBlock,Sort.ahead,ym];by_cases f:b=k
   ·subst f;rw[g0 i4,g0 i4,u,qS,Sort.onCells,LV _ _ _ m]
   ·rw[g9 f,g9 f,p]
  rw[p]at o;have x:Own (Sort.putRow (Value.int .i64) (Sort.ahead w n) b 0 l'.toArray).heap e s 1 az l':=⟨by rw[m];exact d,.inr ⟨b,rest,h1,by rw[c b o,g0 rfl],h3,h4⟩⟩
  have j:=x.cut (λ_=>rfl) (Lib.compact l).length i5;rw[g,xj]at j;refine⟨_,i4,⟨i4,i4,i4,by simp[Sort.putRow,Sort.mapBlock,Sort.ahead]⟩,i4,by rw[h1]at j;rw[g];exact j,by simp[Sort.putRow,Sort.mapBlock,Sort.ahead,p],?_⟩;intro k A E;rw[c k A,g9 λf=>E ⟨0,by rw[h1,f]⟩]
theorem tw(a:au)(t:a.Pairwise (·<=·)):∀m,m<=i0 a->(Lib.compactUpTo a.toArray m).Pairwise (·<·)/\(∀x,x∈Lib.compactUpTo a.toArray m↔∃j,j<m/\a[j]?=dB x)
 |0,_=>⟨by simp[Lib.compactUpTo],λx=>by simp[Lib.compactUpTo]⟩
 |m+1,hm=>by
  obtain⟨v,u⟩:=tw a t m i5;have c:m<i0 a:=i5
  have q:a.toArray[m]! =a[m]:=l5
  rw[Lib.compactUpTo_succ,q];have p:∀j (g:j<m),a[j]'(by omega)<=a[m]:=λj g=>zj.1 t j m i5 c g;by_cases i:Lib.keeps a.toArray m=eR
  ·rw[g0 i];have o:m=0∨a[m-1]'(by omega)<a[m]:=by
    by_cases l:m=0
    ·exact .inl l
    ·right;have f:a.toArray[m-1]! =a[m-1]'(by omega):=by simp[show m-1<i0 a by omega]
     have w:a[m]≠a[m-1]'(by omega):=λn=>by
      have:=Lib.keeps_neg (d:=a.toArray) (m:=m) i5 (by rw[q,f];exact n);rw[this]at i;cases i
     have:=p (m-1) i5;omega
   have k:∀x∈Lib.compactUpTo a.toArray m,x<a[m]:=λx r=>by
    obtain⟨j,g,h⟩:=(u x).1 r;rw[qc i5]at h;injection h with h
    rcases o with h0|h0
    ·omega
    ·have h3:a[j]'(by omega)<=a[m-1]'(by omega):=by
      by_cases b:j=m-1
      ·subst b;exact Int.le_refl _
      ·exact zj.1 t j (m-1) i5 i5 i5
     omega
   refine⟨wP.2 ⟨v,jj,λx r y z=>?_⟩,λx=>?_⟩
   ·rw[qx.1 z];exact k x r
   ·rw[qw,u,qx];constructor
    ·rintro(⟨j,g,e⟩|rfl)
     ·exact⟨j,i5,e⟩
     ·exact⟨m,i5,qc c⟩
    ·rintro⟨j,g,e⟩;by_cases b:j=m
     ·subst b;rw[qc c]at e;injection e with e;exact .inr e.symm
     ·exact .inl ⟨j,i5,e⟩
  ·rw[g9 i,qH];have l:m≠0:=λh0=>i (by subst h0;exact Lib.keeps_lt_one _ 0 i5);have s:a[m]=a[m-1]'(by omega):=by
    by_cases n:a[m]=a[m-1]'(by omega)
    ·exact n
    ·have f:a.toArray[m-1]! =a[m-1]'(by omega):=by simp[show m-1<i0 a by omega]
     exact absurd (Lib.keeps_pos (d:=a.toArray) (m:=m) (by rw[q,f];exact n)) i
   refine⟨v,λx=>?_⟩;rw[u];constructor
   ·rintro⟨j,g,e⟩;exact⟨j,i5,e⟩
   ·rintro⟨j,g,e⟩;by_cases b:j=m
    ·subst b;refine⟨j-1,i5,?_⟩;rw[qc c]at e;rw[qc i5,<-s];exact e
    ·exact⟨j,i5,e⟩
theorem CB(l:au):(iA l).Pairwise (·<=·):=by have:=yA (le:=λx y:Int=>decide (x<=y)) (by intro a b c e d;simp at e d⊢;omega) (by intro a b;simp;omega) l;exact this.imp λh=>j6
theorem Sb(l:au)(h:∀x∈l,0<=x/\x<64):Lib.compact (iA l)=cx l:=by
 obtain⟨f,c⟩:=tw (iA l) (CB l) (iA l).length (qk _);have m:∀x,x∈Lib.compact (iA l)↔x∈l:=λx=>by
  unfold Lib.compact;rw[c,<-uv l x,List.mem_iff_getElem?];constructor
  ·rintro⟨j,_,e⟩;exact⟨j,e⟩
  ·rintro⟨j,e⟩;exact⟨j,(ql.1 e).1,e⟩
 have i:(cx l).Pairwise (·<·):=by unfold cx;refine List.Pairwise.filter _ ?_;rw[List.pairwise_map];exact List.pairwise_lt_range.imp λh=>i5
 have d:∀x,x∈cx l↔x∈l:=λx=>by
  unfold cx;rw[qC,qo];constructor
  ·rintro⟨_,c⟩;simpa using c
  ·intro g;obtain⟨a,b⟩:=h x g;exact⟨⟨x.toNat,qA.2 i5,i5⟩,l7⟩
 have k:(Lib.compact (iA l)).Perm (cx l):=(List.perm_ext_iff_of_nodup (f.imp λh=>i5) (i.imp λh=>i5)).2 λx=>(m x).trans (d x).symm;exact k.eq_of_pairwise (le:=(·<·)) (λa b _ _ f c=>i5) f i
def cb(o b t:Int):Int:=(128*o+16*b+t)%4294967296
def dz(m:aw)(r:cP):Bool:=iR r&&(decide (r.p=m.p)&&m.objs.any λx=>decide (x.object=r.object)&&(decide (r.block<(x.tries.length:Int))&&decide (r.seed=cb r.object r.block (x.tries.getD r.block.toNat 0))))
def oZ(a b:cP):Bool:=decide (a.object<b.object∨(a.object=b.object/\(a.block<b.block∨(a.block=b.block/\a.id<=b.id))))
def mL(a b:cP):Bool:=decide (a.object=b.object/\a.block=b.block/\a.id=b.id)
def GI:cP:=⟨0,0,0,(0,0,0),0,[]⟩
def pU(l:List cP)(k:Nat):Bool:=decide (k=0)||!mL (l.getD k GI) (l.getD (k-1) GI)
def pu(l:List cP):List cP:=((qt l.length).filter (pU l)).map λi=>l.getD i GI
def jg(m:aw)(c:aM):Option cP:=match dg c with|some r=>if dz m r then dB r else eH|none=>eH
def fp(m:aw)(l:bY):List cP:=pu ((l.filterMap (jg m)).mergeSort oZ)
theorem adf:Ord oZ:=⟨λa b c e d=>by
 unfold oZ at*;rw[decide_eq_true_eq]at*;omega,λa b=>by
 unfold oZ;rw[wv,decide_eq_true_eq,decide_eq_true_eq];omega⟩
theorem Se(m:aw)(l:bY)(i:Nat)(a:i<i0 l):(l.take (i+1)).filterMap (jg m)=(l.take i).filterMap (jg m)++(jg m l[i]).toList:=by
 have:l.take (i+1)=l.take i++[l[i]]:=by rw[List.take_add_one,qc a];rfl
 rw[this,List.filterMap_append];cases hg:jg m l[i]with
 |none=>simp[hg]
 |some r=>simp[hg]
section
variable {C:Ctx}
theorem BL(z:aR)(n:Nat):(yy z.toArray n).toList.length=n*i0 z:=by simp[yy]
theorem KG{z:aR}(d:∀v∈z,v.oneCell'=eR)(n:Nat):∀v∈(yy z.toArray n).toList,v.oneCell'=eR:=by
 intro v c;simp only[yy,vX,qo,Array.mem_toList_iff,Array.mem_range]at c;obtain⟨i,a,rfl⟩:=c;simp only[yc]at a⊢;have h0:0<i0 z:=by
  rcases Nat.eq_zero_or_pos z.length with h|h
  ·rw[h]at a;simp at a
  ·exact h
 have b:=yK i h0;rw[getElem!_pos z.toArray _ kt];exact d _ jj
theorem Own.rp(y:C.Ok)(g:Own h e s k f l)(w:bO C.toxZ t e k z by_)(n:∀x,i0 (f x)=k)(A:i0 z=k)(d:∀v∈z,v.oneCell'=eR)(j:Nat)(B:j<=i0 l){ty:Nat}{K:f9->Prop}
  (p:∀h',Own h' e ⟨s.ptr,j,s.cap⟩ k f (l.take j)->aP (λb=>¬s.on b) h h'->K h'):
  aj C.P (vL #[t] ty #[.slice (if s.cap=j then s.ptr else s.ptr.map (·.add (j*k))) (s.len-j) (s.cap-j)]) h λ_ h'=>K h':=by
 have T:=g.len;have c:=g.cut n j B;unfold vL;refine aj.bind (aj.always (aH (w.under y)) ?_);by_cases r:j=i0 l
 ·have I:s.len-j=0:=i5
  rw[I];generalize (if s.cap=j then s.ptr else s.ptr.map (·.add (j*k)))=q;cases q with
  |none=>exact aj.pure' (p h c (aP.refl _ _))
  |some a=>exact aj.pure' (p h c (aP.refl _ _))
 ·rcases g.head with⟨h1,h2,h3⟩|⟨b,rest,h1,h2,h3,h4⟩
  ·subst h3;simp at B r;omega
  ·have i:s.cap≠j:=i5
   rw[g9 i,h1];obtain⟨m,H⟩:∃m,s.len-j=m+1:=⟨s.len-j-1,i5⟩
   rw[H];obtain⟨R,U,Q,O,E,S,G,N⟩:=w.ex;obtain⟨J,D,M⟩:=pM y.toOk E;refine aj.bind (aj.always D ?_);have u:J.cells=z.toArray:=by apply yC;rw[M,G]
   rw[u];refine aj.bind ?_;have F:((⟨b,0,eH⟩:f7).add (j*k))=⟨b,j*k,eH⟩:=by simp[add_eq]
   show aj C.P (storeCells ((⟨b,0,eH⟩:f7).add (j*k)) (yy z.toArray (m+1)).toList) h _;rw[F];have o:i0 (l.drop j)=m+1:=i9
   refine fV (e:=e) (pre:=(l.take j).flatMap f) (old:=(l.drop j).flatMap f) (post:=rest) ?_ ?_ ?_ (KG d _) ?_
   ·rw[<-zf,qB];exact h2
   ·rw[ez n,o,BL,A]
   ·rw[ez n,qP,yj i5];omega
   ·refine aj.pure' (p _ ⟨i9,.inr ⟨b,(yy z.toArray (m+1)).toList++rest,h1,?_,?_,i7⟩⟩ ?_)
    ·rw[iQ h2,g0 rfl];simp
    ·rw[qp,BL,A,h3,<-Nat.add_mul];dsimp only;congr 1;omega
    ·exact aP.jb h2 λL=>L ⟨0,h1⟩
theorem aa.rp(o:C.Ok)(H:aa B h0 h As)(i:Nat)(m:As[i]?=dB (an e s k f l))(n:bO C.toxZ t e k z by_)(r:∀x,i0 (f x)=k)(p:i0 z=k)(a:∀v∈z,v.oneCell'=eR)(j:Nat)(u:j<=i0 l){ty:Nat}{K:f9->Prop}
  (w:∀h',aa B h0 h' (As.set i (an e ⟨s.ptr,j,s.cap⟩ k f (l.take j)))->K h'):
  aj C.P (vL #[t] ty #[.slice (if s.cap=j then s.ptr else s.ptr.map (·.add (j*k))) (s.len-j) (s.cap-j)]) h λ_ h'=>K h':=
 (H.own i m).rp o n r p a j u λh' x y=>w h' (H.step i m λq g _=>⟨y.mono λb _ c d=>c (g.2 b d),x,λb c=>⟨x.lt c,.inl (g.2 b c)⟩⟩)
end
theorem Lh:∀x y:aM,(Op.bytesLess x y||x==y)=!Op.bytesLess y x
 |[],[]=>rfl
 |[],_::_=>rfl
 |_::_,[]=>by simp[Op.bytesLess]
 |a::x,b::y=>by
  have f:=Lh x y;have e:a<b∨a=b∨b<a:=by
   rcases yd a.toNat b.toNat with h|h|h
   ·exact .inl (zU.2 h)
   ·exact .inr (.inl (wy.1 h))
   ·exact .inr (.inr (zU.2 h))
  rcases e with h|rfl|h
  ·have c:¬b<a:=λh'=>by have:=zU.1 h;have:=zU.1 h';omega
   have d:b≠a:=λh'=>by subst h';exact c h
   simp[Op.bytesLess,h,c,d]
  ·have c:¬a<a:=λh'=>by have:=zU.1 h';omega
   simp only[Op.bytesLess,c,decide_false,Bool.false_or,beq_self_eq_true,zS];rw[<-f];congr 1;simp
  ·have c:¬a<b:=λh'=>by have:=zU.1 h;have:=zU.1 h';omega
   have d:a≠b:=λh'=>by subst h';exact c h
   simp[Op.bytesLess,h,c,d]
theorem Ej:∀x y z:aM,Op.bytesLess x y=eR->Op.bytesLess y z=eR->Op.bytesLess x z=eR
 |x,[],_,h1,_=>by cases x<;>simp[Op.bytesLess]at h1
 |_,b::y,[],_,h2=>by simp[Op.bytesLess]at h2
 |[],_::_,_::_,_,_=>rfl
 |a::x,b::y,c::z,h1,h2=>by
  simp only[Op.bytesLess,wv,decide_eq_true_eq,qu,beq_iff_eq]at h1 h2⊢;rcases h1 with h1|⟨rfl,h1⟩
  ·rcases h2 with h2|⟨rfl,h2⟩
   ·exact .inl (zU.2 (by have:=zU.1 h1;have:=zU.1 h2;omega))
   ·exact .inl h1
  ·rcases h2 with h2|⟨rfl,h2⟩
   ·exact .inl h2
   ·exact .inr ⟨i4,Ej x y z h1 h2⟩
theorem UJ(x:aM):Op.bytesLess x x=eS:=by
 have:=Lh x x;cases h:Op.bytesLess x x with
 |false=>rfl
 |true=>rw[h]at this;simp at this
def jK(a b:ByteArray):Bool:=!fg b a
theorem GJ(a b:ByteArray):jK a b=eR↔fg a b=eR∨a.toList=b.toList:=by unfold jK fg;rw[<-Lh,wv,beq_iff_eq]
theorem CC(a b c:ByteArray)(e:jK a b=eR)(d:jK b c=eR):jK a c=eR:=by
 rw[GJ]at e d⊢;unfold fg at*;rcases e with e|e
 ·rcases d with d|d
  ·exact .inl (Ej _ _ _ e d)
  ·rw[<-d];exact .inl e
 ·rw[e];exact d
theorem CD(a b:ByteArray):(jK a b||jK b a)=eR:=by
 unfold jK;cases h:fg b a with
 |false=>rfl
 |true=>
  have:fg a b=eS:=by
   cases h2:fg a b with
   |false=>rfl
   |true=>
    have:=Ej _ _ _ h h2;rw[UJ]at this;cases this
  rw[this];rfl
def pV(a b:ci):Bool:=jK a.name b.name
def dh(m:aw)(x:ci):aw:={m with seq:=m.seq+1,next:=m.next+1,objs:=(m.objs++[x]).mergeSort pV}
section
open Classical
theorem lj(a:UInt8):a^^^a=0:=UInt8.xor_self
theorem pv(a b:UInt8):(a^^^b)^^^b=a:=by rw[UInt8.xor_assoc,lj,zT]
theorem cy{c:UInt8}{a t:Row}(h:i0 a=i0 t)(j:Nat):aJ (cK c a t) j=aJ t j^^^Gf.mul c (aJ a j):=by
 simp only[aJ,cK,qd,wc];by_cases b:j<i0 a
 ·rw[qc b,qc i5];rfl
 ·rw[qM i5,qM i5];simp[Gf.mul_zero]
theorem uB(c:UInt8)(a:Row)(j:Nat):aJ (scaleB c a) j=Gf.mul c (aJ a j):=by
 simp only[aJ,scaleB,qd,qO];cases a[j]? with
 |none=>simp[Gf.mul_zero]
 |some x=>rfl
def aG(n:Nat):Row:=qh n 0
theorem cg(n j:Nat):aJ (aG n) j=0:=by simp only[aJ,aG,qd,List.getElem?_replicate];split<;>rfl
theorem eE{n:Nat}{a b:Row}(f:i0 a=n)(e:i0 b=n)(h:∀j,j<n->aJ a j=aJ b j):a=b:=by apply wB i5;intro j d c;have:=h j i5;simpa[aJ,qd,qc d,qc c]using this
inductive Span (n:Nat) (m:aI):Row->Prop
 |zero:Span n m (aG n)
 |add (c:UInt8) (r v:Row):r∈m->Span n m v->Span n m (cK c r v)
section
variable {n:Nat} {m m':aI}
theorem Span.len(a:aQ n m){v:Row}(h:Span n m v):i0 v=n:=by
 induction h with
 |zero=>simp[aG]
 |add c r v hr _ ih=>rw[bM (by rw[a r hr,ih])];exact ih
theorem Span.comb(a:aQ n m){u v:Row}(e:Span n m u)(b:Span n m v)(c:UInt8):Span n m (cK c u v):=by
 induction e with
 |zero=>
  have:cK c (aG n) v=v:=eE (n:=n) (by rw[bM (by simp[aG,b.len a])];exact b.len a) (b.len a) λj _=>by
   rw[cy (by simp[aG,b.len a]),cg,Gf.mul_zero,zT]
  rw[this];exact b
 |add d r w hr hw ih=>
  have l1:=b.len a;have l2:=hw.len a;have f:=a r hr;have:cK c (cK d r w) v=cK (Gf.mul c d) r (cK c w v):=eE (n:=n) (by rw[bM k9];exact l1) (by rw[bM k9,bM];exact l1) λj _=>by
   rw[cy k9,cy i5,cy k9,cy i5,Gf.jY,Gf.mul_assoc]
   ac_rfl
  rw[this];exact .add _ _ _ hr ih
theorem Span.row(b:aQ n m){r:Row}(a:r∈m):Span n m r:=by
 have:=Span.add 1 r _ a (.zero (n:=n) (m:=m));have e:cK 1 r (aG n)=r:=eE (n:=n) (by rw[bM (by simp[aG,b r a])];simp[aG]) (b r a) λj _=>by
  rw[cy (by simp[aG,b r a]),cg,Gf.one_mul,wz]
 rwa [e]at this
theorem Span.sub(b:aQ n m)(h:∀r∈m',Span n m r){v:Row}(a:Span n m' v):Span n m v:=by
 induction a with
 |zero=>exact .zero
 |add c r v hr _ ih=>exact(h r hr).comb b ih c
theorem Span.mono(h:∀r∈m',r∈m){v:Row}(a:Span n m' v):Span n m v:=by
 induction a with
 |zero=>exact .zero
 |add c r v hr _ ih=>exact .add c r v (h r hr) ih
theorem Span.lin(d:aQ n m)(φ:Row->UInt8)(e:φ (aG n)=0)(g:∀c a t,i0 a=n->i0 t=n->φ (cK c a t)=φ t^^^Gf.mul c (φ a))(f:∀r∈m,φ r=0){v:Row}(b:Span n m v):φ v=0:=by
 induction b with
 |zero=>exact e
 |add c r v hr' b ih=>rw[g c r v (d r hr') (b.len d),ih,f r hr',Gf.mul_zero,zT]
end
def vP(S:Row->Prop)(j:Nat):Prop:=∃v,S v/\(∀i,i<j->aJ v i=0)/\aJ v j≠0
noncomputable def leads(S:Row->Prop)(n:Nat):Nat:=(qt n).countP λj=>decide (vP S j)
structure Way (n:Nat) (m:aI) (c top:Nat) (rows:aI):Prop where
 even:aQ n rows
 len:i0 rows=i0 m
 tle:top<=i0 rows
 span:∀v,Span n rows v↔Span n m v
 cnt:top=leads (Span n m) c
 piv:∃p:Nat->Nat,(∀i,i<top->p i<c)/\(∀i,i<top->∀k,k<i0 rows->aJ (aA rows k) (p i)=if k=i then 1 else 0)/\(∀i,i<top->∀j,j<p i->aJ (aA rows i) j=0)/\(∀i j,i<j->j<top->p i<p j)
 low:∀k,top<=k->k<i0 rows->∀j,j<c->aJ (aA rows k) j=0
theorem mem_row{m:aI}{i:Nat}(h:i<i0 m:=by omega):aA m i∈m:=by rw[bm h];exact qf h
theorem fa{m:aI}{r:Row}(h:r∈m):∃i,i<i0 m/\r=aA m i:=by obtain⟨i,a,rfl⟩:=qD h;exact⟨i,a,(bm a).symm⟩
theorem kQ{m:aI}{i j:Nat}{r:Row}(a:i<i0 m:=by omega):aA (m.set i r) j=if i=j then r else aA m j:=by
 simp only[aA,qd,qV];by_cases h:i=j
 ·subst h;simp[a]
 ·simp[h]
theorem tz{m:aI}{i j k:Nat}(c:i<i0 m)(d:j<i0 m):aA (jc m i j) k=if k=j then aA m i else if k=i then aA m j else aA m k:=by
 rw[jc,kQ o4,kQ c];by_cases b:j=k
 ·rw[g0 b,g0 b.symm]
 ·rw[g9 b,g9 (show¬k=j fromλh=>b h.symm)];by_cases a:i=k
  ·rw[g0 a,g0 a.symm]
  ·rw[g9 a,g9 (show¬k=i fromλh=>a h.symm)]
theorem AP{m:aI}{t c k:Nat}(a:t<i0 m):aA (jR t c m) k=if t=k then scaleB (Gf.inv (aJ (aA m t) c)) (aA m t)else aA m k:=by rw[jR,kQ a]
section
variable {n:Nat} {m:aI}
theorem UK(l:aQ n m){i j:Nat}(a:i<i0 m)(b:j<i0 m)(v:Row):Span n (jc m i j) v↔Span n m v:=by
 refine⟨Span.mono λr d=>?_,Span.mono λr d=>?_⟩
 ·obtain⟨k,c,rfl⟩:=fa d;rw[li]at c;rw[tz a b];split
  ·exact mem_row a
  ·split
   ·exact mem_row b
   ·exact mem_row c
 ·obtain⟨k,c,rfl⟩:=fa d;have e:∀x,x<i0 m->aA (jc m i j) x∈jc m i j:=λx h=>mem_row (by rw[li];exact h);by_cases f:k=i
  ·subst f;have:=e j b;rw[tz a b,g0 rfl]at this;exact this
  ·by_cases g:k=j
   ·subst g;have:=e i a;rw[tz a b]at this;by_cases h3:i=k
    ·exact absurd h3.symm f
    ·rw[g9 h3,g0 rfl]at this;exact this
   ·have:=e k c;rw[tz a b,g9 g,g9 f]at this;exact this
theorem UL(f:aQ n m){t c:Nat}(a:t<i0 m)(i:aJ (aA m t) c≠0)(v:Row):Span n (jR t c m) v↔Span n m v:=by
 have d:=uy f (c:=c) a;have h:=ce f a;have q:∀(x:UInt8) (r:Row),i0 r=n->scaleB x r=cK x r (aG n):=λx r b=>eE (n:=n) (by rw[nP,b]) (by rw[bM (by simp[aG,b])];simp[aG]) λj _=>by
  rw[uB,cy (by simp[aG,b]),cg,wz]
 refine⟨Span.sub f λr b=>?_,Span.sub d λr b=>?_⟩
 ·obtain⟨k,g,rfl⟩:=fa b;rw[nD]at g;rw[AP a];split
  ·rw[q _ _ h];exact .add _ _ _ (mem_row a) .zero
  ·exact Span.row f (mem_row g)
 ·obtain⟨k,g,rfl⟩:=fa b;have e:∀x,x<i0 m->Span n (jR t c m) (aA (jR t c m) x):=λx p=>Span.row d (mem_row (by rw[nD];exact p));by_cases l:t=k
  ·subst l;have:=e t a;rw[AP a,g0 rfl]at this;have o:=this.comb d .zero (aJ (aA m t) c);have s:cK (aJ (aA m t) c) (scaleB (Gf.inv (aJ (aA m t) c)) (aA m t)) (aG n)=aA m t:=eE (n:=n) (by rw[bM (by simp[aG,nP,h])];simp[aG]) h λj _=>by
    rw[cy (by simp[aG,nP,h]),cg,wz,uB,<-Gf.mul_assoc,Gf.ID i,Gf.one_mul]
   rw[s]at o;exact o
  ·have:=e k g;rw[AP a,g9 l]at this;exact this
theorem UM(d:aQ n m){t c:Nat}(f:t<i0 m)(v:Row):Span n (eZ t c m m.length) v↔Span n m v:=by
 have b:=uz d (c:=c) (k:=i0 m) f;have s:=ce d f;refine⟨Span.sub d λr i=>?_,Span.sub b λr i=>?_⟩
 ·obtain⟨k,a,rfl⟩:=fa i;rw[nE]at a;rw[pr a];split
  ·exact .add _ _ _ (mem_row f) (Span.row d (mem_row a))
  ·exact Span.row d (mem_row a)
 ·obtain⟨k,a,rfl⟩:=fa i;have e:∀x,x<i0 m->Span n (eZ t c m m.length) (aA (eZ t c m m.length) x):=λx p=>Span.row b (mem_row (by rw[nE];exact p));have h:=e t f;rw[pr f,g9 jj]at h;by_cases l:k=t
  ·subst l;exact h
  ·have o:=e k a;rw[pr a,g0 ⟨a,l⟩]at o;have h3:=h.comb b o (aJ (aA m k) c);have g:=ce d a;have q:cK (aJ (aA m k) c) (aA m t) (cK (aJ (aA m k) c) (aA m t) (aA m k))=aA m k:=eE (n:=n) (by rw[bM k9,bM];exact g) g λj _=>by
    rw[cy k9,cy i5,pv]
   rw[q]at h3;exact h3
def bI(f g:Nat->UInt8):Nat->UInt8
 |0=>0
 |k+1=>bI f g k^^^Gf.mul (f k) (g k)
theorem fR(f g:Nat->UInt8):∀k,(∀i,i<k->f i=0)->bI f g k=0
 |0,_=>rfl
 |k+1,h=>by rw[bI,fR f g k λi a=>h i i5,h k i5,Gf.zero_mul];rfl
theorem Ek(f g:Nat->UInt8)(x:Nat):∀k,x<k->(∀i,i<k->f i=if x=i then 1 else 0)->bI f g k=g x
 |0,hx,_=>i5
 |k+1,hx,h=>by
  rw[bI];by_cases a:x=k
  ·subst a;rw[fR f g x λi b=>by rw[h i i5,g9 i5],h x i5,g0 i4,Gf.one_mul,wz]
  ·rw[Ek f g x k i5 λi b=>h i i5,h k i5,g9 a,Gf.zero_mul,zT]
theorem El(a b g:Nat->UInt8)(c:UInt8):∀k,bI (λi=>a i^^^Gf.mul c (b i)) g k=bI a g k^^^Gf.mul c (bI b g k)
 |0=>by simp[bI,Gf.mul_zero]
 |k+1=>by
  rw[bI,bI,bI,El a b g c k,Gf.jY,Gf.Qn,Gf.mul_assoc]
  ac_rfl
theorem GK(S:Row->Prop)(c:Nat):leads S (c+1)=leads S c+if vP S c then 1 else 0:=by simp only[leads,zL,List.countP_append,List.countP_cons,List.countP_nil];by_cases h:vP S c<;>simp[h]
theorem UN(b:aQ n m):Way n m 0 0 m:=⟨b,i4,i5,λ_=>Iff.rfl,by simp[leads],⟨λ_=>0,λi a=>i5,λi a=>i5,λi a=>i5,λi j _ c=>i5⟩,λk _ _ j c=>i5⟩
theorem Yb(hm:aQ n m){c b:Nat}{rows:aI}(w:Way n m c b rows)(hc:c<n):Way n m (c+1) (jd (b,rows) c).1 (jd (b,rows) c).2:=by
 obtain⟨G,R,al,S,L,⟨p,P,p2,p3,p4⟩,f⟩:=w;have hS:∀v,Span n rows v↔Span n m v:=S;have Y:Span n rows=Span n m:=funext λv=>propext (hS v);unfold jd;dsimp only;cases hb:iM rows b c with
 |none=>
  have T:=Ov hb;dsimp only;have ah:¬vP (Span n m) c:=by
   rw[<-Y];rintro⟨v,hv,hz,am⟩;apply am;have hφ:=Span.lin G (λv=>aJ v c^^^bI (λi=>aJ v (p i)) (λi=>aJ (aA rows i) c) b) (by
     simp only[cg];rw[fR _ _ _ λi _=>rfl];rfl) (λx a t ha ht=>by
     simp only[cy (show a.length=i0 t by omega)];rw[El,Gf.jY];ac_rfl) (λr hr=>by
     obtain⟨k,F,rfl⟩:=fa hr;by_cases N:k<b
     ·rw[Ek _ _ k b N λi E=>by rw[p2 i E k F]];exact lj _
     ·rw[T k i5 F,fR _ _ _ λi E=>by rw[p2 i E k F,g9 i5]];rfl) hv
   rw[fR _ _ _ λi E=>hz _ (P i E),zT]at hφ;exact hφ
  refine⟨G,R,al,S,by rw[GK,g9 ah,L];rfl,⟨p,λi E=>by have:=P i E;omega,p2,p3,p4⟩,λk z D j d=>?_⟩;rcases zi.1 d with h|rfl
  ·exact f k z D j h
  ·exact T k z D
 |some at_=>
  have hh:=pT hb;obtain⟨h1,Z,h3⟩:=hh;dsimp only;have o:b<i0 rows:=i5
  obtain⟨g,A⟩:∃g,g=jc rows b at_:=⟨_,rfl⟩
  have l1:i0 g=i0 rows:=by rw[A,li]
  have X:aQ n g:=by rw[A];exact Cw G o Z
  have q1:∀k,aA g k=if k=at_ then aA rows b else if k=b then aA rows at_ else aA rows k:=λk=>by rw[A,tz o Z]
  have W:aA g b=aA rows at_:=by
   rw[q1];by_cases h:b=at_
   ·rw[g0 h,h]
   ·rw[g9 h,g0 rfl]
  have I:aJ (aA g b) c≠0:=by rw[W];exact h3
  obtain⟨s,B⟩:∃s,s=jR b c g:=⟨_,rfl⟩
  have l2:i0 s=i0 rows:=by rw[B,nD,l1]
  have u:aQ n s:=by rw[B];exact uy X i5
  have q2:∀k,aA s k=if b=k then scaleB (Gf.inv (aJ (aA g b) c)) (aA g b)else aA g k:=λk=>by rw[B,AP i5]
  have ab:∀j,aJ (aA g b) j=0->aJ (aA s b) j=0:=λj d=>by rw[q2,g0 i4,uB,d,Gf.mul_zero]
  have l:aJ (aA s b) c=1:=by rw[q2,g0 i4,uB,Gf.mul_comm,Gf.ID I]
  obtain⟨J,q⟩:∃J,J=eZ b c s rows.length:=⟨_,rfl⟩
  have l3:i0 J=i0 rows:=by rw[q,nE,l2]
  have q3:∀k,k<i0 rows->∀j,aJ (aA J k) j=if k=b then aJ (aA s b) j else aJ (aA g k) j^^^Gf.mul (aJ (aA g k) c) (aJ (aA s b) j):=λk F j=>by
   rw[q,pr i5];by_cases h:k=b
   ·rw[g9 i5,g0 h,h]
   ·have e:=q2 k;rw[g9 λhh=>h hh.symm]at e;rw[g0 ⟨F,h⟩,g9 h,cy (by rw[ce u,ce u]),e]
  have V:∀j,j<c->aJ (aA s b) j=0:=λj d=>ab j (by rw[W];exact f at_ h1 Z j d);have keep:∀k,k<i0 rows->∀j,j<c->aJ (aA J k) j=if k=b then 0 else aJ (aA g k) j:=λk F j d=>by
   rw[q3 k F,V j d,Gf.mul_zero,zT]
  have M:∀k,k<b->aA g k=aA rows k:=λk F=>by rw[q1,g9 i5,g9 i5]
  have K:∀k,b<=k->k<i0 rows->∀j,j<c->aJ (aA g k) j=0:=λk z D j d=>by
   rw[q1];split
   ·exact f b (qk _) o j d
   ·split
    ·exact f at_ h1 Z j d
    ·exact f k z D j d
  have y:∀v,Span n J v↔Span n m v:=λv=>by
   rw[q,show rows.length=i0 s by omega,UM u i5,B,UL X i5 I,A,UK G o Z,hS]
  have Q:vP (Span n m) c:=⟨aA J b,(y _).1 (Span.row (by rw[q];exact uz u i5) (mem_row)),λj d=>by rw[keep b o j d,g0 rfl],by rw[q3 b o,g0 i4,l];decide⟩
  have U:eZ b c (jR b c (jc rows b at_)) rows.length=J:=by rw[q,B,A]
  rw[U];refine⟨by rw[q];exact uz u i5,i5,i5,y,by rw[GK,g0 Q,L],⟨λi=>if i<b then p i else c,λi E=>?_,λi E k F=>?_,λi E j d=>?_,λi j ad d=>?_⟩,λk z D j d=>?_⟩
  ·dsimp only;split
   ·have:=P i n9;omega
   ·omega
  ·dsimp only;by_cases hit:i<b
   ·rw[g0 hit,keep k i5 _ (P i hit)];by_cases N:k<b
    ·rw[g9 i5,M k N];exact p2 i hit k i5
    ·rw[g9 (show¬k=i by omega)];split
     ·rfl
     ·exact K k i5 i5 _ (P i hit)
   ·have O:i=b:=i5
    subst O;rw[g9 hit,q3 k i5];by_cases H:k=i
    ·rw[g0 H,g0 H];exact l
    ·rw[g9 H,g9 H,l,Gf.mul_one];exact lj _
  ·dsimp only at d;by_cases hit:i<b
   ·rw[g0 hit]at d;have:=P i hit;rw[keep i i5 j i5,g9 i5,M i hit];exact p3 i hit j d
   ·have O:i=b:=i5
    subst O;rw[g9 hit]at d;rw[keep i i5 j d,g0 rfl]
  ·dsimp only;rw[g0 (show i<b by omega)];split
   ·exact p4 i j ad n9
   ·exact P i i5
  ·rcases zi.1 d with h|rfl
   ·rw[keep k i5 j h,g9 i5];exact K k i5 i5 j h
   ·rw[q3 k i5,g9 i5,l,Gf.mul_one];exact lj _
theorem Em(a:aQ n m):∀c,c<=n->Way n m c (bA m c).1 (bA m c).2
 |0,_=>UN a
 |c+1,h=>by rw[bA];exact Yb a (Em a c i5) i5
theorem kh:∀c,bA [] c=(0,[])
 |0=>rfl
 |c+1=>by rw[bA,kh c];rfl
theorem ly(a:aQ n m):bL m=leads (Span n m) n:=by
 rw[<-(Em a n (qk _)).cnt,bL];cases m with
 |nil=>rw[kh,kh]
 |cons x t=>rw[eC,bm jj];rw[show((x::t)[0]).length=n from a _ jj]
end
section
variable {n:Nat} {m m':aI}
theorem Sf{S a:Row->Prop}(h:∀v,S v->a v)(n:Nat):leads S n<=leads a n:=by refine List.countP_mono_left λj _ b=>?_;simp only[decide_eq_true_eq]at b⊢;obtain⟨v,d,c⟩:=b;exact⟨v,h v d,c⟩
theorem kR(a:aQ n m):bL m<=n:=by rw[ly a];have:=List.countP_le_length (p:=λj=>decide (vP (Span n m) j)) (l:=qt n);simpa[leads]using this
theorem CE(b:aQ n m)(a:aQ n m')(h:∀r∈m,r∈m'):bL m<=bL m':=by rw[ly b,ly a];exact Sf (λv=>Span.mono h) n
theorem UO{P Q:Nat->Bool}(l:List Nat)(d:l.Nodup)(i:∀a∈l,P a=eR->Q a=eR)(e:∀a∈l,∀b∈l,Q a=eR->P a=eS->Q b=eR->P b=eS->a=b):l.countP Q<=l.countP P+1:=by
 induction l with
 |nil=>simp
 |cons x t ih=>
  rw[List.nodup_cons]at d;have g:=ih d.2 (λa c=>i a l5) λa c b h=>e a l5 b sL;simp only[List.countP_cons];cases hQ:Q x with
  |false=>
   have:(if P x=eR then 1 else 0)>=0:=i5
   simp;omega
  |true=>
   cases hP:P x with
   |true=>simp;omega
   |false=>
    have:t.countP Q<=t.countP P:=by
     refine List.countP_mono_left λa c f=>?_;cases hpa:P a with
     |true=>rfl
     |false=>
      have:=e x jj a l5 hQ hP f hpa;subst this;exact absurd c d.1
    simp;omega
theorem JC(f:aQ n m){r:Row}(e:i0 r=n){v:Row}(l:Span n (m++[r]) v):∃(c:UInt8) (u:Row),Span n m u/\v=cK c r u:=by
 have k:aQ n (m++[r]):=λx b=>by
  rcases qw.1 b with h|h
  ·exact f x h
  ·rw[qx.1 h];exact e
 induction l with
 |zero=>exact⟨0,aG n,.zero,(eE (n:=n) (by rw[bM (by simp[aG,e])];simp[aG]) k8 λj _=>by rw[cy (by simp[aG,e]),cg,Gf.zero_mul];rfl).symm⟩
 |add d x w b hw ih=>
  obtain⟨c,u,g,rfl⟩:=ih;have a:=g.len f;rcases qw.1 b with h|h
  ·have o:=f x h;refine⟨c,cK d x u,.add d x u h g,eE (n:=n) (by rw[bM k9,bM];exact a) (by rw[bM k9,bM];exact a) λj _=>?_⟩;rw[cy k9,cy i5,cy k9,cy i5]
   ac_rfl
  ·have i:=qx.1 h;subst i;refine⟨c^^^d,u,g,eE (n:=n) (by rw[bM k9,bM];exact a) (by rw[bM];exact a) λj _=>?_⟩;rw[cy k9,cy i5,cy i5,Gf.Qn]
   ac_rfl
theorem mu(b:aQ n m){r:Row}(c:i0 r=n):aQ n (m++[r]):=λx a=>by
 rcases qw.1 a with h|h
 ·exact b x h
 ·rw[qx.1 h];exact c
theorem UP(f:aQ n m){r:Row}(B:i0 r=n):bL m<=bL (m++[r])/\bL (m++[r])<=bL m+1:=by
 have q:=mu f B;refine⟨CE f q λx A=>by simp[A],?_⟩;rw[ly f,ly q];refine UO _ List.nodup_range (λa _ K=>?_) (λa _ b _ E l F p=>?_)
 ·simp only[decide_eq_true_eq]at K⊢;obtain⟨v,I,J⟩:=K;exact⟨v,Span.mono (λx A=>by simp[A]) I,J⟩
 ·simp only[decide_eq_true_eq,decide_eq_false_iff_not]at E l F p;have o:∀a b,vP (Span n (m++[r])) a->¬vP (Span n m) a->vP (Span n (m++[r])) b->¬vP (Span n m) b->¬a<b:=by
   rintro a b ⟨v,L,M,t⟩ l ⟨w,N,h,k⟩ p G;obtain⟨c,u,H,rfl⟩:=JC f B L;obtain⟨d,s,g,rfl⟩:=JC f B N;have l1:=H.len f;have l2:=g.len f;have O:d≠0:=by
    rintro rfl;apply p;refine⟨s,g,λi D=>?_,?_⟩
    ·have:=h i D;rw[cy i5,Gf.zero_mul,zT]at this;exact this
    ·rw[cy i5,Gf.zero_mul,zT]at k;exact k
   apply l;refine⟨cK (Gf.mul c (Gf.inv d)) s u,g.comb f H _,?_⟩;have e:∀j,aJ (cK (Gf.mul c (Gf.inv d)) s u) j=aJ (cK c r u) j^^^Gf.mul (Gf.mul c (Gf.inv d)) (aJ (cK d r s) j):=λj=>by
    rw[cy i5,cy i5,cy i5,Gf.jY,<-Gf.mul_assoc (Gf.mul c (Gf.inv d)) d,Gf.mul_assoc c (Gf.inv d) d,Gf.mul_comm (Gf.inv d) d,Gf.ID O,Gf.mul_one];have:∀x y z:UInt8,x^^^y=x^^^z^^^(y^^^z):=λx y z=>by
     have:x^^^z^^^(y^^^z)=x^^^y^^^(z^^^z):=by ac_rfl
     rw[this,lj,zT]
    exact this _ _ _
   refine⟨λi D=>?_,?_⟩
   ·rw[e,M i D,h i i5,Gf.mul_zero];rfl
   ·rw[e,h a G,Gf.mul_zero,zT];exact t
  have I:=o a b E l F p;have J:=o b a F p E l;omega
theorem ow(m:aI)(h:aQ n m):bL m<=i0 m:=by
 have a:∀k,k<=i0 m->bL (m.take k)<=k:=by
  intro k
  induction k with
  |zero=>intro _;simp[bL,eC,aA,bA]
  |succ k ih=>
   intro d;have b:aQ n (m.take k):=λx c=>h x (zN c);have f:=ih i5;rw[zF i5];have e:=(UP b (h _ (qf (show k<i0 m by omega)))).2;omega
 have:=a m.length (qk _)
 rwa [qg (qk _)]at this
end
def mM(p:Int×Int×Int)(seed:Int)(ids:au):Nat:=bL (dE p seed ids)
def fq(p:Int×Int×Int)(seed:Int)(ids:au):Bool:=bx p&&((mM p seed ids:Int)==bu p)
def eF(p:Int×Int×Int):au:=upto (max 0 (min p.1 16)).toNat
theorem nG{p:Int×Int×Int}(h:bx p=eR):bu p=p.1+p.2.1:=by rw[bu,g0 h]
theorem jr(p:Int×Int×Int)(seed:Int)(ids:au):aQ (bu p).toNat (dE p seed ids):=by
 intro r a;unfold dE at a;split at a
 ·rename_i b;have:=(bN p).1 b;rcases qw.1 a with h|h
  ·obtain⟨x,_,rfl⟩:=qo.1 h;rw[tu,nG b];omega
  ·obtain⟨x,_,rfl⟩:=qo.1 h;exact LZ _ _ _
 ·cases a
theorem Yc(p:Int×Int×Int)(seed:Int)(ids:au):i0 (dE p seed ids)<=4+i0 ids:=by
 unfold dE;split
 ·rename_i a;have:=(bN p).1 a;have b:=List.length_filter_le bJ ids;simp only[qp,bn,qy,zA];omega
 ·simp
theorem GL(K H:Nat):aQ (K+H) (bn K H):=λr a=>by
 obtain⟨x,_,rfl⟩:=qo.1 a;exact tu _ _ _
theorem Yd(p:Int×Int×Int)(seed:Int)(ids:au):(mM p seed ids:Int)<=bu p:=by
 have h:=kR (jr p seed ids);have:0<=bu p:=by
  unfold bu;split
  ·rename_i a;have:=(bN p).1 a;omega
  ·omega
 rw[mM];omega
def eT(a b:aI):aI:=za (·++·) a b
def kB(n:Nat)(m:aI):aI:=m.map (List.take n)
theorem Fw{r:Row}{n j:Nat}(h:j<n):aJ (r.take n) j=aJ r j:=by simp only[aJ,qd,vf];rw[g0 h]
theorem Mf(r:Row)(n j:Nat):aJ (r.drop n) j=aJ r (n+j):=by simp only[aJ,qd,wO]
theorem sN(n:Nat)(m:aI)(i:Nat):aA (kB n m) i=(aA m i).take n:=by
 simp only[aA,kB,qd,qO];cases m[i]? with
 |none=>simp
 |some r=>rfl
theorem IF(n:Nat)(m:aI):i0 (kB n m)=i0 m:=by simp[kB]
theorem Sg{n a bj:Nat}(m:aI)(h:bj<n):iM (kB n m) a bj=iM m a bj:=by unfold iM;rw[IF];congr 1;funext i;rw[sN,Fw h]
theorem IG(n:Nat)(m:aI)(i:Nat)(r:Row):kB n (m.set i r)=(kB n m).set i (r.take n):=by simp[kB,List.map_set]
theorem Ye(n:Nat)(m:aI)(i j:Nat):kB n (jc m i j)=jc (kB n m) i j:=by rw[jc,IG,IG,jc,sN,sN]
theorem UQ(n:Nat)(c:UInt8)(r:Row):(scaleB c r).take n=scaleB c (r.take n):=by simp[scaleB,List.map_take]
theorem abn(n:Nat)(c:UInt8)(a t:Row):(cK c a t).take n=cK c (a.take n) (t.take n):=by simp[cK,List.take_zipWith]
theorem Yf{n bj:Nat}(h:bj<n)(t:Nat)(m:aI):kB n (jR t bj m)=jR t bj (kB n m):=by rw[jR,IG,UQ,jR,sN,Fw h]
theorem Yg{n bj:Nat}(h:bj<n)(t k:Nat)(m:aI):kB n (eZ t bj m k)=eZ t bj (kB n m) k:=by
 apply zy;intro i;simp only[kB,eZ,qO,vn];cases m[i]? with
 |none=>rfl
 |some r=>
  simp only[qS];congr 1;have:=sN n m t;rw[kB]at this;rw[this,Fw h];split
  ·exact abn _ _ _ _
  ·rfl
theorem Yh{n bj:Nat}(h:bj<n)(s:Nat×aI):((jd s bj).1,kB n (jd s bj).2)=jd (s.1,kB n s.2) bj:=by
 unfold jd;dsimp only;rw[Sg _ h];cases iM s.2 s.1 bj with
 |none=>rfl
 |some i=>dsimp only;rw[Yg h,Yf h,Ye,IF]
theorem GM(n:Nat)(m:aI):∀c,c<=n->((bA m c).1,kB n (bA m c).2)=bA (kB n m) c
 |0,_=>rfl
 |c+1,h=>by
  have a:=GM n m c i5;rw[bA,bA,Yh (show c<n by omega),a]
theorem lT{a b:aI}(h:i0 a=i0 b):i0 (eT a b)=i0 a:=by simp[eT,h]
theorem En{a b:aI}(h:i0 a=i0 b){i:Nat}(c:i<i0 a):aA (eT a b) i=aA a i++aA b i:=by rw[bm (by rw[lT h];exact c),bm c,bm i5];simp[eT]
theorem mv{n w:Nat}{a b:aI}(h:i0 a=i0 b)(f:aQ n a)(d:aQ w b):aQ (n+w) (eT a b):=λr e=>by
 obtain⟨i,c,rfl⟩:=fa e;rw[lT h]at c;rw[En h c,qp,ce f c,ce d]
theorem abo{n:Nat}{a b:aI}(h:i0 a=i0 b)(e:aQ n a):kB n (eT a b)=a:=by apply wB (by rw[IF,lT h]);intro i d c;have:=sN n (eT a b) i;rw[bm d,En h c,List.take_left' (ce e c),bm c]at this;exact this
theorem Yi{n:Nat}{a:aI}(b:aQ n a):(bA a n).1=bL a:=by
 rw[bL];cases a with
 |nil=>rw[kh,kh]
 |cons x t=>rw[eC,bm jj];rw[show((x::t)[0]).length=n from b _ jj]
theorem Fx{n:Nat}{a b:aI}(h:i0 a=i0 b)(c:aQ n a):(bA (eT a b) n).1=bL a:=by have:=congrArg qL (GM n (eT a b) n (qk _));rw[abo h c]at this;rw[<-Yi c];exact this
def px(w:Nat)(r:Row)(X:aI):Nat->Row
 |0=>aG w
 |k+1=>cK (aJ r k) (aA X k) (px w r X k)
theorem ir{n w:Nat}{X:aI}(a:aQ w X)(c:i0 X=n)(r:Row):∀k,k<=n->i0 (px w r X k)=w
 |0,_=>by simp[px,aG]
 |k+1,h=>by
  have b:=ir a c r k i5;rw[px,bM (by rw[ce a,b])];exact b
theorem gN{n w:Nat}{X:aI}(a:aQ w X)(b:i0 X=n)(r:Row)(j:Nat):∀k,k<=n->aJ (px w r X k) j=bI (λi=>aJ r i) (λi=>aJ (aA X i) j) k
 |0,_=>by rw[px,cg];rfl
 |k+1,h=>by
  have c:=gN a b r j k i5;rw[px,cy (by rw[ce a,ir a b r k i5]),c];rfl
def fD(n w:Nat)(a b X:aI):Prop:=i0 X=n/\aQ w X/\∀i,i<i0 a->px w (aA a i) X n=aA b i
theorem Yj{m a:aI}(c:i0 m=i0 a)(h:∀i,i<i0 m->aA m i=aA a i):m=a:=by
 apply wB c;intro i b d;have:=h i b
 rwa [bm b,bm d]at this
def tC(n:Nat)(X:aI)(k:Nat)(v:Row):UInt8:=aJ v (n+k)^^^bI (λi=>aJ v i) (λi=>aJ (aA X i) k) n
theorem fY{f f' g g':Nat->UInt8}:∀k,(∀i,i<k->f i=f' i)->(∀i,i<k->g i=g' i)->bI f g k=bI f' g' k
 |0,_,_=>rfl
 |k+1,h1,h2=>by rw[bI,bI,fY k (λi a=>h1 i i5) λi a=>h2 i i5,h1 k i5,h2 k i5]
theorem Qq(n:Nat)(X:aI)(k:Nat)(c:UInt8)(a t:Row)(h:i0 a=i0 t:=by omega):tC n X k (cK c a t)=tC n X k t^^^Gf.mul c (tC n X k a):=by unfold tC;rw[cy h];have:bI (λi=>aJ (cK c a t) i) (λi=>aJ (aA X i) k) n=bI (λi=>aJ t i^^^Gf.mul c (aJ a i)) (λi=>aJ (aA X i) k) n:=fY n (λi _=>cy h i) λ_ _=>rfl;rw[this,El,Gf.jY];ac_rfl
theorem Qr{a b:Row}{n:Nat}(c:i0 a=n)(k:Nat):aJ (a++b) (n+k)=aJ b k:=by simp only[aJ,qd];rw[qi i5,c,zk]
theorem Mg{a b:Row}{n j:Nat}(d:i0 a=n)(c:j<n):aJ (a++b) j=aJ a j:=by simp only[aJ,qd];rw[qm i5]
theorem ox{a b:UInt8}:a^^^b=0↔a=b:=by
 constructor
 ·intro h;have:=congrArg (·^^^b) h;simp only[wz]at this
  rwa [pv]at this
 ·rintro rfl;exact lj _
theorem GN{n w:Nat}{a b X:aI}(h:i0 a=i0 b)(f:aQ n a)(o:aQ w b)(l:i0 X=n)(g:aQ w X):fD n w a b X↔∀k,k<w->∀v,Span (n+w) (eT a b) v->tC n X k v=0:=by
 have e:=mv h f o;constructor
 ·intro x k p v q;refine Span.lin e (tC n X k) ?_ (λc a t y z=>Qq n X k c a t) (λr u=>?_) q
  ·unfold tC;rw[cg,fR _ _ n λi _=>cg _ _];rfl
  ·obtain⟨i,d,rfl⟩:=fa u;rw[lT h]at d;rw[En h d];unfold tC;rw[Qr (ce f d),<-x.2.2 i d,gN g l _ k n (qk _),ox];exact fY n (λj m=>(Mg (ce f d) m).symm) λ_ _=>rfl
 ·intro s;refine⟨l,g,λi d=>eE (n:=w) (ir g l _ n (qk _)) (ce o) λk p=>?_⟩;have:=s k p _ (Span.row e (mem_row (show i<i0 (eT a b) by rw[lT h];exact d)));rw[En h d]at this;unfold tC at this;rw[Qr (ce f d),ox]at this;rw[this,gN g l _ k n (qk _)];exact fY n (λj m=>(Mg (ce f d) m).symm) λ_ _=>rfl
theorem adg{n:Nat}{p:Nat->Nat}(d:∀i,i<n->p i<n)(b:∀i j,i<j->j<n->p i<p j):∀i,i<n->p i=i:=by
 have c:∀i,i<n->i<=p i:=by
  intro i
  induction i with
  |zero=>intro _;omega
  |succ i ih=>intro a;have:=ih i5;have:=b i (i+1) i5 a;omega
 have up:∀k i,i+k+1=n->p i<=i:=by
  intro k
  induction k with
  |zero=>intro i a;have:=d i i5;omega
  |succ k ih=>intro i a;have:=ih (i+1) i5;have:=b i (i+1) i5 i5;omega
 intro i a;have:=c i a;have:=up (n-1-i) i i5;omega
def gg(n:Nat)(a b:aI):aI:=(((bA (eT a b) n).2).take n).map (List.drop n)
def kK(n:Nat)(a b:aI):Prop:=∀r∈((bA (eT a b) n).2).drop n,r=aG r.length
section
variable {n w:Nat} {a b:aI}
theorem sO(h:i0 a=i0 b)(f:aQ n a)(i:aQ w b)(j:bL a=n):i0 (gg n a b)=n/\aQ w (gg n a b):=by have c:=mv h f i;have e:=gI c n;have h3:=ow a f;refine⟨by rw[gg,qy,qP,e.2,lT h];omega,λr d=>?_⟩;obtain⟨x,g,rfl⟩:=qo.1 d;rw[q7,e.1 x (zN g)];omega
theorem Qs(h:i0 a=i0 b)(e:aQ n a)(d:bL a=n){i:Nat}(c:i<n):aA (gg n a b) i=(aA (bA (eT a b) n).2 i).drop n:=by
 simp only[aA,gg,qd,qO,vf];rw[g0 c]
 cases(bA (eT a b) n).2[i]? with
 |none=>simp
 |some r=>rfl
theorem Mh(h:i0 a=i0 b)(j:aQ n a)(m:aQ w b)(q:bL a=n):
  (∀v,Span (n+w) (bA (eT a b) n).2 v↔Span (n+w) (eT a b) v)/\(bA (eT a b) n).2.length=i0 a/\(∀i,i<n->∀k,k<i0 a->aJ (aA (bA (eT a b) n).2 k) i=if k=i then 1 else 0):=by
 have c:=mv h j m;have W:=Em c n i5;have l:(bA (eT a b) n).1=n:=by rw[Fx h j,q]
 obtain⟨p,e,f,o,d⟩:=W.piv;rw[l]at e f o d;have hid:=adg e d;have r:(bA (eT a b) n).2.length=i0 a:=by rw[W.len,lT h]
 refine⟨W.span,r,λi g k s=>?_⟩;have:=f i g k i5
 rwa [hid i g]at this
theorem Mi{X:aI}{r:Row}{i k:Nat}(a:i<n)(b:∀j,j<n->aJ r j=if i=j then 1 else 0):tC n X k r=aJ r (n+k)^^^aJ (aA X i) k:=by unfold tC;rw[Ek _ _ i n a λj c=>b j c]
theorem Qu{X:aI}{r:Row}{k:Nat}(a:∀j,j<n->aJ r j=0):tC n X k r=aJ r (n+k):=by unfold tC;rw[fR _ _ n a,zT]
theorem lA(h:i0 a=i0 b)(l:aQ n a)(o:aQ w b)(t:bL a=n){X:aI}(f:fD n w a b X):X=gg n a b/\kK n a b:=by
 have v:=mv h l o;have x:=gI v n;obtain⟨m,D,u⟩:=Mh h l o t;have A:=ow a l;have z:=(GN h l o f.1 f.2.1).1 f;obtain⟨y,s2⟩:=sO h l o t;constructor
 ·refine Yj (by rw[f.1,y]) λi d=>eE (n:=w) (ce f.2.1 d) (ce s2 (by rw[y];rw[f.1]at d;exact d)) λk B=>?_;rw[f.1]at d;have h3:=z k B _ ((m _).1 (Span.row x.1 (mem_row (show i<(bA (eT a b) n).2.length by omega))));rw[Mi d λj p=>u j p i i5]at h3;rw[Qs h l t d,Mf];exact(ox.1 h3).symm
 ·intro r s;obtain⟨i,d,rfl⟩:=qD s;rw[q7]at d;rw[z6];have g:n+i<(bA (eT a b) n).2.length:=i5
  have e:=bm g;have c:=ce x.1 g;rw[<-e,c];refine eE (n:=n+w) c k8 λj p=>?_;rw[cg];by_cases q:j<n
  ·rw[u j q (n+i) i5,g9 i5]
  ·obtain⟨k,rfl⟩:∃k,j=n+k:=⟨j-n,i5⟩
   have h3:=z k i5 _ ((m _).1 (Span.row x.1 (mem_row g)))
   rwa [Qu λj p=>by rw[u j p (n+i) i5,g9 i5]]at h3
theorem oy(h:i0 a=i0 b)(e:aQ n a)(g:aQ w b)(o:bL a=n)(B:kK n a b):fD n w a b (gg n a b):=by
 have q:=mv h e g;have u:=gI q n;obtain⟨m,G,s⟩:=Mh h e g o;have A:=ow a e;obtain⟨z,s2⟩:=sO h e g o;refine(GN h e g z s2).2 λk F v y=>?_;refine Span.lin u.1 (tC n (gg n a b) k) ?_ (λc x t E u=>Qq n _ k c x t) (λr l=>?_) ((m v).2 y)
 ·unfold tC;rw[cg,fR _ _ n λi _=>cg _ _];rfl
 ·obtain⟨i,D,rfl⟩:=fa l;by_cases f:i<n
  ·rw[Mi f λj p=>s j p i i5,Qs h e o f,Mf];exact lj _
  ·rw[Qu λj p=>by rw[s j p i i5,g9 i5]];have:aA (bA (eT a b) n).2 i∈(bA (eT a b) n).2.drop n:=by
    rw[bm D];obtain⟨d,rfl⟩:∃d,i=n+d:=⟨i-n,i5⟩
    rw[<-z6 (h:=by rw[q7];omega)];exact qf _
   rw[B _ this,cg]
theorem Ox(h:i0 a=i0 b)(g:aQ n a)(f:aQ w b)(i:i0 a=n):kK n a b:=by have c:=mv h g f;have e:=gI c n;intro r d;rw[q8 (by rw[e.2,lT h];omega)]at d;cases d
end
def Mj(l:au):Prop:=∀a b,a<i0 l->b<i0 l->kO l a=kO l b->a=b
theorem Eo{l:au}{i:Nat}(h:i<i0 l):kO l i=l[i]:=by rw[kO,qd,qc h];rfl
theorem Yk{l:au}{i j k:Nat}(c:i<i0 l)(d:j<i0 l):kO (pS l i j) k=if k=j then kO l i else if k=i then kO l j else kO l k:=by
 simp only[kO,pS,qd,qV,q9];by_cases a:j=k
 ·subst a;simp[d]
 ·by_cases b:i=k
  ·subst b;simp[a,c];omega
  ·simp[a,b];omega
theorem swap_inj{l:au}{i j:Nat}(o:i<i0 l)(n:j<i0 l)(h:Mj l):Mj (pS l i j):=by
 intro a b p m g;rw[LX]at p m;have c:∀k,k<i0 l->∃σ,σ<i0 l/\kO (pS l i j) k=kO l σ/\(σ=if k=j then i else if k=i then j else k):=λk v=>by
  rw[Yk o n];by_cases e:k=j
  ·rw[g0 e,g0 e];exact⟨i,o,i4,i4⟩
  ·rw[g9 e,g9 e];by_cases f:k=i
   ·rw[g0 f,g0 f];exact⟨j,n,i4,i4⟩
   ·rw[g9 f,g9 f];exact⟨k,v,i4,i4⟩
 obtain⟨s,w,r,u⟩:=c a p;obtain⟨t,q,e2,d⟩:=c b m;rw[r,e2]at g;have:=h s t w q g;subst this;rw[u]at d;split at d<;>split at d<;>(try split at d)<;>(try split at d)<;>omega
theorem UR{l:au}(h:Mj l):l.Nodup:=by rw[List.nodup_iff_pairwise_ne,zj];intro i j a b d c;have:=h i j a b (by rw[Eo a,Eo b];exact c);omega
theorem Yl(n:Nat):Mj (upto n):=by intro a b e d c;rw[gK]at e d;rw[Eo (by rw[gK];exact e),Eo (by rw[gK];exact d)]at c;simp[upto]at c;omega
theorem Mk(n:Nat)(s:Int):∀k,k<=n->n<=64->Mj (go n s (upto n) k).2
 |0,_,_=>Yl n
 |k+1,hk,hn=>by
  have a:=tm n s (upto n) k;rw[gK]at a;have:=tl (go n s (upto n) k).1 ((n-k:Nat):Int);exact swap_inj i5 i5 (Mk n s k i5 hn)
theorem Sh(s:Int)(n k:Nat)(a:k<=n)(b:n<=64):(AK s n k).Nodup:=by have h:=(UR (Mk n s k a b)).sublist (List.take_sublist k _);exact(yi _ _).nodup_iff.2 h
theorem AQ{n:Nat}(b:1<=n)(a:n<=20)(seed id:Int):(cW n seed id).Nodup:=Sh _ _ _ (tq _ n b a) i5
theorem Oy(n:Nat)(seed id:Int):(cW n seed id).Pairwise (·<=·):=by have:=yA (le:=λx y:Int=>decide (x<=y)) (by intro a b c;simp;omega) (by intro a b;simp;omega) ((go n (rZ (rZ (ro seed id))) (upto n) (uw (rZ (ro seed id)) n)).2.take (uw (rZ (ro seed id)) n));exact this.imp jj
theorem IH{r:Row}{i j:Nat}{x:UInt8}(a:i<i0 r):aJ (r.set i x) j=if j=i then x else aJ r j:=by
 simp only[aJ,qd,qV];by_cases h:i=j
 ·subst h;simp[a]
 ·simp[h];intro e;exact absurd e.symm h
theorem JD(n:Nat)(l:au)(c:Int):fW n (l++[c])=(fW n l).set c.toNat 1:=by rw[fW,zK];rfl
theorem AR{n:Nat}:∀(l:au) (_:∀x∈l,0<=x/\x<(n:Int)) (j:Nat),aJ (fW n l) j=if(j:Int)∈l then 1 else 0:=by
 intro l;have d:∀k,k<=i0 l->(∀x∈l,0<=x/\x<(n:Int))->∀j:Nat,aJ (fW n (l.take k)) j=if(j:Int)∈l.take k then 1 else 0:=by
  intro k
  induction k with
  |zero=>intro _ _ j;simp[fW];exact cg n j
  |succ k ih=>
   intro g b j;have f:=b _ (qf (show k<i0 l by omega));rw[zF i5,JD,IH (by rw[pq];omega),ih i5 b];have a:(j:Int)∈l.take k++[l[k]]↔(j:Int)∈l.take k∨(j:Int)=l[k]:=by rw[qw,qx]
   by_cases h:j=l[k].toNat
   ·rw[g0 h,g0 (a.2 (.inr i5))]
   ·rw[g9 h];by_cases c:(j:Int)∈l.take k
    ·rw[g0 c,g0 (a.2 (.inl c))]
    ·rw[g9 c,g9 λe=>(a.1 e).elim c λh3=>h i5]
 intro b j;have:=d l.length (qk _) b j
 rwa [qg (qk _)]at this
theorem Fy{f f' g:Nat->UInt8}{c:Nat}(a:f c=0)(d:∀i,f' i=if i=c then 1 else f i):∀k,bI f' g k=bI f g k^^^if c<k then g c else 0
 |0=>by simp[bI]
 |k+1=>by
  rw[bI,bI,Fy a d k,d k];by_cases b:k=c
  ·subst b;rw[g0 i4,g9 i5,g0 i5,Gf.one_mul,a,Gf.zero_mul]
  ·rw[g9 b];by_cases h:c<k
   ·rw[g0 h,g0 i5];ac_rfl
   ·rw[g9 h,g9 i5];simp
def fS(w:Nat)(X:aI)(l:au):Row:=l.foldl (λs c=>cK 1 (aA X c.toNat) s) (aG w)
theorem AS(w:Nat)(X:aI)(l:au)(c:Int):fS w X (l++[c])=cK 1 (aA X c.toNat) (fS w X l):=by rw[fS,zK];rfl
theorem oz{n w:Nat}{X:aI}(b:aQ w X)(d:i0 X=n){l:au}(a:∀x∈l,0<=x/\x<(n:Int)):∀k,k<=i0 l->i0 (fS w X (l.take k))=w:=by
 intro k
 induction k with
 |zero=>intro _;simp[fS,aG]
 |succ k ih=>
  intro e;have c:=a _ (qf (show k<i0 l by omega));rw[zF i5,AS,bM (by rw[ce b,ih i5])];exact ih i5
theorem Qv{n w:Nat}{X:aI}(b:aQ w X)(c:i0 X=n){l:au}(a:∀x∈l,0<=x/\x<(n:Int)):i0 (fS w X l)=w:=by
 have:=oz b c a l.length (qk _)
 rwa [qg (qk _)]at this
theorem abp{n w:Nat}{X:aI}(a:aQ w X)(b:i0 X=n){l:au}(d:∀x∈l,0<=x/\x<(n:Int))(q:l.Nodup):fS w X l=px w (fW n l) X n:=by
 have h:∀k,k<=i0 l->fS w X (l.take k)=px w (fW n (l.take k)) X n:=by
  intro k
  induction k with
  |zero=>
   intro _;refine eE (n:=w) (by simp[fS,aG]) (ir a b _ n (qk _)) λj _=>?_;rw[gN a b _ j n (qk _),fR _ _ n λi _=>by simp only[vN,fW,wx];exact cg n i];simp only[vN,fS,wx];exact cg w j
  |succ k ih=>
   intro r;have p:=d _ (qf (show k<i0 l by omega));have o:=oz a b d k i5;rw[zF i5,AS,JD,ih i5];refine eE (n:=w) ?_ (ir a b _ n (qk _)) λj _=>?_
   ·rw[bM (by rw[ce a,ir a b _ n (qk _)])];exact ir a b _ n (qk _)
   ·rw[cy (by rw[ce a,ir a b _ n (qk _)]),gN a b _ j n (qk _),gN a b _ j n (qk _)];have g:l[k]∉l.take k:=λm=>by
     have e:l=l.take k++l[k]::l.drop (k+1):=by rw[<-qI i5,qB]
     rw[e,List.nodup_append]at q;exact q.2.2 _ m _ qF i4
    have h0:aJ (fW n (l.take k)) l[k].toNat=0:=by
     rw[AR _ λx p=>d x (zN p),g9];intro m;apply g;have:((l[k].toNat:Nat):Int)=l[k]:=i5
     rwa [this]at m
    rw[Fy (f:=λi=>aJ (fW n (l.take k)) i) (c:=l[k].toNat) h0 (λi=>IH (by rw[pq];omega)) n,g0 i5,Gf.one_mul]
 have:=h l.length (qk _)
 rwa [qg (qk _)]at this
def ki(K H w:Nat)(d:Row):aI:=qh H (aG w)++(qt K).map (Cn d w)
def dj(p:Int×Int×Int)(seed:Int)(d:Row):aI:=gg (bu p).toNat (dE p seed (eF p)) (ki p.1.toNat p.2.1.toNat p.2.2.toNat d)
structure bU (p:Int×Int×Int) (seed:Int) (d:Row) (K H w n:Nat):Prop where
 may:bx p=eR
 full:fq p seed (eF p)=eR
 k:p.1=K
 h:p.2.1=H
 s:p.2.2=w
 n:n=K+H
 k1:1<=K
 k2:K<=16
 h1:1<=H
 h2:H<=4
 w1:1<=w
 w2:w<=24
 len:i0 d=K*w
theorem Si{p:Int×Int×Int}{seed:Int}{d:Row}(a:bx p=eR)(e:fq p seed (eF p)=eR)(b:(i0 d:Int)=p.1*p.2.2):∃K H w n,bU p seed d K H w n:=by
 have:=(bN p).1 a;refine⟨p.1.toNat,p.2.1.toNat,p.2.2.toNat,p.1.toNat+p.2.1.toNat,a,e,i5,i5,i5,i4,i5,i5,i5,i5,i5,i5,?_⟩;have c:p.1=(p.1.toNat:Int):=i5
 have e2:p.2.2=(p.2.2.toNat:Int):=i5
 rw[c,e2,<-Int.natCast_mul]at b;exact Int.ofNat.inj b
section
variable {p:Int×Int×Int} {seed:Int} {d:Row} {K H w n:Nat}
theorem bU.cM(B:bU p seed d K H w n):bu p=n:=by rw[nG B.may,B.k,B.h,B.n];rfl
theorem bU.oA(B:bU p seed d K H w n):(bu p).toNat=n:=by rw[B.cM];rfl
theorem Sj(a:p.1=(K:Int))(h:K<=16):eF p=upto K:=by rw[eF];congr 1;omega
theorem Oz(h:K<=16):(upto K).filter bJ=upto K:=by rw[List.filter_eq_self];intro x b;simp[upto]at b;obtain⟨a,c,rfl⟩:=b;simp[bJ];omega
theorem bU.LQ(B:bU p seed d K H w n):dE p seed (eF p)=bn K H++(qt K).map λi:Nat=>mq n seed (i:Int):=by rw[dE,g0 B.may,Sj B.k B.k2,Oz B.k2,B.k,B.h,B.oA,qj,qj,upto,List.map_map];rfl
theorem bU.CF(B:bU p seed d K H w n):i0 (dE p seed (eF p))=n:=by rw[B.LQ,qp,qy,zA,bn,qy,zA,B.n];omega
theorem bU.Ep(B:bU p seed d K H w n):aQ n (dE p seed (eF p)):=by
 have:=jr p seed (eF p)
 rwa [B.oA]at this
theorem bU.II(B:bU p seed d K H w n):bL (dE p seed (eF p))=n:=by have h:=B.full;rw[fq,B.may,B.cM,mM]at h;simp at h;exact Int.ofNat.inj h
theorem CG(K H w:Nat)(d:Row):i0 (ki K H w d)=K+H:=by simp[ki];omega
theorem sn(b:i0 d=K*w):aQ w (ki K H w d):=λr c=>by
 rcases qw.1 c with h|h
 ·rw[(List.mem_replicate.1 h).2];simp[aG]
 ·obtain⟨i,a,rfl⟩:=qo.1 h;rw[qA]at a;exact abh (by rw[b];exact zq w a)
theorem US{i:Nat}(a:i<H):aA (ki K H w d) i=aG w:=by rw[aA,ki,qd,qm j9];simp[a]
theorem Sk{i:Nat}(a:i<K):aA (ki K H w d) (H+i)=Cn d w i:=by rw[aA,ki,qd,qi jj];simp[a]
theorem bU.BM(B:bU p seed d K H w n):dj p seed d=gg n (dE p seed (eF p)) (ki K H w d):=by rw[dj,B.oA,B.k,B.h,B.s];rfl
theorem bU.lens(B:bU p seed d K H w n):i0 (dE p seed (eF p))=i0 (ki K H w d):=by rw[B.CF,CG,B.n]
theorem bU.nh(B:bU p seed d K H w n):i0 (dj p seed d)=n/\aQ w (dj p seed d):=by rw[B.BM];exact sO B.lens B.Ep (sn B.len) B.II
theorem bU.fD(B:bU p seed d K H w n):fD n w (dE p seed (eF p)) (ki K H w d) (dj p seed d):=by rw[B.BM];exact oy B.lens B.Ep (sn B.len) B.II (Ox B.lens B.Ep (sn B.len) B.CF)
theorem bU.adh(B:bU p seed d K H w n){i:Nat}(a:i<H):aA (dE p seed (eF p)) i=lx K H i:=by rw[B.LQ,aA,qd,qm (by simpa[bn]using a)];simp[bn,a]
theorem bU.abq(B:bU p seed d K H w n){i:Nat}(a:i<K):aA (dE p seed (eF p)) (H+i)=mq n seed (i:Int):=by rw[B.LQ,aA,qd,qi (by simp[bn])];simp[bn,a]
theorem bU.low(B:bU p seed d K H w n){i:Nat}(a:i<H):px w (lx K H i) (dj p seed d) n=aG w:=by
 have:=B.fD.2.2 i (by rw[B.CF,B.n];omega)
 rwa [B.adh a,US a]at this
theorem bU.high(B:bU p seed d K H w n){i:Nat}(a:i<K):px w (mq n seed (i:Int)) (dj p seed d) n=Cn d w i:=by
 have:=B.fD.2.2 (H+i) (by rw[B.CF,B.n];omega)
 rwa [B.abq a,Sk a]at this
theorem bU.n1(B:bU p seed d K H w n):1<=n:=by have:=B.n;have:=B.k1;omega
theorem bU.n2(B:bU p seed d K H w n):n<=20:=by have:=B.n;have:=B.k2;have:=B.h2;omega
theorem bU.sym(B:bU p seed d K H w n)(id:Int):fS w (dj p seed d) (cW n seed id)=px w (mq n seed id) (dj p seed d) n:=
 abp B.nh.2 B.nh.1 (λ_ a=>mj B.n1 B.n2 a) (AQ B.n1 B.n2 seed id)
theorem bU.Ym(B:bU p seed d K H w n){i:Nat}(a:i<K):fS w (dj p seed d) (cW n seed (i:Int))=Cn d w i:=by rw[B.sym,B.high a]
theorem bU.UT(B:bU p seed d K H w n)(id:Int):i0 (fS w (dj p seed d) (cW n seed id))=w:=
 Qv B.nh.2 B.nh.1 λ_ a=>mj B.n1 B.n2 a
end
end
theorem OA{α:Type}{c k:Nat}{f:α->aR}:∀{rs:List Sl} {ll:List (List α)} (b:List Sl) (a:List (List α)),i0 rs=i0 ll->bt c k f (rs++b) (ll++a)=bt c k f rs ll++bt c k f b a:=by intro rs ll b a h;unfold bt;exact yF h
theorem aa.Yn{B:ak}{a h:f9}{X:HP}:∀{L M:List HP},aa B a h (L++X::M)->aa B a h (L++M):=λ{L M} H=>by
 have:=H.del L.length
 rwa [List.eraseIdx_append_of_length_le (qk _),qZ,List.eraseIdx_cons_zero]at this
variable {h':f9} {e2:Nat} {s2:Sl} {ll:List (List α)}
section
variable {C:Ctx} {l2:List (List α)}
theorem aa.abr(x:C.Ok)(H:aa B h0 h (fo e s e2 k f ll::fo e s2 e2 k f l2::As))(w:bO C.toxZ t e 1 [.slice eH 0 0] 24)(F:∃i e2,C.T.get t2=dB i/\i.cj=.slice e2)(y:i0 ll+i0 l2<=2^32){ty:Nat}{K:Sl->f9->Prop}
  (E:∀d h',aa B h0 h' (fo e d e2 k f (ll++l2)::As)->K d h'):
  bG C.P (zD #[t,t2] ty #[.slice s.ptr s.len s.cap,.slice s2.ptr s2.len s2.cap]) (.one (.sc .slc)) h K:=by
 obtain⟨rs,p,q⟩:=H.AI;obtain⟨c,g⟩:∃c,c=bt e2 k f rs ll:=⟨_,rfl⟩
 rw[<-g]at q;have A:aa B h0 h (fo e s2 e2 k f l2::(As++(an e s 1 bi rs::c))):=q.front;obtain⟨a,l,o⟩:=A.AI;obtain⟨L2,j⟩:∃L2,L2=bt e2 k f a l2:=⟨_,rfl⟩
 rw[<-j]at o;have r:=o.front;rw[qn]at r;have G:=r.front;have n:aa B h0 h (an e s 1 bi rs::(c++(an e s2 1 bi a::(L2++As)))):=by
  have D:(an e s 1 bi rs::c++(an e s2 1 bi a::L2))++As=an e s 1 bi rs::(c++(an e s2 1 bi a::(L2++As))):=jj
  rw[<-D];exact G
 have u:Seq h (λb=>b<h.size) s2 1 bi a:=n.seq (i0 c+1) (by rw[qq,qi (qk _),qZ];rfl) λ_=>rfl;refine n.append x 0 i4 w F i4 i6 (λ_=>rfl) u jG i5 λd h' m=>E d h' ?_;have m:aa B h0 h' ((an e d 1 bi (rs++a)::c)++(an e s2 1 bi a::(L2++As))):=m;have v:=aa.Yn m;refine aa.Ct (rs:=rs++a) (by simp[p,l]) ?_;rw[OA a l2 p,<-g,<-j];have z:(an e d 1 bi (rs++a)::(c++L2))++As=(an e d 1 bi (rs++a)::c)++(L2++As):=jj
 rw[z];exact v
end
end Go.Qw
