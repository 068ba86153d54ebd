/- Lemmas for the proof of the law; no condition. -/
import Derived.Test.YtplpfpidgljdhaaGreatDoorVcA
import Derived.Sort.Grow
import Derived.Lib.SlicesCompact
import Derived.Lib.RowBridge
set_option linter.unusedVariables false
set_option linter.unusedSimpArgs false
open Nat renaming lt_trichotomy -> y9
open Array renaming ext' -> yD, getElem?_eq_some_iff -> yM, getElem?_modify -> yn, range -> xw, toList_map -> xg
open List renaming filter_cons_of_pos -> vh, getElem?_cons_zero -> w8, getElem?_mapIdx -> vy, getElem?_take -> vm, pairwise_mergeSort -> yA, range -> qz, replicate -> qi, set_comm -> vH, set_eq_take_append_cons_drop -> wA, zipWith -> ze
open Go.Value renaming int -> xG
open Go.IntKind renaming bits -> qG, i64 -> xM, signed -> vg, u32 -> xO, u64 -> xP, u8 -> xN, wrap -> qe
open Go.Builtin renaming append_ -> zD, clear_ -> vS, copy_ -> yc, firstCells -> wK, nextslicecap -> vx, zeroCells -> yz
open Go.Instr renaming alloc -> yJ, box -> vQ, buildSlice -> zL, fill -> wC, makeSlice -> zw, storeAt -> qE
open Int renaming fdiv -> zG, tmod -> xz
open Option renaming some -> zQ
open UInt8 renaming lt_iff_toNat_lt -> zZ, ofNat -> yK
open Prod renaming fst -> qq
open BitVec renaming ofInt -> qK, ofNat_toNat -> vM, setWidth_eq -> vN
set_option maxRecDepth 100000
open Option renaming some -> dB, none -> ez
open Bool renaming true -> eH, false -> eL
open Go renaming Value -> eR, Addr -> eX
open Go.Qw renaming cellOf -> f7, Heap -> f8
open List renaming length -> ii
namespace Go.Qw
variable {A B:Prop}
theorem ag{p:Prop}[Decidable p](a:p->A)(b:¬p->B):Br (decide p) A B:=by
 by_cases h:p
 ·rw[g9 h];exact a h
 ·rw[hU h];exact b h
theorem cv{a b:Int}(d:a=b->A)(c:a≠b->B):Br (a==b) A B:=by
 by_cases h:a=b
 ·rw[beq_iff_eq.2 h];exact d h
 ·rw[beq_eq_false_iff_ne.2 h];exact c h
theorem bx{a b:Int}(d:a≠b->A)(c:a=b->B):Br (a !=b) A B:=by
 by_cases h:a=b
 ·rw[show(a !=b)=eL by simp[h]];exact c h
 ·rw[show(a !=b)=eH by simp[h]];exact d h
theorem bf{b:Bool}(a:b=eH->A)(c:b=eL->B):Br b A B:=by
 cases b
 ·exact c i0
 ·exact a i0
theorem aQ{b:Bool}(a:b=eL->A)(c:b=eH->B):Br (!b) A B:=by
 cases b
 ·exact a i0
 ·exact c i0
theorem CB{b:Bool}(h:b=eH)(a:A):Br b A B:=by subst h;exact a
theorem sV{b:Bool}(h:b=eL)(a:B):Br b A B:=by subst h;exact a
theorem aT{σ:Type}{rest:σ->f8->Prop}{B:(σ->f8->Prop)->Prop}(h:B rest):LF rest B:=⟨rest,λ_ _ x=>x,h⟩
theorem bG{σ:Type}{rest:σ->f8->Prop}{B:(σ->f8->Prop)->Prop}(R:σ->f8->Prop)(b:B R)(a:∀s h,R s h->rest s h):LF rest B:=⟨R,a,b⟩
theorem aq{σ:Type}{B:σ->(σ->f8->Prop)->f8->Prop}{s:σ}{h:f8}{τ:Type}(V:τ->σ)(I:τ->f8->Prop)(μ:τ->Nat)(t0:τ)(c:s=V t0)(d:I t0 h)
  (e:∀t h,I t h->B (V t) (λb h'=>∃a,b=V a/\I a h'/\μ a<μ t) h):gU B s h:=⟨τ,V,I,μ,t0,c,d,e⟩
abbrev av:=Nat->Prop
def aN(p:av)(h h':f8):Prop:=h.size<=h'.size/\∀b,b<h.size->p b->h'[b]?=h[b]?
def Sl.on(s:Sl)(b:Nat):Prop:=∃o,s.ptr=dB ⟨b,o,ez⟩
variable {p q:av} {h h' h'':f8}
theorem aN.refl(p:av)(h:f8):aN p h h:=⟨qm _,λ_ _ _=>rfl⟩
theorem aN.trans(a:aN p h h')(b:aN p h' h''):aN p h h'':=⟨q9 a.1 b.1,λk d c=>(b.2 k (qT d a.1) c).trans (a.2 k d c)⟩
theorem aN.then(a:aN p h h')(b:aN q h' h'')(e:∀k,k<h.size->p k->q k):aN p h h'':=⟨q9 a.1 b.1,λk c d=>(b.2 k (qT c a.1) (e k c d)).trans (a.2 k c d)⟩
theorem aN.mono(a:aN p h h')(d:∀b,b<h.size->q b->p b):aN q h h':=⟨a.1,λk c e=>a.2 k c (d k c e)⟩
theorem aN.push(p:av)(h:f8)(o:Obj):aN p h (h.push o):=⟨i9,λb a _=>by rw[Array.getElem?_push,g0 i4]⟩
theorem df{a:eX}{v:eR}(b:f7 h a=dB v):a.block<h.size:=by
 unfold f7 at b;cases hb:h[a.block]? with
 |none=>rw[hb]at b;cases b
 |some o=>exact(yM.1 hb).1
theorem lt_of_block{b:Nat}{o:Obj}(a:h[b]?=dB o):b<h.size:=(yM.1 a).1
theorem aN.cell(a:aN p h h'){x:eX}{v:eR}(c:p x.block)(b:f7 h x=dB v):f7 h' x=dB v:=by have:=a.2 _ (df b) c;unfold f7 at*;rw[this];exact b
theorem aN.block(a:aN p h h'){b:Nat}{o:Obj}(d:p b)(c:h[b]?=dB o):h'[b]?=dB o:=by rw[a.2 b (lt_of_block c) d];exact c
theorem aN.cells(a:aN p h h'){x:eX}(b:p x.block):∀{vs:aR} {i:Nat},bp h x i vs->bp h' x i vs
 |[],_,_=>trivial
 |v::r,i,hc=>⟨a.cell (by unfold Addr.add;split<;>exact b) hc.1,aN.cells a b hc.2⟩
theorem add_eq(b o n:Nat):(⟨b,o,ez⟩:eX).add n=⟨b,o+n,ez⟩:=by
 unfold Addr.add;split
 ·rename_i h;subst h;rfl
 ·rfl
theorem add_zero(a:eX):a.add 0=a:=rfl
theorem AT{h:f8}{b o:Nat}{c:Array eR}{e:TypeId}{f:Nat×Nat}(a:h[b]?=dB (.cells c e f)):f7 h ⟨b,o,ez⟩=c[o]?:=by unfold f7;rw[a];rfl
theorem YT{h:f8}{b o:Nat}{c:Array eR}{e:TypeId}(a:h[b]?=dB (.cells c e (0,0))):Sq h ⟨b,o,ez⟩=eL:=by unfold Sq;rw[a];simp
structure Seq {α:Type} (h:f8) (p:av) (s:Sl) (k:Nat) (f:α->aR) (l:List α):Prop where
 len:s.len=ii l
 elem:∀i x,l[i]?=dB x->∃b o,s.ptr=dB ⟨b,o,ez⟩/\p b/\bp h ⟨b,o+i*k,ez⟩ 0 (f x)
variable {α:Type} {s:Sl} {k:Nat} {f:α->aR} {l:List α}
theorem Seq.af(c:Seq h p s k f l)(e:aN p h h'):Seq h' p s k f l:=⟨c.len,λi x g=>by
 obtain⟨b,o,d,a,h3⟩:=c.elem i x g;exact⟨b,o,d,a,e.cells a h3⟩⟩
theorem Seq.mono(a:Seq h p s k f l)(e:∀b,p b->q b):Seq h q s k f l:=⟨a.len,λi x g=>by
 obtain⟨b,o,d,c,h3⟩:=a.elem i x g;exact⟨b,o,d,e b c,h3⟩⟩
theorem Seq.nil(h:f8)(p:av)(c:Nat)(b:bZ)(k:Nat)(f:α->aR):Seq h p ⟨b,0,c⟩ k f []:=⟨i0,λi x a=>by simp at a⟩
theorem Seq.bt{X:Type}{g:X->eR}(c:Seq h p s 1 f l){i:Int}(n:Nat)(j:i=n)(d:n<ii l)(x:X)(m:f l[n]=[g x]){K:X->Prop}(k:K x):
  ∃a:eX,(s.ptr=dB a/\0<=i/\i<((s.len:Nat):Int))/\∃x:X,f7 h (a.add (i.toNat*1))=dB (g x)/\K x:=by
 subst j;obtain⟨b,o,e,_,h3⟩:=c.elem n l[n] (qc d);refine⟨_,⟨e,i4,by rw[c.len];omega⟩,x,?_,k⟩;rw[m]at h3;have:=h3.1;rw[add_eq,wT]at this;rw[add_eq];simpa using this
theorem Seq.cX{X:Type}{g:X->aR}(c:Seq h p s k f l){i:Int}(n:Nat)(j:i=n)(d:n<ii l)(x:X)(q:f l[n]=g x){K:X->Prop}(m:K x):
  ∃a:eX,(s.ptr=dB a/\0<=i/\i<((s.len:Nat):Int))/\∃x:X,bp h (a.add (i.toNat*k)) 0 (g x)/\K x:=by
 subst j;obtain⟨b,o,e,_,h3⟩:=c.elem n l[n] (qc d);refine⟨_,⟨e,i4,by rw[c.len];omega⟩,x,?_,m⟩;rw[add_eq];rw[q]at h3;simpa using h3
def ak(n:Int):aR:=[xG xM n]
def aw(n:UInt8):aR:=[xG xN n.toNat]
def eO(b:Bool):aR:=[.bool b]
def aX(s:Sl):aR:=[.slice s.ptr s.len s.cap]
structure fq {α:Type} (h:f8) (p:av) (s:Sl) (k:Nat) (f:α->aR) (ll:List (List α)) (rs:List Sl):Prop where
 top:Seq h p s 1 aX rs
 len:ii rs=ii ll
 row:∀(i:Nat) (r:Sl) (l:List α),rs[i]?=dB r->ll[i]?=dB l->Seq h p r k f l
variable {ll:List (List α)} {rs:List Sl}
theorem fq.af(a:fq h p s k f ll rs)(b:aN p h h'):fq h' p s k f ll rs:=⟨a.top.af b,a.len,λi r l d c=>(a.row i r l d c).af b⟩
theorem fq.mono(a:fq h p s k f ll rs)(c:∀b,p b->q b):fq h q s k f ll rs:=⟨a.top.mono c,a.len,λi r l e d=>(a.row i r l e d).mono c⟩
theorem fq.FJ(a:fq h p s k f ll rs):s.len=ii ll:=by rw[a.top.len,a.len]
theorem fq.get(c:fq h p s k f ll rs){i:Int}(n:Nat)(g:i=n)(d:n<ii ll){K:Sl->Prop}(j:∀r,Seq h p r k f ll[n]->rs[n]?=dB r->K r):
  ∃a:eX,(s.ptr=dB a/\0<=i/\i<((s.len:Nat):Int))/\∃x:Sl,f7 h (a.add (i.toNat*1))=dB (.slice x.ptr x.len x.cap)/\K x:=by
 have b:n<ii rs:=by rw[c.len];exact d
 have e:rs[n]?=dB rs[n]:=qc b;exact c.top.bt n g b rs[n] i0 (j _ (c.row n _ _ e (qc d)) e)
structure Own {α:Type} (h:f8) (e:TypeId) (s:Sl) (k:Nat) (f:α->aR) (l:List α):Prop where
 len:s.len=ii l
 head:(s.ptr=ez/\s.cap=0/\l=[])∨∃b rest,s.ptr=dB ⟨b,0,ez⟩/\h[b]?=dB (.cells (l.flatMap f++rest).toArray e (0,0))/\rest.length=(s.cap-s.len)*k/\s.len<=s.cap
theorem di{α:Type}{k:Nat}{f:α->aR}(a:∀x,ii (f x)=k):∀(l:List α),ii (l.flatMap f)=ii l*k
 |[]=>i9
 |x::r=>by rw[zj,qt,a,di a r,zh,wc];omega
theorem FK{α:Type}{k:Nat}{f:α->aR}(a:∀x,ii (f x)=k):∀(l:List α) (i:Nat) (x:α),l[i]?=dB x->∃pre post,l.flatMap f=pre++f x++post/\pre.length=i*k
 |y::r,0,x,h=>by simp at h;subst h;exact⟨[],r.flatMap f,i9,i9⟩
 |y::r,i+1,x,h=>by
  obtain⟨pre,post,c,b⟩:=FK a r i x j7;exact⟨f y++pre,post,n7,by rw[qt,a,b,wc];omega⟩
theorem wn{h:f8}{b o:Nat}{e:TypeId}{fr:Nat×Nat}:∀{vs pre post:aR} {i:Nat},h[b]?=dB (.cells (pre++vs++post).toArray e fr)->ii pre=o+i->bp h ⟨b,o,ez⟩ i vs
 |[],_,_,_,_,_=>trivial
 |v::r,pre,post,i,hb,hl=>by
  refine⟨?_,wn (pre:=pre++[v]) (post:=post) (by simpa using hb) i7⟩;rw[add_eq,AT hb,<-hl];simp
def iW(h:f8)(b:Nat)(o:Obj):f8:=h.setIfInBounds b o
theorem gV{h:f8}{b c:Nat}{o x:Obj}(a:h[b]?=dB x):(iW h b o)[c]?=if b=c then dB o else h[c]?:=by
 unfold iW;rw[Array.getElem?_setIfInBounds];split
 ·rename_i e;subst e;rw[f9 (lt_of_block a)]
 ·rfl
theorem Vn{h:f8}{b o:Nat}{c:Array eR}{e:TypeId}{f:Nat×Nat}{v:eR}(a:h[b]?=dB (.cells c e f)):Sr h ⟨b,o,ez⟩ v=iW h b (.cells (c.setIfInBounds o v) e f):=by
 apply yN;intro i;rw[gV a];simp only[Sr,yn];split
 ·rename_i d;subst d;rw[a];rfl
 ·rfl
theorem Vo(h:f8)(b:Nat)(o a:Obj):iW (iW h b o) b a=iW h b a:=by unfold iW;simp
theorem aN.iW{p:av}{h:f8}{b:Nat}{o x:Obj}(a:h[b]?=dB x)(f:¬p b):aN p h (iW h b o):=⟨by simp[Qw.iW],λc _ d=>by
 rw[gV a,g0 λe=>f (by rw[e];exact d)]⟩
theorem ey{P:Program}{b o:Nat}{e:TypeId}{K:Unit->f8->Prop}:∀{vs pre old post:aR} {i:Nat} {h:f8},h[b]?=dB (.cells (pre++old++post).toArray e (0,0))->ii old=ii vs->ii pre=o+i->
  (∀v∈vs,v.oneCell'=eH)->K () (iW h b (.cells (pre++vs++post).toArray e (0,0)))->au P (storeCells ⟨b,o,ez⟩ vs i) h K
 |[],pre,old,post,i,h,hb,hl,hp,hv,hk=>by
  have:old=[]:=qX (by simpa using hl);subst this;refine au.pure' ?_;have g:iW h b (.cells (pre++[]++post).toArray e (0,0))=h:=by
   apply yN;intro c;rw[gV hb];split
   ·rename_i d;subst d;exact hb.symm
   ·rfl
  rw[g]at hk;exact hk
 |v::r,pre,old,post,i,h,hb,hl,hp,hv,hk=>by
  cases old with
  |nil=>simp at hl
  |cons u old=>
   simp only[storeCells];refine au.bind ?_;rw[add_eq];have d:f7 h ⟨b,o+i,ez⟩=dB u:=by rw[AT hb,<-hp];simp
   refine au.adB (hv v i9) d (YT hb) ?_;rw[Vn hb];have a:(pre++(u::old)++post).toArray.setIfInBounds (o+i) v=((pre++[v])++old++post).toArray:=by rw[<-hp];apply yD;simp
   rw[a];refine ey (e:=e) (pre:=pre++[v]) (old:=old) (post:=post) ?_ (by simpa using hl) i7 (λx f=>hv x qa) ?_
   ·rw[gV hb,f9 rfl]
   ·rw[Vo];simpa using hk
theorem IY{P:Program}{h:f8}{a:eX}{vs:aR}{n:Nat}{K:Array eR->f8->Prop}(b:ii vs=n)(d:bp h a 0 vs)(c:K vs.toArray h):au P (loadCells a n) h K:=λw e=>by
 subst e;refine⟨vs.toArray,w,?_,de.refl w,c⟩;have:=run_loadCells (P:=P) (w:=w) (a:=a) vs 0 #[] d;rw[b]at this;unfold loadCells;rw[this];simp
variable {e:TypeId}
theorem Own.lt(c:Own h e s k f l){b:Nat}(a:s.on b):b<h.size:=by
 rcases c.head with⟨h1,_,_⟩|⟨b',rest,h1,h2,_,_⟩
 ·obtain⟨o,h0⟩:=a;rw[h1]at h0;cases h0
 ·obtain⟨o,h0⟩:=a;rw[h1]at h0;cases h0;exact lt_of_block h2
theorem Own.af(c:Own h e s k f l)(d:aN p h h')(a:∀b,s.on b->p b):Own h' e s k f l:=⟨c.len,by
 rcases c.head with h1|⟨b,rest,h1,h2,h3,h4⟩
 ·exact .inl h1
 ·exact .inr ⟨b,rest,h1,d.block (a b ⟨0,h1⟩) h2,h3,h4⟩⟩
theorem Own.seq(d:Own h e s k f l)(j:∀x,ii (f x)=k)(a:∀b,s.on b->p b):Seq h p s k f l:=⟨d.len,λi x c=>by
 rcases d.head with⟨_,_,h1⟩|⟨b,rest,h1,h2,h3,h4⟩
 ·subst h1;simp at c
 ·obtain⟨pre,post,g,m⟩:=FK j l i x c;refine⟨b,0,h1,a b ⟨0,h1⟩,wn (e:=e) (fr:=(0,0)) (pre:=pre) (post:=post++rest) ?_ i4⟩;rw[h2,g];simp⟩
theorem Own.nil(h:f8)(e:TypeId)(k:Nat)(f:α->aR):Own h e ⟨ez,0,0⟩ k f []:=⟨i0,.inl ⟨i0,i0,i0⟩⟩
theorem Own.cap(a:Own h e s k f l):s.len<=s.cap:=by
 rcases a.head with⟨h1,h2,h3⟩|⟨b,rest,h1,h2,h3,h4⟩
 ·have:=a.len;rw[h3]at this;simp at this;omega
 ·exact h4
theorem au.always{α:Type}{P:Program}{s:Sem α}{v:α}{h:f8}{K:α->f8->Prop}(c:aH P s v)(a:K v h):au P s h K:=λw b=>⟨v,w,c w,de.refl w,by rw[b];exact a⟩
structure bI (C:Ai) (t e k:Nat) (z:aR) (by_:Nat):Prop where
 ex:∃i j,C.T.get t=dB i/\i.cz=.slice e/\C.T.get e=dB j/\j.size=k/\j.zero=z/\j.bytes=by_
variable {t:Nat} {z:aR} {by_:Nat}
section
variable {C:Ctx} {e:Nat}
theorem bI.under(c:bI C.toAi t e k z by_)(d:C.Ok):C.P.underlying t=dB (.slice e):=by obtain⟨i,j,b,a,_⟩:=c.ex;have:=d.cz b;rw[a]at this;exact jo this
theorem bI.size(c:bI C.toAi t e k z by_)(d:C.Ok):aH C.P (sizeOf e) k:=by obtain⟨i,j,_,_,b,a,_⟩:=c.ex;rw[<-a];exact dT d.toOk b
theorem bI.info(m:bI C.toAi t e k z by_)(p:C.Ok):∃f,C.P.info? e=dB f/\f.size=k/\f.bytes=by_/\∃a,f.zero=dB a/\a.cells=z.toArray:=by obtain⟨i,j,_,_,l,d,h3,g⟩:=m.ex;obtain⟨f,c,o,n,a,b,h⟩:=p.info l;exact⟨f,c,o.trans d,n.trans g,a,b,by apply yD;rw[h,h3]⟩
end
def iI(z:aR):Nat->aR
 |0=>[]
 |n+1=>z++iI z n
theorem nG(z:aR):∀n,ii (iI z n)=n*ii z
 |0=>by simp[iI]
 |n+1=>by rw[iI,qt,nG z n,wc];omega
theorem Ms(z:aR):∀(n i:Nat),i<n*ii z->(iI z n)[i]?=z[i%ii z]?
 |0,i,h=>mq
 |n+1,i,h=>by
  have b:0<ii z:=Nat.pos_of_ne_zero λe=>by rw[e]at h;simp at h
  rw[iI];by_cases a:i<ii z
  ·rw[ql a,Nat.mod_eq_of_lt a]
  ·rw[qh i4,Ms z n (i-ii z) (by rw[wc]at h;omega)];congr 1
   conv=>rhs;rw[show i=(i-ii z)+ii z by omega,Nat.add_mod_right]
theorem Mt(z:aR)(n m:Nat)(c:m=n*ii z):((xw m).map λi=>z.toArray[i%z.toArray.size]!)=(iI z n).toArray:=by
 apply yN;intro i;subst c;simp only[Array.getElem?_map,Array.getElem?_range,zP];by_cases a:i<n*ii z
 ·rw[Ms z n i a];have b:0<ii z:=Nat.pos_of_ne_zero λe=>by rw[e]at a;simp at a
  have:=vw i b;simp[a,this]
 ·rw[qB (by rw[nG];omega)];simp[a]
theorem CC(z:aR)(n:Nat):yz z.toArray n=(iI z n).toArray:=Mt z n _ i9
theorem Rs(a:Nat):∀(r c:Nat),Builtin.growBy a r c<=(c+768)*2^r
 |0,c=>by simp[Builtin.growBy]
 |r+1,c=>by
  unfold Builtin.growBy;split
  ·exact q9 (Nat.le_add_right c 768) (Nat.le_mul_of_pos_right _ (Nat.two_pow_pos _))
  ·refine q9 (Rs a r _) ?_;rw[Nat.pow_succ,Nat.mul_comm (2^r) 2,<-Nat.mul_assoc];exact zK _ i4
theorem afH(o n:Nat)(h:o<n):(o+768)*2^4<=16*n+16*768:=i4
theorem Rv(a b:Nat)(h:b<a:=by omega):vx a b<=16*a+16*768:=by
 unfold vx;split
 ·omega
 ·split
  ·omega
  ·exact q9 (Rs a 4 b) (afH _ _ h)
variable {t2:Nat} {v:Sl} {l2:List α}
section
variable {C:Ctx} {e:Nat}
theorem fM{P:Program}{K:Array eR->f8->Prop}(q:∀x,ii (f x)=k)(g:Seq h p v k f l)(s:K (l.flatMap f).toArray h):
  au P (wK k v.len (.slice v.ptr v.len v.cap)) h K:=by
 cases hp:v.ptr with
 |none=>
  have:l=[]:=by
   cases l with
   |nil=>rfl
   |cons x r=>obtain⟨b,o,c,_⟩:=g.elem 0 x i9;rw[hp]at c;cases c
  subst this;exact au.pure' s
 |some a=>
  refine IY (by rw[di q,<-g.len]) ?_ s;cases l with
  |nil=>trivial
  |cons t r0=>
   obtain⟨b,o,c,_,_⟩:=g.elem 0 t i9;rw[hp]at c;cases c;have j:∀(r:List α) (n:Nat),(∀i x,r[i]?=dB x->bp h ⟨b,o+(n+i)*k,ez⟩ 0 (f x))->bp h ⟨b,o,ez⟩ (n*k) (r.flatMap f):=by
    intro r
    induction r with
    |nil=>intro n _;trivial
    |cons x r ih=>
     intro n w;have h0:=w 0 x i9;have e:=ih (n+1) (λi y A=>by have:=w (i+1) y (by simpa using A);rw[show n+1+i=n+(i+1)by omega];exact this);rw[zj];have app:∀(us vs:aR) (i:Nat),bp h ⟨b,o,ez⟩ i us->bp h ⟨b,o,ez⟩ (i+ii us) vs->bp h ⟨b,o,ez⟩ i (us++vs):=by
      intro us
      induction us with
      |nil=>intro vs i _ e;simpa using e
      |cons u us ih=>intro vs i c e;exact⟨c.1,ih vs (i+1) c.2 (by rw[show i+1+ii us=i+(ii us+1)by omega];exact e)⟩
     refine app _ _ _ ?_ (by rw[q,<-wc];exact e);have d:∀(us:aR) (i m:Nat),bp h ⟨b,o+m,ez⟩ i us->bp h ⟨b,o,ez⟩ (m+i) us:=by
      intro us
      induction us with
      |nil=>intros;trivial
      |cons u us ih=>
       intro i m c;refine⟨?_,ih (i+1) m c.2⟩;have:=c.1;rw[add_eq]at this⊢;rw[<-w5];exact this
     have:=d (f x) 0 ((n+0)*k) h0;simpa using this
   have:=j (t::r0) 0 (λi x z=>by
    obtain⟨D,B,c,_,h3⟩:=g.elem i x z;rw[hp]at c;cases c;simpa using h3)
   simpa using this
theorem SS(A:C.Ok)(J:bI C.toAi t e k z by_)(Y:∃i e2,C.T.get t2=dB i/\i.cz=.slice e2)(hz:ii z=k)(E:0<by_/\by_<=128)(m:∀x,ii (f x)=k)
  (y:Own h e s k f l) (F:Seq h p v k f l2) (n:∀x,∀c∈f x,c.oneCell'=eH) (ab:ii l+ii l2<=2^32) {ty:Nat} {K:Sl->f8->Prop}
  (Q:∀L h',Own h' e L k f (l++l2)->aN (λb=>¬s.on b) h h'->(∀b,L.on b->s.on b∨h.size<=b)->K L h'):
  bz C.P (zD #[t,t2] ty #[.slice s.ptr s.len s.cap,.slice v.ptr v.len v.cap]) (.one (.sc .slc)) h K:=by
 obtain⟨i2,e2,U,g2⟩:=Y;have N:C.P.underlying t2=dB (.slice e2):=by have:=A.cz U;rw[g2]at this;exact jo this
 obtain⟨M,w,x2,x3,V,W,x5⟩:=J.info A;unfold bz zD;simp only[zP,w8,qo];refine au.bind (au.always (aG (J.under A)) ?_);refine au.bind (au.always (J.size A) ?_);refine au.bind (au.always (aG N) ?_);refine au.bind (au.pure' ?_);simp only[zf,if_false,w4,if_true];refine au.bind (au.pure' ?_);have q:=y.len;have G:=F.len;by_cases g:s.len+v.len<=s.cap
 ·rw[f9 g];refine au.bind (fM m F ?_);rcases y.head with⟨p1,p2,p3⟩|⟨b,rest,p1,p2,p3,p4⟩
  ·rw[p1];have D:l2=[]:=qX i4;subst D;refine au.pure' ⟨⟨ez,s.len+v.len,s.cap⟩,i0,Q _ _ ⟨?_,.inl ⟨i0,p2,by simp[p3]⟩⟩ (aN.refl _ _) ?_⟩
   ·simp;omega
   ·rintro R ⟨o,d⟩;cases d
  ·rw[p1];refine au.bind ?_;rw[add_eq,zY];have j:=di m l;have a:=di m l2;have H:ii (l2.flatMap f)<=ii rest:=by rw[a,p3];exact zK k i4
   refine ey (e:=e) (pre:=l.flatMap f) (old:=rest.take (l2.flatMap f).length) (post:=rest.drop (l2.flatMap f).length) ?_ ?_ ?_ ?_ ?_
   ·rw[qn,qA];exact p2
   ·rw[qO];exact wi H
   ·rw[j,q];omega
   ·intro c hc;obtain⟨x,_,O⟩:=zM.1 hc;exact n x c O
   ·refine au.pure' ⟨⟨dB ⟨b,0,ez⟩,s.len+v.len,s.cap⟩,i0,Q _ _ ⟨?_,.inr ⟨b,rest.drop (l2.flatMap f).length,i0,?_,?_,g⟩⟩ ?_ ?_⟩
    ·simp;omega
    ·rw[gV p2,f9 rfl];simp
    ·rw[za,p3,a,<-Nat.sub_mul];show(s.cap-s.len-ii l2)*k=(s.cap-(s.len+v.len))*k;congr 1;omega
    ·exact aN.iW p2 (λhn=>hn ⟨0,p1⟩)
    ·rintro R ⟨o,d⟩;cases d;exact .inl ⟨0,p1⟩
 ·rw[g0 g];have u:Seq h (λ_=>True) s k f l:=y.seq m λ_ _=>trivial;have S:=y.cap;refine au.bind (au.always (cU w) ?_);rw[g0 λhh=>by rcases hh.2 with h|h<;>first|exact h|(rw[x3]at h;omega)];refine au.bind (au.always (cU w) ?_);have Z:=Rv (s.len+v.len) s.cap;rw[g0 (by
   have:vx (s.len+v.len) s.cap*M.bytes<=(16*2^32+16*768)*128:=wx i4 (by rw[x3];exact E.2);omega)]
  refine au.bind (au.IR ⟨λhf=>(by cases hf),λ_ X=>?_⟩);refine au.bind (au.always (cU w) ?_);refine au.bind (au.FB ?_);refine au.bind (fM m u ?_);refine au.bind (fM m F ?_);have I:aH C.P (zeroValue e) V:=(cU w).bind (by rw[W];exact .pure);refine au.bind (au.always I ?_);rw[x5,CC];unfold newRow;refine au.bind (au.bind (au.nQ (au.pure' (au.pure' ?_))));generalize B:Question.cut (Question.appendCap (s.len+v.len) s.cap e) X=cc;have r:s.len+v.len<=cc:=by rw[<-B];simp only[Question.cut];omega
  refine⟨⟨dB ⟨h.size,0,ez⟩,s.len+v.len,cc⟩,i0,Q _ _ ⟨?_,.inr ⟨h.size,iI z (cc-(s.len+v.len)),i0,?_,?_,r⟩⟩ (aN.push _ _ _) ?_⟩
  ·simp;omega
  ·simp
  ·rw[nG,hz]
  ·rintro R ⟨o,d⟩;cases d;exact .inr (qm _)
end
structure bW (h:f8) (a:eX) (e:TypeId) (cs:aR):Prop where
 off:a.off=0
 spot:a.spot=ez
 blk:h[a.block]?=dB (.cells cs.toArray e (0,0))
variable {a:eX} {cs:aR}
theorem bW.addr(c:bW h a e cs):a=⟨a.block,0,ez⟩:=by
 obtain⟨b,o,s⟩:=a;have:=c.off;have:=c.spot
 simp_all
theorem bW.af(b:bW h a e cs)(c:aN p h h')(d:p a.block):bW h' a e cs:=⟨b.off,b.spot,c.block d b.blk⟩
theorem bW.lt(b:bW h a e cs):a.block<h.size:=lt_of_block b.blk
theorem bW.cell(b:bW h a e cs){j:Nat}{v:eR}(c:cs[j]?=dB v):f7 h (a.add j)=dB v:=by rw[b.addr,add_eq,AT b.blk];simpa using c
theorem bW.cell0(c:bW h a e cs){v:eR}(b:cs[0]?=dB v):f7 h a=dB v:=c.cell (j:=0) b
theorem bW.cells(c:bW h a e cs)(j:Nat)(vs:aR)(d:(cs.drop j).take vs.length=vs):bp h (a.add j) 0 vs:=by
 rw[c.addr,add_eq,zY];have b:ii vs<=ii (cs.drop j):=by have:=congrArg List.length d;rw[qO]at this;omega
 rcases Nat.lt_or_ge cs.length j with hj|hj
 ·rw[za]at b;have:vs=[]:=qX i4;subst this;trivial
 ·refine wn (e:=e) (fr:=(0,0)) (pre:=cs.take j) (post:=(cs.drop j).drop vs.length) ?_ i7;have:cs.take j++vs++(cs.drop j).drop vs.length=cs:=by
   conv=>lhs;rw[qn];arg 2;arg 1;rw[<-d]
   rw[qA,qA]
  rw[this];exact c.blk
theorem bW.aE(c:bW h a e cs)(vs:aR)(b:cs.take vs.length=vs):bp h a 0 vs:=c.cells 0 vs b
variable {i:TI}
section
variable {C:Ctx}
theorem ut(f:C.Ok)(d:C.T.get t=dB i){K:eX->f8->Prop}(e:∀a h',a.block=h.size->bW h' a t i.zero->aN (λ_=>True) h h'->h'.size=h.size+1->K a h'):
  ow C.P (yJ t eH (.tuple #[])) h K:=by
 obtain⟨z,c,b⟩:=pM f.toOk d;unfold ow yJ;refine au.bind (au.always c ?_);refine au.bind (au.bind (au.bind (au.nQ (au.pure' (au.pure' (au.pure' ?_))))));refine⟨⟨h.size,0,ez⟩,i0,e _ _ i0 ⟨i0,i0,?_⟩ (aN.push _ _ _) i9⟩;rw[<-b];simp
theorem Rw{v:eR}{P:Program}{K:eX->f8->Prop}(b:∀a h',a.block=h.size->bW h' a t v.cells.toList->aN (λ_=>True) h h'->h'.size=h.size+1->K a h'):
  ow P (vQ t v) h K:=by
 unfold ow vQ;refine au.bind (au.bind (au.bind (au.nQ (au.pure' (au.pure' (au.pure' ?_))))));refine⟨⟨h.size,0,ez⟩,i0,b _ _ i0 ⟨i0,i0,?_⟩ (aN.push _ _ _) i9⟩;simp
theorem run_store(m:C.Ok){a:eX}{e:TypeId}{b:aR}(c:bW h a e b)(n:C.T.get t=dB i)(off:Nat){v:eR}(vs:aR)(l:v.cells=vs.toArray)(f:i.size=ii vs)
  (d:vs.all (·.oneCell')=eH) (g:off+ii vs<=ii b) {K:Unit->f8->Prop}
  (o:∀h',bW h' a e (b.take off++vs++b.drop (off+ii vs))->aN (·≠a.block) h h'->h'.size=h.size->K () h'):
  au C.P (qE t (.pointer (dB (a.add off))) v) h K:=by
 have k:=c.addr;unfold qE;refine au.bind (au.pure' ?_);unfold storeVar;refine au.bind (au.always (dT m.toOk n) ?_);rw[l,f];simp only[wZ,ne_eq,not_true,if_false];rw[k,add_eq,zY];refine ey (e:=e) (pre:=b.take off) (old:=(b.drop off).take vs.length) (post:=b.drop (off+ii vs)) ?_ ?_ ?_ ?_ ?_
 ·have:b.take off++(b.drop off).take vs.length++b.drop (off+ii vs)=b:=by rw[<-wm,qn,qA,qA]
  rw[this];exact c.blk
 ·simp;omega
 ·simp;omega
 ·intro x j;have:=qY.1 d x j;exact this
 ·refine o _ ⟨c.off,c.spot,?_⟩ (aN.iW c.blk i9) (by simp[iW]);rw[gV c.blk,f9 rfl]
theorem AU(m:C.Ok){a:eX}{e:TypeId}{c:aR}(g:bW h a e c)(j:C.T.get t=dB i){v:eR}(vs:aR)(k:v.cells=vs.toArray)(d:i.size=ii vs)
  (b:vs.all (·.oneCell')=eH) (f:ii vs<=ii c) {K:Unit->f8->Prop}
  (l:∀h',bW h' a e (vs++c.drop vs.length)->aN (·≠a.block) h h'->h'.size=h.size->K () h'):
  au C.P (qE t (.pointer (dB a)) v) h K:=
 run_store m g j 0 vs k d b i4 (λh' x y z=>l h' pa y z)
end
section
variable {C:Ctx} {e:Nat}
theorem CD{b:α}(a:f b=z):∀n,iI z n=(qi n b).flatMap f
 |0=>rfl
 |n+1=>by rw[iI,List.replicate_succ,zj,a,CD a n]
theorem ai(x:Int)(c:-9223372036854775808<=x:=by omega)(b:x<=9223372036854775807:=by omega):qe xM x=x:=by
 show(if(eH&&decide (x%2^64>=2^63))=eH then x%2^64-2^64 else x%2^64)=x;by_cases a:x%2^64>=2^63
 ·rw[f9 (by rw[yd];exact g9 a)];omega
 ·rw[g0 (by rw[yd];exactλh=>a (hZ h))];omega
theorem run_make(u:C.Ok)(r:bI C.toAi t e k z by_)(l:0<by_/\by_<=128)(y:α)(B:f y=z)(d:ii z=k){M L:IntKind}{n c:Int}(m b:Nat)(H:n=m)(J:c=b)(q:m<=b)(w:b<=2^32)
  {K:Sl->f8->Prop} (N:∀j h',Own h' e j k f (qi m y)->j.ptr=dB ⟨h.size,0,ez⟩->j.cap=b->aN (λ_=>True) h h'->h'.size=h.size+1->K j h'):
  bz C.P (zw t (.int M n) (.int L c)) (.one (.sc .slc)) h K:=by
 subst H;subst J;obtain⟨s,A,x2,x3,D,F,I⟩:=r.info u;unfold bz zw;refine au.bind (au.always (aG (r.under u)) ?_);refine au.bind (au.pure' ?_);refine au.bind (au.pure' ?_);refine au.bind (au.always (cU A) ?_);have E:qe xM (m:Int)=m:=ai _;have G:qe xM (b:Int)=b:=ai _;have O:¬((s.bytes:Int)*(b:Int)>2^48):=by
  rw[x3];have:by_*b<=128*2^32:=wx l.2 w;have:((by_:Int)*(b:Int))<=((128*2^32:Nat):Int):=by exact_mod_cast this
  omega
 simp only[E,G];rw[g0 i7];refine au.bind (au.FB ?_);refine au.bind (au.always (r.size u) ?_);have p:aH C.P (zeroValue e) D:=(cU A).bind (by rw[F];exact .pure);have fin:∀g:Array eR,(b*k≠0->g=z.toArray)->au C.P (do
   let a<-newRow e ((xw (b*k)).map (g[·%g.size]!))
   pure (Value.slice (dB a) m b)) h (λv h'=>∃x:(Rt.one (.sc .slc)).den,v=(Rt.one (.sc .slc)).enc x/\K x h'):=by
  intro g o;have i:((xw (b*k)).map (g[·%g.size]!))=(iI z b).toArray:=by
   by_cases h0:b*k=0
   ·rw[h0];have:iI z b=[]:=qX (by rw[nG,d,h0]);rw[this];simp
   ·rw[o h0];exact Mt z b _ (by rw[d])
  rw[i];refine au.bind (au.bind (au.nQ (au.pure' (au.pure' ?_))));refine⟨⟨dB ⟨h.size,0,ez⟩,m,b⟩,i0,N _ _ ⟨i9,.inr ⟨h.size,iI z (b-m),i0,?_,?_,q⟩⟩ i0 i0 (aN.push _ _ _) i9⟩
  ·have:iI z b=(qi m y).flatMap f++iI z (b-m):=by rw[CD B,CD B,<-qZ,List.replicate_append_replicate];congr 2;omega
   rw[this];simp
  ·rw[nG,d]
 simp only[qk];by_cases h0:b*k=0
 ·rw[f9 h0];exact au.bind (au.pure' (fin _ λh=>absurd h0 h))
 ·rw[g0 h0];refine au.bind (au.always p ?_);exact au.bind (au.pure' (fin _ λ_=>I))
theorem IZ(q:C.Ok)(o:bI C.toAi t e k z by_)(d:ii z=k){n:Nat}{parts:Array (Nat×eR)}(l:List α)(w:ii l=n)(D:n*k<=2^20)
  (b:wC (λi=>dB (i*k,k)) (iI z n).toArray parts.toList=dB (l.flatMap f).toArray) {K:Sl->f8->Prop}
  (A:∀p h',Own h' e p k f l->p.ptr=dB ⟨h.size,0,ez⟩->aN (λ_=>True) h h'->h'.size=h.size+1->K p h'):
  bz C.P (zL t n parts) (.one (.sc .slc)) h K:=by
 obtain⟨y,u,x2,x3,r,s,B⟩:=o.info q;unfold bz zL;refine au.bind (au.always (aG (o.under q)) ?_);refine au.bind (au.always (o.size q) ?_);rw[g0 i4];have m:aH C.P (zeroValue e) r:=(cU u).bind (by rw[s];exact .pure);have fin:∀c:Array eR,(n*k≠0->c=z.toArray)->au C.P (do
   let dB cells:=wC (λi=>dB (i*k,k)) ((xw (n*k)).map (c[·%c.size]!)) parts.toList
    |stuck "buildSlice: a part of the wrong size"
   pure (Value.slice (dB (<-newRow e cells)) n n)) h (λv h'=>∃x:(Rt.one (.sc .slc)).den,v=(Rt.one (.sc .slc)).enc x/\K x h'):=by
  intro c j;have g:((xw (n*k)).map (c[·%c.size]!))=(iI z n).toArray:=by
   by_cases h0:n*k=0
   ·rw[h0];have:iI z n=[]:=qX (by rw[nG,d,h0]);rw[this];simp
   ·rw[j h0];exact Mt z n _ (by rw[d])
  rw[g,b];refine au.bind (au.bind (au.nQ (au.pure' (au.pure' ?_))));refine⟨⟨dB ⟨h.size,0,ez⟩,n,n⟩,i0,A _ _ ⟨w.symm,.inr ⟨h.size,[],i0,i9,i9,qm _⟩⟩ i0 (aN.push _ _ _) i9⟩
 by_cases h0:n*k=0
 ·rw[f9 h0];exact au.bind (au.pure' (fin _ λh=>absurd h0 h))
 ·rw[g0 h0];refine au.bind (au.always m ?_);exact au.bind (au.pure' (fin _ λ_=>B))
theorem Own.set{i:TI}(B:C.Ok)(u:Own h e s k f l)(p:∀x,ii (f x)=k)(E:C.T.get t=dB i){x:Int}(n:Nat)(z:x=n)(v:n<ii l){o:eR}(y:α)(A:o.cells=(f y).toArray)(q:i.size=k)
  (j:(f y).all (·.oneCell')=eH) {K:f8->Prop} (G:∀h',Own h' e s k f (l.set n y)->aN (λb=>¬s.on b) h h'->h'.size=h.size->K h'):
  ∃a:eX,(s.ptr=dB a/\0<=x/\x<((s.len:Nat):Int))/\au C.P (qE t (.pointer (dB (a.add (x.toNat*k)))) o) h λ_ h'=>K h':=by
 subst z;rcases u.head with⟨_,_,h3⟩|⟨b,rest,h1,h2,h3,h4⟩
 ·subst h3;simp at v
 ·refine⟨_,⟨h1,i4,by rw[u.len];omega⟩,?_⟩;unfold qE;refine au.bind (au.pure' ?_);unfold storeVar;refine au.bind (au.always (dT B.toOk E) ?_);rw[A,q];have r:=p y;simp only[wZ,r,ne_eq,not_true,if_false];rw[add_eq,zY,qk];have d:l=l.take n++l[n]::l.drop (n+1):=by rw[<-qJ v,qA]
  have m:l.set n y=l.take n++y::l.drop (n+1):=wA.trans (f9 v);have g:ii ((l.take n).flatMap f)=n*k:=by rw[di p,qO,wi i4]
  refine ey (e:=e) (pre:=(l.take n).flatMap f) (old:=f l[n]) (post:=(l.drop (n+1)).flatMap f++rest) ?_ ?_ ?_ ?_ ?_
  ·have:l.flatMap f++rest=(l.take n).flatMap f++f l[n]++((l.drop (n+1)).flatMap f++rest):=by have w:=congrArg (List.flatMap f) d;rw[qZ,zj]at w;rw[w];simp
   rw[<-this];exact h2
  ·rw[p,p]
  ·rw[g];omega
  ·intro c F;have:=qY.1 j c F;exact this
  ·refine G _ ⟨by rw[zc];exact u.len,.inr ⟨b,rest,h1,?_,h3,h4⟩⟩ (aN.iW h2 λD=>D ⟨0,h1⟩) (by simp[iW]);rw[gV h2,f9 i0,m];simp
end
def grow(c:Nat->Nat)(n i:Nat):Nat->Nat:=λb=>if b<n then c b else i
theorem gA{c:Nat->Nat}{n i b:Nat}(h:b<n):grow c n i b=c b:=f9 h
theorem pm{c:Nat->Nat}{n i b:Nat}(h:n<=b:=by omega):grow c n i b=i:=g0 i4
structure dF {α:Type} (h:f8) (c:Nat->Nat) (i:Nat) (e:TypeId) (s:Sl) (k:Nat) (f:α->aR) (l:List α):Prop where
 own:Own h e s k f l
 bw:∀b,s.on b->c b=i
structure kw (h:f8) (c:Nat->Nat) (i:Nat) (a:eX) (e:TypeId) (cs:aR):Prop where
 box:bW h a e cs
 bw:c a.block=i
structure mj (h0 h:f8) (c:Nat->Nat):Prop where
 af:aN (λb=>b<h0.size) h0 h
 bw:∀b,b<h0.size->c b=0
variable {h0:f8} {c:Nat->Nat} {j n m:Nat}
section
variable {i:Nat}
theorem dF.keep(d:dF h c j e s k f l)(n:aN (λb=>c b≠i) h h')(g:j≠i):dF h' (grow c h.size m) j e s k f l:=
 ⟨d.own.af n λb a=>by rw[d.bw b a];exact g,λb a=>by rw[gA (d.own.lt a)];exact d.bw b a⟩
theorem kw.keep(d:kw h c j a e cs)(g:aN (λb=>c b≠i) h h')(f:j≠i):kw h' (grow c h.size m) j a e cs:=
 ⟨d.box.af g (by rw[d.bw];exact f),by rw[gA d.box.lt];exact d.bw⟩
theorem mj.keep(d:mj h0 h c)(e:aN (λb=>c b≠i) h h')(f:i≠0):mj h0 h' (grow c h.size m):=
 ⟨d.af.then e λb a _=>by rw[d.bw b a];exact f.symm,λb a=>by rw[gA (qT a d.af.1)];exact d.bw b a⟩
theorem mj.refl(h:f8):mj h h (λ_=>0):=⟨aN.refl _ _,λ_ _=>rfl⟩
theorem dF.seq(a:dF h c j e s k f l)(d:∀x,ii (f x)=k):Seq h (λb=>c b=j) s k f l:=a.own.seq d a.bw
theorem dF.SU(a:dF h c j e s k f l)(g:∀x,ii (f x)=k):Seq h (λb=>b<h.size) s k f l:=a.own.seq g λ_ d=>a.own.lt d
theorem dF.nil(h:f8)(c:Nat->Nat)(i:Nat)(e:TypeId)(k:Nat)(f:α->aR):dF h c i e ⟨ez,0,0⟩ k f []:=⟨Own.nil h e k f,λb a=>by obtain⟨o,d⟩:=a;cases d⟩
theorem aN.bw(a:aN (λ_=>True) h h')(c:Nat->Nat)(i:Nat):aN (λb=>c b≠i) h h':=a.mono λ_ _ _=>trivial
end
variable {ti:TI}
section
variable {C:Ctx} {i e:Nat}
theorem rX(f:C.Ok)(_:mj h0 h c)(i:Nat)(d:C.T.get t=dB ti){K:eX->f8->Prop}(e:∀a h',kw h' (grow c h.size i) i a t ti.zero->aN (λb=>c b≠i) h h'->K a h'):
  ow C.P (yJ t eH (.tuple #[])) h K:=
 ut f d λa h' x y z _=>e a h' ⟨y,by rw[pm]⟩ (z.bw c i)
theorem Mu(P:Program)(_:mj h0 h c)(i:Nat){v:eR}{K:eX->f8->Prop}(d:∀a h',kw h' (grow c h.size i) i a t v.cells.toList->aN (λb=>c b≠i) h h'->K a h'):
  ow P (vQ t v) h K:=
 Rw λa h' x y z _=>d a h' ⟨y,by rw[pm]⟩ (z.bw c i)
theorem kw.store(n:C.Ok)(g:kw h c i a e cs)(o:C.T.get t=dB ti)(off:Nat){v:eR}(vs:aR)(m:v.cells=vs.toArray)(j:ti.size=ii vs)
  (d:vs.all (·.oneCell')=eH) (f:off+ii vs<=ii cs) {K:Unit->f8->Prop}
  (p:∀h',kw h' (grow c h.size i) i a e (cs.take off++vs++cs.drop (off+ii vs))->aN (λb=>c b≠i) h h'->K () h'):
  au C.P (qE t (.pointer (dB (a.add off))) v) h K:=
 run_store n g.box o off vs m j d f λh' x y z=>p h' ⟨x,by rw[gA g.box.lt];exact g.bw⟩ (y.mono λb _ k l=>k (by rw[l];exact g.bw))
theorem kw.ja(n:C.Ok)(j:kw h c i a e cs)(k:C.T.get t=dB ti){v:eR}(vs:aR)(l:v.cells=vs.toArray)(f:ti.size=ii vs)
  (d:vs.all (·.oneCell')=eH) (g:ii vs<=ii cs) {K:Unit->f8->Prop}
  (m:∀h',kw h' (grow c h.size i) i a e (vs++cs.drop vs.length)->aN (λb=>c b≠i) h h'->K () h'):
  au C.P (qE t (.pointer (dB a)) v) h K:=
 j.store n k 0 vs l f d i4 (λh' x y=>m h' pa y)
theorem uu(w:C.Ok)(_:mj h0 h c)(i:Nat)(f:α->aR)(v:bI C.toAi t e k z by_)(d:0<by_/\by_<=128)(l:α)(s:f l=z)(g:ii z=k){D B:IntKind}{n p:Int}(m:Nat)(u:n=m)(A:p=m)(j:m<=2^32)
  {K:Sl->f8->Prop} (E:∀a h',dF h' (grow c h.size i) i e a k f (qi m l)->aN (λb=>c b≠i) h h'->K a h'):
  bz C.P (zw t (.int D n) (.int B p)) (.one (.sc .slc)) h K:=
 run_make w v d l s g m m u A (qm _) j λa h' x y _ z _=>E a h' ⟨x,λb r=>by obtain⟨o,q⟩:=r;rw[y]at q;cases q;rw[pm (qm _)]⟩ (z.bw c i)
theorem FL(s:C.Ok)(_:mj h0 h c)(i:Nat)(f:α->aR)(r:bI C.toAi t e k z by_)(g:ii z=k){n:Nat}{parts:Array (Nat×eR)}(l:List α)(q:ii l=n)(j:n*k<=2^20)
  (a:wC (λi=>dB (i*k,k)) (iI z n).toArray parts.toList=dB (l.flatMap f).toArray) {K:Sl->f8->Prop}
  (u:∀d h',dF h' (grow c h.size i) i e d k f l->aN (λb=>c b≠i) h h'->K d h'):
  bz C.P (zL t n parts) (.one (.sc .slc)) h K:=
 IZ s r g l q j a λd h' x y z _=>u d h' ⟨x,λb p=>by obtain⟨o,m⟩:=p;rw[y]at m;cases m;rw[pm (qm _)]⟩ (z.bw c i)
theorem dF.append(D:C.Ok)(d:dF h c i e s k f l)(B:bI C.toAi t e k z by_)(j:∃i e2,C.T.get t2=dB i/\i.cz=.slice e2)(A:ii z=k)(m:0<by_/\by_<=128)(q:∀x,ii (f x)=k)
  (u:Seq h p v k f l2) (a:∀x,∀c∈f x,c.oneCell'=eH) (n:ii l+ii l2<=2^32) {ty:Nat} {K:Sl->f8->Prop}
  (E:∀g h',dF h' (grow c h.size i) i e g k f (l++l2)->aN (λb=>c b≠i) h h'->K g h'):
  bz C.P (zD #[t,t2] ty #[.slice s.ptr s.len s.cap,.slice v.ptr v.len v.cap]) (.one (.sc .slc)) h K:=
 SS D B j A m q d.own u a n λg h' x y w=>E g h' ⟨x,λb r=>by
  rcases w b r with w|w
  ·rw[gA (d.own.lt w)];exact d.bw b w
  ·exact pm w⟩ (y.mono λb _ o j=>o (d.bw b j))
theorem dF.set(B:C.Ok)(j:dF h c i e s k f l)(r:∀x,ii (f x)=k)(D:C.T.get t=dB ti){x:Int}(n:Nat)(q:x=n)(A:n<ii l){g:eR}(y:α)(v:g.cells=(f y).toArray)(m:ti.size=k)
  (d:(f y).all (·.oneCell')=eH) {K:f8->Prop} (E:∀h',dF h' (grow c h.size i) i e s k f (l.set n y)->aN (λb=>c b≠i) h h'->K h'):
  ∃a:eX,(s.ptr=dB a/\0<=x/\x<((s.len:Nat):Int))/\au C.P (qE t (.pointer (dB (a.add (x.toNat*k)))) g) h λ_ h'=>K h':=
 j.own.set B r D n q A y v m d λh' z w _=>E h' ⟨z,λb p=>by rw[gA (j.own.lt p)];exact j.bw b p⟩ (w.mono λb _ o u=>o (j.bw b u))
end
section
variable {C:Ctx} {i e:Nat}
theorem grow_grow{c:Nat->Nat}{n m i:Nat}(h:n<=m):grow (grow c n i) m i=grow c n i:=by
 funext b;unfold grow;split
 ·rfl
 ·rw[g0 i4]
theorem aN.step(a:aN (λb=>c b≠i) h h'){d:f8}(b:aN (λb=>grow c h.size i b≠i) h' d):aN (λb=>c b≠i) h d:=
 a.then b λx f e=>by rw[gA f];exact e
theorem dF.push(H:C.Ok)(y:dF h c i e s k f l)(A:bI C.toAi t e k z by_)(G:ii z=k)(u:0<by_/\by_<=128)(E:∀x,ii (f x)=k)
  (d:∀x,∀c∈f x,c.oneCell'=eH) (x:α) {parts:Array (Nat×eR)} (a:wC (λi=>dB (i*k,k)) (iI z 1).toArray parts.toList=dB ([x].flatMap f).toArray)
  (B:1*k<=2^20) (w:ii l+1<=2^32) {ty:Nat} {K:Sl->f8->Prop}
  (N:∀n h',dF h' (grow c h.size i) i e n k f (l++[x])->aN (λb=>c b≠i) h h'->K n h'):
  bz C.P (zL t 1 parts) (.one (.sc .slc)) h λv j=>bz C.P (zD #[t,t] ty #[.slice s.ptr s.len s.cap,.slice v.ptr v.len v.cap]) (.one (.sc .slc)) j K:=by
 refine IZ H A G [x] i0 B a λv j L O o _=>?_;have D:aN (λb=>c b≠i) h j:=o.bw c i;have q:dF j (grow c h.size i) i e s k f l:=⟨y.own.af o λ_ _=>trivial,λb F=>by rw[gA (y.own.lt F)];exact y.bw b F⟩
 have m:h.size<=j.size:=o.1;obtain⟨M,Q,J,x2,_⟩:=A.ex;refine q.append H A ⟨M,e,J,x2⟩ G u E (L.seq (p:=λ_=>True) E λ_ _=>trivial) d w λn I g r=>?_;rw[grow_grow m]at g;exact N n I g (D.step r)
structure agO (h:f8) (c:Nat->Nat) (top lo:Nat) (e:TypeId) (s:Sl) (k:Nat) (f:α->aR) (ll:List (List α)) (rs:List Sl):Prop where
 own:dF h c top e s 1 aX rs
 len:ii rs=ii ll
 row:∀(i:Nat) r l,rs[i]?=dB r->ll[i]?=dB l->Seq h (λb=>b<h.size/\lo<=c b/\c b<lo+ii ll) r k f l
theorem jb:∀x,∀c∈aX x,c.oneCell'=eH:=by intro x c a;simp only[aX,qp]at a;subst a;rfl
end
structure agP {α:Type} (h:f8) (r:Nat) (g:α->eR) (kvs:List (Int×α)):Prop where
 ex:∃es clock,h[r]?=dB (.map es clock)/\es.toList.map (λe=>(e.key,e.val))=kvs.map (λp=>(Value.int .i64 p.1,g p.2))
variable {P:Program} {r:Nat} {g:α->eR} {kvs:List (Int×α)}
theorem Mw(x n:Int)(b:0<n):x%n=if x.tmod n<0 then x.tmod n+n else x.tmod n:=by
 have d:=vL x b;have c:-n<x.tmod n:=Int.lt_tmod_of_pos x b;have e:=Int.tmod_add_mul_tdiv x n;have a:0<=(if x.tmod n<0 then x.tmod n+n else x.tmod n)/\(if x.tmod n<0 then x.tmod n+n else x.tmod n)<n:=by split<;>omega
 have e2:x=(if x.tmod n<0 then x.tmod n+n else x.tmod n)+n*(if x.tmod n<0 then x.tdiv n-1 else x.tdiv n):=by
  split
  ·rw[Int.mul_sub];omega
  ·omega
 conv=>lhs;rw[e2]
 rw[Int.add_mul_emod_self_left];exact Int.emod_eq_of_lt a.1 a.2
theorem aD{α:Type}(l:List α)(k:Nat)(h:k<ii l:=by omega):l.take (k+1)=l.take k++[l[k]]:=zN h
theorem eC:∀x,∀c∈ak x,c.oneCell'=eH:=by intro x c a;simp only[ak,qp]at a;subst a;rfl
theorem gW:∀x,∀c∈aw x,c.oneCell'=eH:=by intro x c a;simp only[aw,qp]at a;subst a;rfl
theorem up{h c d:f8}(a:aN (λb=>b<h.size) h c)(b:aN (λb=>b<c.size) c d):aN (λb=>b<h.size) h d:=
 a.then b λ_ e _=>qT e a.1
theorem any{h c:f8}(a:aN (λ_=>True) h c):aN (λb=>b<h.size) h c:=a.mono λ_ _ _=>trivial
theorem Seq.up{α:Type}{h h':f8}{s:Sl}{k:Nat}{f:α->aR}{l:List α}(d:Seq h (λb=>b<h.size) s k f l)(a:aN (λb=>b<h.size) h h'):Seq h' (λb=>b<h'.size) s k f l:=
 (d.af a).mono λ_ c=>qT c a.1
theorem fq.up{α:Type}{h h':f8}{s:Sl}{k:Nat}{f:α->aR}{l:List (List α)}{rs:List Sl}(d:fq h (λb=>b<h.size) s k f l rs)(a:aN (λb=>b<h.size) h h'):fq h' (λb=>b<h'.size) s k f l rs:=
 (d.af a).mono λ_ c=>qT c a.1
theorem fq.SV{α:Type}{h:f8}{p:av}{s:Sl}{k:Nat}{f:α->aR}{b:List (List α)}{rs:List Sl}(m:fq h p s k f b rs){i:Int}(n:Nat)(l:i=n)(j:n<ii b){K:eX->Sl->Prop}
  (o:∀a r,f7 h (a.add (i.toNat*1))=dB (.slice r.ptr r.len r.cap)->Seq h p r k f b[n]->rs[n]?=dB r->K a r):
  ∃a:eX,(s.ptr=dB a/\0<=i/\i<((s.len:Nat):Int))/\∃x:Sl,f7 h (a.add (i.toNat*1))=dB (.slice x.ptr x.len x.cap)/\K a x:=by
 obtain⟨a,g,x,e,d,c⟩:=m.get n l j (K:=λr=>Seq h p r k f b[n]/\rs[n]?=dB r) λr d c=>⟨d,c⟩;exact⟨a,g,x,e,o a x e d c⟩
theorem Seq.drop{α:Type}{h:f8}{p:av}{s:Sl}{w:Nat}{f:α->aR}{l:List α}(c:Seq h p s w f l)(k:Nat)(m:s.len<=s.cap):
  Seq h p ⟨if s.cap=k then s.ptr else s.ptr.map (·.add (k*w)),s.len-k,s.cap-k⟩ w f (l.drop k):=by
 have g:=c.len;refine⟨oj,λi x a=>?_⟩;rw[wL]at a;obtain⟨b,o,j,d,h3⟩:=c.elem _ x a;have e:=(qj.1 a).1;refine⟨b,o+k*w,?_,d,?_⟩
 ·dsimp only;rw[g0 i4,j,qQ,add_eq]
 ·rw[show o+k*w+i*w=o+(k+i)*w by rw[Nat.add_mul];omega];exact h3
theorem Seq.take{α:Type}{h:f8}{p:av}{s:Sl}{w:Nat}{f:α->aR}{l:List α}(b:Seq h p s w f l)(k:Nat)(c:k<=ii l):
  Seq h p ⟨s.ptr,k,s.cap⟩ w f (l.take k):=by
 refine⟨i7,λi x a=>?_⟩;rw[vm]at a;split at a
 ·exact b.elem i x a
 ·cases a
theorem getD_lt{α:Type}{l:List α}{d:α}{i:Nat}(h:i<ii l:=by omega):l.getD i d=l[i]:=by rw[qd,qc h];rfl
structure HP where
 p:f8->av->Prop
 loc:∀{h h':f8} {q:av},p h q->aN q h h'->p h' q
 mono:∀{h:f8} {q q':av},p h q->(∀b,q b->q' b)->p h q'
def emp:HP:=⟨λ_ _=>True,λ_ _=>trivial,λ_ _=>trivial⟩
def ae{α:Type}(e:TypeId)(s:Sl)(k:Nat)(f:α->aR)(l:List α):HP:=
 ⟨λh q=>Own h e s k f l/\∀b,s.on b->q b,λa g=>⟨a.1.af g a.2,a.2⟩,λa d=>⟨a.1,λb c=>d b (a.2 b c)⟩⟩
def ac(a:eX)(e:TypeId)(b:aR):HP:=
 ⟨λh q=>bW h a e b/\q a.block,λx d=>⟨x.1.af d x.2,x.2⟩,λx c=>⟨x.1,c _ x.2⟩⟩
def kP{α:Type}(s:Sl)(k:Nat)(f:α->aR)(l:List α):HP:=
 ⟨λh q=>Seq h q s k f l,λa c=>a.af c,λa b=>a.mono b⟩
def fH{α:Type}(e:TypeId)(s:Sl)(k:Nat)(f:α->aR)(m:List (List α)):HP:=
 ⟨λh q=>∃(rs:List Sl) (j:av),Own h e s 1 aX rs/\(∀b,s.on b->q b/\¬j b)/\(∀b,j b->q b)/\rs.length=ii m/\∀(i:Nat) r l,rs[i]?=dB r->m[i]?=dB l->Seq h j r k f l,
  λ⟨rs,j,a,b,c,d,e⟩ hp=>⟨rs,j,a.af hp λx g=>(b x g).1,b,c,d,λi r l o n=>(e i r l o n).af (hp.mono λx _ g=>c x g)⟩,
  λ⟨rs,j,a,b,c,d,e⟩ hq=>⟨rs,j,a,λx g=>⟨hq x (b x g).1,(b x g).2⟩,λx g=>hq x (c x g),d,e⟩⟩
structure aa (B:av) (h0 h:f8) (As:List HP):Prop where
 low:∀b,B b->b<h0.size
 af:aN B h0 h
 ex:∃c:Nat->Nat,(∀b,B b->c b=0)/\∀(i:Nat) (A:HP),As[i]?=dB A->A.p h (λb=>b<h.size/\c b=i+1)
abbrev Sp(a h:f8)(As:List HP):Prop:=aa (λb=>b<a.size) a h As
variable {As:List HP} {A2 D:HP}
section
variable {B:av} {Bs:List HP} {A:HP} {i:Nat}
theorem Sp.refl(h:f8):Sp h h []:=⟨λ_ h=>h,aN.refl _ _,λ_=>0,λ_ _=>rfl,λi A a=>by simp at a⟩
theorem aa.at(H:aa B h0 h As)(i:Nat)(e:As[i]?=dB A):A.p h (λb=>b<h.size):=by obtain⟨c,_,a⟩:=H.ex;exact A.mono (a i A e) λ_ d=>d.1
theorem aa.fin(H:aa B h0 h As)(i:Nat)(g:As[i]?=dB A):A.p h (λb=>¬B b/\b<h.size):=by obtain⟨c,f,d⟩:=H.ex;exact A.mono (d i A g) λb e=>⟨λa=>by have:=f b a;omega,e.1⟩
theorem Sp.fresh(H:Sp h0 h As)(i:Nat)(c:As[i]?=dB A):A.p h (λb=>h0.size<=b/\b<h.size):=
 A.mono (aa.fin H i c) λb a=>⟨i4,a.2⟩
theorem aa.comp(H:aa B h0 h As)(R:Sp h h' Bs):aa B h0 h' (As++Bs):=by
 obtain⟨j,k,p,q,m⟩:=H;obtain⟨_,e,g,o,l⟩:=R;have c:=k.1;refine⟨j,k.then e λb a _=>qT a c,λb=>if b<h.size then p b else if g b=0 then 0 else As.length+g b,λb a=>?_,λi A d=>?_⟩
 ·dsimp only;rw[f9 (qT (j b a) c)];exact q b a
 ·by_cases n:i<ii As
  ·rw[ql n]at d;refine A.mono (A.loc (m i A d) (e.mono λb _ a=>a.1)) λb a=>⟨qT a.1 e.1,?_⟩
   dsimp only;rw[f9 a.1];exact a.2
  ·rw[qh i4]at d;refine A.mono (l _ A d) λb a=>⟨a.1,?_⟩
   have:¬b<h.size:=λf=>by have:=o b f;omega
   dsimp only;rw[g0 this,g0 i4];omega
theorem aa.up(H:aa B h0 h As)(R:aN (λb=>b<h.size) h h'):aa B h0 h' As:=by have:=H.comp (Bs:=[]) ⟨λ_ h=>h,R,λ_=>0,λ_ _=>rfl,λi A a=>by simp at a⟩;simpa using this
theorem Sp.one(R:aN (λb=>b<h.size) h h')(d:A.p h' λb=>h.size<=b/\b<h'.size):Sp h h' [A]:=by
 refine⟨λ_ h=>h,R,λb=>if b<h.size then 0 else 1,λb a=>f9 a,λi A2 c=>?_⟩;cases i with
 |succ i=>simp at c
 |zero=>
  simp at c;subst c;exact A.mono d λb a=>⟨a.2,by dsimp only;rw[g0 i4]⟩
theorem Sp.zip(R:aN (λb=>b<h.size) h h'):Sp h h' []:=aa.up (Sp.refl h) R
theorem aa.enter(q:av)(c:Nat->Nat)(f:∀b,q b->b<h.size)(a:∀(i:Nat) (A:HP),As[i]?=dB A->A.p h λb=>q b/\c b=i+1):aa (λb=>b<h.size/\¬q b) h h As:=by
 classical
 refine⟨λb d=>d.1,aN.refl _ _,λb=>if q b then c b else 0,λb d=>g0 d.2,λi A e=>A.mono (a i A e) λb d=>⟨f b d.1,?_⟩⟩;dsimp only;rw[f9 d.1];exact d.2
theorem aa.Vp(q:av)(e:∀b,q b->b<h.size)(a:A.p h q):aa (λb=>b<h.size/\¬q b) h h [A]:=
 .enter q (λ_=>1) e λi A2 c=>by
  cases i with
  |succ i=>simp at c
  |zero=>simp at c;subst c;exact A.mono a λb d=>⟨d,i0⟩
theorem aa.AV(l:∀b,B b->b<h0.size)(f:aN B h0 h)(z:∀b,B b->c b=0)(a:∀(i:Nat) (A:HP),As[i]?=dB A->A.p h λb=>b<h.size/\c b=i+1)
  (k:aN (λb=>¬(b<h.size/\c b=i+1)) h h') (n:D.p h' λb=>b<h'.size/\((b<h.size/\c b=i+1)∨h.size<=b)):aa B h0 h' (As.set i D):=by
 refine⟨l,f.then k λb _ d m=>by have:=z b d;omega,grow c h.size (i+1),λb d=>?_,λj A e=>?_⟩
 ·rw[gA (qT (l b d) f.1)];exact z b d
 ·rw[qU]at e;split at e
  ·rename_i g;subst g;split at e
   ·injection e with e
    subst e;refine D.mono n λb d=>⟨d.1,?_⟩
    rcases d.2 with h1|h1
    ·rw[gA h1.1];exact h1.2
    ·exact pm h1
   ·cases e
  ·rename_i g;refine A.mono (A.loc (a j A e) (k.mono λb _ d m=>i4)) λb d=>⟨qT d.1 k.1,?_⟩
   rw[gA d.1];exact d.2
theorem aa.step(H:aa B h0 h As)(i:Nat)(g:As[i]?=dB A)(j:∀q:av,A.p h q->(∀b,q b->b<h.size)->aN (λb=>¬q b) h h'/\D.p h' λb=>b<h'.size/\(q b∨h.size<=b)):aa B h0 h' (As.set i D):=by obtain⟨k,p,c,z,a⟩:=H;obtain⟨f,d⟩:=j _ (a i A g) λb e=>e.1;exact aa.AV k p z a f d
theorem aa.dX(H:aa B h0 h As)(i:Nat)(e:As[i]?=dB A)(f:∀q:av,A.p h q->D.p h q):aa B h0 h (As.set i D):=
 H.step i e λq d a=>⟨aN.refl _ _,D.mono (f q d) λb c=>⟨a b c,.inl c⟩⟩
theorem aa.merge(H:aa B h0 h As)(i j:Nat)(u:i≠j)(t:As[i]?=dB A)(o:As[j]?=dB A2)
  (r:∀l m:av,(∀b,l b->¬m b)->A.p h l->A2.p h m->D.p h λb=>l b∨m b):aa B h0 h ((As.set i D).set j emp):=by
 obtain⟨q,p,c,z,a⟩:=H;refine⟨q,p,λb=>if c b=j+1 then i+1 else c b,λb e=>?_,λk n d=>?_⟩
 ·have:=z b e;dsimp only;rw[g0 i4];exact this
 ·rw[qU]at d;split at d
  ·split at d
   ·cases d;trivial
   ·cases d
  ·rename_i s;rw[qU]at d;split at d
   ·rename_i g;subst g;split at d
    ·injection d with d
     subst d;refine D.mono (r _ _ (λb f v=>i4) (a i A t) (a j A2 o)) λb e=>?_;rcases e with f|f
     ·exact⟨f.1,by dsimp only;rw[g0 i4];exact f.2⟩
     ·exact⟨f.1,by dsimp only;rw[f9 f.2]⟩
    ·cases d
   ·rename_i g;refine n.mono (a k n d) λb e=>⟨e.1,?_⟩
    dsimp only;rw[g0 i4];exact e.2
theorem aa.pick(H:aa B h0 h As)(f:Nat->Nat)(l:∀i j,f i=f j->i=j)(n:∀(i:Nat) (A2:HP),Bs[i]?=dB A2->As[f i]?=dB A2):aa B h0 h Bs:=by
 obtain⟨m,p,c,z,a⟩:=H
 classical
 refine⟨m,p,λb=>if e:∃i,c b=f i+1 then e.choose+1 else 0,λb e=>?_,λi A2 g=>?_⟩
 ·have:=z b e;dsimp only;rw[dif_neg];rintro⟨i,g⟩;omega
 ·refine A2.mono (a _ _ (n i A2 g)) λb e=>⟨e.1,?_⟩
  have d:∃i,c b=f i+1:=⟨i,e.2⟩
  dsimp only;rw[dif_pos d];have o:=d.choose_spec;have k:=l d.choose i i4;rw[k]
theorem aa.take(H:aa B h0 h As)(n:Nat)(a:∀(i:Nat) (A2:HP),Bs[i]?=dB A2->As[n+i]?=dB A2):aa B h0 h Bs:=H.pick (λi=>n+i) (λ_ _ h=>i4) a
end
section
variable {B:av} {C:Ctx} {i e:Nat}
theorem aa.own(H:aa B h0 h As)(i:Nat)(a:As[i]?=dB (ae e s k f l)):Own h e s k f l:=(H.at i a).1
theorem aa.seq(H:aa B h0 h As)(i:Nat)(a:As[i]?=dB (ae e s k f l))(c:∀x,ii (f x)=k):Seq h (λb=>b<h.size) s k f l:=(H.at i a).1.seq c (H.at i a).2
theorem aa.rd(H:aa B h0 h As)(i:Nat)(a:As[i]?=dB (kP s k f l)):Seq h (λb=>b<h.size) s k f l:=H.at i a
theorem aa.box(H:aa B h0 h As)(i:Nat)(b:As[i]?=dB (ac a e cs)):bW h a e cs:=(H.at i b).1
theorem aa.mN(H:aa B h0 h As)(i:Nat)(q:As[i]?=dB (ae e s k f l)){β:Type}{n p:Nat}{g:β->aR}{m:List β}(o:aN (λb=>¬s.on b) h h')(r:Own h' n s p g m):aa B h0 h' (As.set i (ae n s p g m)):=
 H.step i q λ_ c d=>⟨o.mono λb _ a j=>a (c.2 b j),r,λb a=>⟨qT (d b (c.2 b a)) o.1,.inl (c.2 b a)⟩⟩
theorem aa.sH(H:aa B h0 h As)(i:Nat)(l:As[i]?=dB (ac a e cs)){c:aR}(j:aN (λb=>b≠a.block) h h')(m:bW h' a e c):aa B h0 h' (As.set i (ac a e c)):=
 H.step i l λq f d=>⟨j.mono λb _ k g=>k (by rw[g];exact f.2),m,⟨qT (d _ f.2) j.1,.inl f.2⟩⟩
theorem aa.freeze(H:aa B h0 h As)(i:Nat)(b:As[i]?=dB (ae e s k f l))(c:∀x,ii (f x)=k):aa B h0 h (As.set i (kP s k f l)):=H.dX i b λ_ a=>a.1.seq c a.2
theorem aa.set(r:C.Ok)(H:aa B h0 h As)(i:Nat)(g:As[i]?=dB (ae e s k f l))(m:∀x,ii (f x)=k)(o:C.T.get t=dB ti){x:Int}(n:Nat)(j:x=n)(q:n<ii l){c:eR}(y:α)(p:c.cells=(f y).toArray)(d:ti.size=k)
  (b:(f y).all (·.oneCell')=eH) {K:f8->Prop} (u:∀h',aa B h0 h' (As.set i (ae e s k f (l.set n y)))->K h'):
  ∃a:eX,(s.ptr=dB a/\0<=x/\x<((s.len:Nat):Int))/\au C.P (qE t (.pointer (dB (a.add (x.toNat*k)))) c) h λ_ h'=>K h':=
 (H.own i g).set r m o n j q y p d b λh' z w _=>u h' (H.mN i g w z)
theorem aa.push(I:C.Ok)(H:aa B h0 h As)(i:Nat)(M:As[i]?=dB (ae e s k f l))(F:bI C.toAi t e k z by_)(E:ii z=k)(q:0<by_/\by_<=128)(y:∀x,ii (f x)=k)
  (n:∀x,∀c∈f x,c.oneCell'=eH) (x:α) {parts:Array (Nat×eR)} (d:wC (λi=>dB (i*k,k)) (iI z 1).toArray parts.toList=dB ([x].flatMap f).toArray)
  (u:1*k<=2^20) (r:ii l+1<=2^32) {ty:Nat} {K:Sl->f8->Prop}
  (Q:∀o h',aa B h0 h' (As.set i (ae e o k f (l++[x])))->K o h'):
  bz C.P (zL t 1 parts) (.one (.sc .slc)) h λv L=>bz C.P (zD #[t,t] ty #[.slice s.ptr s.len s.cap,.slice v.ptr v.len v.cap]) (.one (.sc .slc)) L K:=by
 obtain⟨G,O,c,J,a⟩:=H;have w:=a i _ M;have A:dF h c (i+1) e s k f l:=⟨w.1,λb j=>(w.2 b j).2⟩
 refine A.push I F E q y n x d u r λo h' g p=>Q o h' ?_;refine aa.AV G O J a (p.mono λb j D N=>D ⟨j,N⟩) ⟨g.own,λb j=>⟨g.own.lt j,?_⟩⟩;have:=g.bw b j;by_cases m:b<h.size
 ·rw[gA m]at this;exact .inl ⟨m,this⟩
 ·exact .inr i4
theorem aa.append(J:C.Ok)(H:aa B h0 h As)(i:Nat)(M:As[i]?=dB (ae e s k f l))(G:bI C.toAi t e k z by_)(y:∃i e2,C.T.get t2=dB i/\i.cz=.slice e2)(F:ii z=k)(q:0<by_/\by_<=128)(w:∀x,ii (f x)=k)
  (A:Seq h p v k f l2) (m:∀x,∀c∈f x,c.oneCell'=eH) (r:ii l+ii l2<=2^32) {ty:Nat} {K:Sl->f8->Prop}
  (Q:∀n h',aa B h0 h' (As.set i (ae e n k f (l++l2)))->K n h'):
  bz C.P (zD #[t,t2] ty #[.slice s.ptr s.len s.cap,.slice v.ptr v.len v.cap]) (.one (.sc .slc)) h K:=by
 obtain⟨I,O,c,L,a⟩:=H;have u:=a i _ M;have D:dF h c (i+1) e s k f l:=⟨u.1,λb g=>(u.2 b g).2⟩
 refine D.append J G y F q w A m r λn h' d o=>Q n h' ?_;refine aa.AV I O L a (o.mono λb g E N=>E ⟨g,N⟩) ⟨d.own,λb g=>⟨d.own.lt g,?_⟩⟩;have:=d.bw b g;by_cases j:b<h.size
 ·rw[gA j]at this;exact .inl ⟨j,this⟩
 ·exact .inr i4
theorem Ja{h h':f8}{n:Nat}(i:n=h.size)(d:Own h' e s k f l)(g:s.ptr=dB ⟨n,0,ez⟩)(c:aN (λ_=>True) h h'):Sp h h' [ae e s k f l]:=
 .one (any c) ⟨d,λb a=>⟨by obtain⟨o,a⟩:=a;rw[g]at a;cases a;omega,d.lt a⟩⟩
theorem aa.make(r:C.Ok)(H:aa B h0 h As)(f:α->aR)(q:bI C.toAi t e k z by_)(c:0<by_/\by_<=128)(j:α)(o:f j=z)(d:ii z=k){A v:IntKind}{n l:Int}(m b:Nat)(p:n=m)(u:l=b)(g:m<=b)(i:b<=2^32)
  {K:Sl->f8->Prop} (D:∀a h',a.len=m->a.cap=b->aa B h0 h' (As++[ae e a k f (qi m j)])->K a h'):
  bz C.P (zw t (.int A n) (.int v l)) (.one (.sc .slc)) h K:=
 run_make r q c j o d m b p u g i λa h' x y w s _=>D a h' (by rw[x.len];simp) w (H.comp (Ja i0 x y s))
theorem aa.lit(m:C.Ok)(H:aa B h0 h As)(f:α->aR)(j:bI C.toAi t e k z by_)(c:ii z=k){n:Nat}{parts:Array (Nat×eR)}(l:List α)(g:ii l=n)(d:n*k<=2^20)
  (a:wC (λi=>dB (i*k,k)) (iI z n).toArray parts.toList=dB (l.flatMap f).toArray) {K:Sl->f8->Prop}
  (p:∀b h',aa B h0 h' (As++[ae e b k f l])->K b h'):
  bz C.P (zL t n parts) (.one (.sc .slc)) h K:=
 IZ m j c l g d a λb h' x y o _=>p b h' (H.comp (Ja i0 x y o))
theorem Jb{h h':f8}(d:a.block=h.size)(c:bW h' a e cs)(b:aN (λ_=>True) h h'):Sp h h' [ac a e cs]:=
 .one (any b) ⟨c,i4,c.lt⟩
theorem aa.alloc(e:C.Ok)(H:aa B h0 h As)(c:C.T.get t=dB ti){K:eX->f8->Prop}(d:∀a h',aa B h0 h' (As++[ac a t ti.zero])->K a h'):
  ow C.P (yJ t eH (.tuple #[])) h K:=
 ut e c λa h' x y b _=>d a h' (H.comp (Jb x y b))
theorem aa.boxed(H:aa B h0 h As){P:Program}{v:eR}{K:eX->f8->Prop}(c:∀a h',aa B h0 h' (As++[ac a t v.cells.toList])->K a h'):
  ow P (vQ t v) h K:=
 Rw λa h' x y b _=>c a h' (H.comp (Jb x y b))
theorem aa.store(l:C.Ok)(H:aa B h0 h As)(i:Nat)(f:As[i]?=dB (ac a e cs))(j:C.T.get t=dB ti)(off:Nat){v:eR}(vs:aR)(g:v.cells=vs.toArray)(d:ti.size=ii vs)
  (b:vs.all (·.oneCell')=eH) (c:off+ii vs<=ii cs) {K:Unit->f8->Prop}
  (k:∀h',aa B h0 h' (As.set i (ac a e (cs.take off++vs++cs.drop (off+ii vs))))->K () h'):
  au C.P (qE t (.pointer (dB (a.add off))) v) h K:=
 run_store l (H.box i f) j off vs g d b c λh' x y _=>k h' (H.sH i f y x)
theorem aa.ja(l:C.Ok)(H:aa B h0 h As)(i:Nat)(f:As[i]?=dB (ac a e cs))(j:C.T.get t=dB ti){v:eR}(vs:aR)(g:v.cells=vs.toArray)(c:ti.size=ii vs)
  (b:vs.all (·.oneCell')=eH) (d:ii vs<=ii cs) {K:Unit->f8->Prop}
  (k:∀h',aa B h0 h' (As.set i (ac a e (vs++cs.drop vs.length)))->K () h'):
  au C.P (qE t (.pointer (dB a)) v) h K:=
 H.store l i f j 0 vs g c b i4 (λh' x=>k h' pa)
theorem aa.nil(H:aa B h0 h As)(e k:Nat)(f:α->aR):aa B h0 h (As++[ae e ⟨ez,0,0⟩ k f []]):=
 H.comp (.one (aN.refl _ _) ⟨Own.nil h e k f,λb a=>by obtain⟨o,a⟩:=a;cases a⟩)
theorem aa.GZ(H:aa B h0 h As)(e k:Nat)(f:α->aR):aa B h0 h (As++[fH e ⟨ez,0,0⟩ k f []]):=
 H.comp (.one (aN.refl _ _) ⟨[],λ_=>False,Own.nil h e 1 aX,λb a=>(by obtain⟨o,a⟩:=a;cases a),λ_ a=>a.elim,rfl,λi r l h=>mq⟩)
theorem aa.sI(hC:C.Ok)(H:aa B h0 h As)(i j:Nat)(E:i≠j){L:List (List α)}{r:Sl}{x:List α}(U:As[i]?=dB (fH e s k f L))(hj:As[j]?=dB (kP r k f x))(he:bI C.toAi t e 1 [.slice ez 0 0] 24)
  (ab:ii L+1<=2^32) {ty:Nat} {K:Sl->f8->Prop} (hk:∀O h',aa B h0 h' ((As.set j emp).set i (fH e O k f (L++[x])))->K O h'):
  bz C.P (zL t 1 #[(0,.slice r.ptr r.len r.cap)]) (.one (.sc .slc)) h λv w=>bz C.P (zD #[t,t] ty #[.slice s.ptr s.len s.cap,.slice v.ptr v.len v.cap]) (.one (.sc .slc)) w K:=by
 have W:=H.merge i j E U hj (D:=⟨λh q=>∃(rs:List Sl) (g:av),Own h e s 1 aX rs/\(∀b,s.on b->q b/\¬g b)/\(∀b,g b->q b)/\rs.length=ii L/\(∀(i:Nat) r l,rs[i]?=dB r->L[i]?=dB l->Seq h g r k f l)/\Seq h g r k f x,
  λ⟨rs,g,a,b,c,d,e,f⟩ hp=>⟨rs,g,a.af hp λx n=>(b x n).1,b,c,d,λi r l w y=>(e i r l w y).af (hp.mono λx _ n=>c x n),f.af (hp.mono λx _ n=>c x n)⟩,
  λ⟨rs,g,a,b,c,d,e,f⟩ hq=>⟨rs,g,a,λx n=>⟨hq x (b x n).1,(b x n).2⟩,λx n=>hq x (c x n),d,e,f⟩⟩)
  (λg q2 hd hA hB=>by
   obtain⟨rs,q3,a,b,c,d,V⟩:=hA;refine⟨rs,λb=>q3 b∨q2 b,a,λx n=>⟨.inl (b x n).1,λM=>M.elim (b x n).2 (hd x (b x n).1)⟩,λx n=>n.elim (λh=>.inl (c x h)) .inr,d,λi r l w y=>(V i r l w y).mono λ_ h=>.inl h,Seq.mono hB λ_ h=>.inr h⟩)
 have p:i<ii As:=(qj.1 U).1;obtain⟨lo,pp,c,zz,a⟩:=W;have X:=a i _ (by rw[zy (Ne.symm E),zg p]);obtain⟨rs,g,a1,Z,a3,a4,a5,a6⟩:=X;let T:Nat->Nat:=λb=> @ite _ (g b) (Classical.propDecidable _) (ii As+2) (c b);have G:∀b,g b->b<h.size/\c b=i+1:=a3;have ho:dF h T (i+1) e s 1 aX rs:=⟨a1,λb m=>by
  have:=Z b m;show @ite _ (g b) (Classical.propDecidable _) _ _=_;rw[g0 this.2];exact this.1.2⟩
 refine ho.push hC he i0 i5 (λ_=>rfl) jb r i0 i5 i4 λO h' A F=>hk O h' ?_;rw[vH _ _ (Ne.symm E)];rw[<-ye (l:=As) (i:=i),vH _ _ E];have N:∀b,g b->T b≠i+1:=λb m=>by
  show @ite _ (g b) (Classical.propDecidable _) _ _≠_;rw[f9 m];omega
 refine aa.AV lo pp zz a (F.mono λb m hn hc=>hn ⟨m,?_⟩) ⟨rs++[r],λb=>g b/\b<h.size,A.own,λb m=>?_,λb m=>⟨qT m.2 F.1,.inl ⟨m.2,(G b m.1).2⟩⟩,by simp[a4],λQ r' Y w y=>?_⟩
 ·by_cases z:g b
  ·exact(G b z).2
  ·have o:@ite _ (g b) (Classical.propDecidable _) (ii As+2) (c b)=i+1:=hc;rw[g0 z]at o;exact o
 ·have u:=A.bw b m;by_cases p:b<h.size
  ·rw[gA p]at u;have J:¬g b:=λz=>N b z u;have o:@ite _ (g b) (Classical.propDecidable _) (ii As+2) (c b)=i+1:=u;rw[g0 J]at o;exact⟨⟨A.own.lt m,.inl ⟨p,o⟩⟩,λM=>J M.1⟩
  ·exact⟨⟨A.own.lt m,.inr i4⟩,λM=>p M.2⟩
 ·have I:∀{S:Sl} {l:List α},Seq h g S k f l->Seq h' (λb=>g b/\b<h.size) S k f l:=λhs=>
   (hs.mono (q:=λb=>g b/\b<h.size) λb m=>⟨m,(G b m).1⟩).af (F.mono λb _ m=>N b m.1)
  by_cases R:Q<ii rs
  ·rw[ql R]at w;rw[ql i4]at y;exact I (a5 Q r' Y w y)
  ·have:Q=ii rs:=by have:=(qj.1 w).1;simp at this;omega
   subst this;simp at w;rw[a4]at y;simp at y;subst w;subst y;exact I a6
theorem aa.rows(H:aa B h0 h As)(i:Nat){g:List (List α)}(n:As[i]?=dB (fH e s k f g)):∃rs,fq h (λb=>b<h.size) s k f g rs:=by obtain⟨rs,p,a,b,c,d,e⟩:=H.at i n;exact⟨rs,a.seq (λ_=>rfl) λx o=>(b x o).1,d,λi r l m j=>(e i r l m j).mono c⟩
end
theorem YU(vs:aR):∀(pre old post:aR),ii old=ii vs->((vs.zipIdx 0).foldl (λ(cs:Array eR) (p:eR×Nat)=>cs.setIfInBounds (ii pre+p.2) p.1) (pre++old++post).toArray)=(pre++vs++post).toArray:=by
 have b:∀(vs pre old post:aR) (k:Nat),ii old=ii vs->ii pre=ii pre->∀n,n+k=ii pre->((vs.zipIdx k).foldl (λ(cs:Array eR) (p:eR×Nat)=>cs.setIfInBounds (n+p.2) p.1) (pre++old++post).toArray)=(pre++vs++post).toArray:=by
  intro vs
  induction vs with
  |nil=>intro pre old post k a _ n _;rw[qX a];rfl
  |cons v vs ih=>
   intro pre old post k a _ n c;cases old with
   |nil=>simp at a
   |cons u old=>
    rw[List.zipIdx_cons,zx];have e:(pre++(u::old)++post).toArray.setIfInBounds (n+k) v=((pre++[v])++old++post).toArray:=by rw[c];apply yD;simp
    dsimp only;rw[e,ih (pre++[v]) old post (k+1) kt i0 n i7];simp
 intro pre old post h;exact b vs pre old post 0 h i0 pre.length i4
theorem Mx{a:Nat->Option (Nat×Nat)}{i:Nat}{v:eR}{vs pre old post:aR}{rest:List (Nat×eR)}(b:v.cells=vs.toArray)(c:a i=dB (ii pre,ii vs))(d:ii old=ii vs):
  wC a (pre++old++post).toArray ((i,v)::rest)=wC a (pre++vs++post).toArray rest:=by
 conv=>lhs;unfold wC
 simp only[c,b];rw[g0 i7];congr 1;have:=YU vs pre old post d;simpa using this
section
variable {C:Ctx}
theorem CE(e:C.Ok)(l:C.T.get t=dB i){k:List (Nat×TypeId)}(j:i.cz=.struct k){ps:List (Nat×Nat)}(d:placesOf C.T k=dB ps){vs:List (Nat×eR)}{cells:Array eR}
  (a:wC (λn=>ps[n]?) i.zero.toArray vs=dB cells):aH C.P (Instr.build t vs.toArray) (.agg cells):=by
 obtain⟨z,p,h⟩:=pM e.toOk l;have b:i.zero.toArray=z.cells:=by rw[<-h]
 have m:=e.cz l;rw[j]at m;obtain⟨o,q,rfl⟩:=ou m;refine p.bind ((aG q).bind ?_);have g:aH C.P (o.mapM λf=>(do pure (f.offset,<-sizeOf f.type):Sem (Nat×Nat))) ps.toArray:=by rw[Array.mapM_eq_mapM_toList];intro w;have:=sQ e.toOk d w;rw[map_eq_pure_bind,Sem.run_bind,this];rfl
 refine g.bind ?_;have c:wC (λn=>ps.toArray[n]?) z.cells vs.toArray.toList=dB cells:=by rw[<-b];simpa using a
 rw[c];exact .pure
end
theorem take_set{α:Type}(l:List α)(n:Nat)(x:α)(h:n<ii l):l.take n++[x]++l.drop (n+1)=l.set n x:=by rw[wA,f9 h];simp
section
variable {B:av} {C:Ctx} {e:Nat}
theorem aa.storeAt(l:C.Ok)(H:aa B h0 h As)(i:Nat)(f:As[i]?=dB (ac a e cs))(j:C.T.get t=dB ti){off:Nat}{v:eR}(g:v.cells=#[v])(d:ti.size=1)
  (b:v.oneCell'=eH) (c:off<ii cs) {K:Unit->f8->Prop}
  (k:∀h',aa B h0 h' (As.set i (ac a e (cs.set off v)))->K () h'):
  au C.P (qE t (.pointer (dB (a.add off))) v) h K:=
 H.store l i f j off [v] g d m4 i7 λh' x=>k h' (by rw[<-take_set _ _ _ c];simpa using x)
theorem aa.storeAll(l:C.Ok)(H:aa B h0 h As)(i:Nat)(f:As[i]?=dB (ac a e cs))(j:C.T.get t=dB ti){v:eR}(vs:aR)(g:v.cells=vs.toArray)(c:ti.size=ii vs)
  (b:vs.all (·.oneCell')=eH) (d:ii vs=ii cs) {K:Unit->f8->Prop}
  (k:∀h',aa B h0 h' (As.set i (ac a e vs))->K () h'):
  au C.P (qE t (.pointer (dB a)) v) h K:=
 H.ja l i f j vs g c b i4 λh' x=>k h' (by rw[zd i4,qF]at x;exact x)
end
theorem rY(n:Nat)(a:n<=9223372036854775807:=by omega):qe xM (n:Int)=n:=ai _
abbrev Rd{α:Type}(h:f8)(s:Sl)(k:Nat)(f:α->aR)(l:List α):Prop:=Seq h (λb=>b<h.size) s k f l
abbrev dY{α:Type}(h:f8)(s:Sl)(k:Nat)(f:α->aR)(a:List (List α)):Prop:=∃rs,fq h (λb=>b<h.size) s k f a rs
section
variable {B:av} {e:Nat}
theorem dY.up(a:dY h s k f ll)(c:aN (λb=>b<h.size) h h'):dY h' s k f ll:=by obtain⟨rs,a⟩:=a;exact⟨rs,fq.up a c⟩
theorem dY.len(a:dY h s k f ll):s.len=ii ll:=by obtain⟨rs,a⟩:=a;exact a.FJ
theorem dY.get(b:dY h s k f ll){i:Int}(n:Nat)(d:i=n)(c:n<ii ll){K:Sl->Prop}(e:∀r,Rd h r k f ll[n]->K r):
  ∃a:eX,(s.ptr=dB a/\0<=i/\i<((s.len:Nat):Int))/\∃x:Sl,f7 h (a.add (i.toNat*1))=dB (.slice x.ptr x.len x.cap)/\K x:=by
 obtain⟨rs,b⟩:=b;exact b.get n d c λr g _=>e r g
theorem Seq.isSome{p:av}(d:Seq h p s k f l)(c:l≠[]):s.ptr.isNone=eL:=by
 cases l with
 |nil=>exact absurd i0 c
 |cons x t=>obtain⟨b,o,a,_⟩:=d.elem 0 x i9;rw[a];rfl
theorem Seq.isNil{p:av}(b:Seq h p s k f l)(a:s.ptr.isNone=eH):l=[]:=by
 cases l with
 |nil=>rfl
 |cons x t=>rw[b.isSome i9]at a;cases a
theorem aa.CF(H:aa B h0 h As)(i:Nat)(a:As[i]?=dB (fH e s k f ll)):dY h s k f ll:=H.rows i a
end
section
variable {B:av} {Bs:List HP} {A:HP}
theorem aa.del(H:aa B h0 h As)(i:Nat):aa B h0 h (As.eraseIdx i):=
 H.pick (λj=>if j<i then j else j+1) (λa b d=>by split at d<;>split at d<;>omega) λj A e=>by
  rw[List.getElem?_eraseIdx]at e;split at e
  ·rename_i c;rw[f9 c];exact e
  ·rename_i c;rw[g0 c];exact e
theorem aa.call(H:aa B h0 h As)(i:Nat)(G:As[i]?=dB A)(q:av)(J:∀q':av,A.p h q'->∀b,q b->q' b)(R:aa (λb=>b<h.size/\¬q b) h h' (D::Bs)):aa B h0 h' (As.set i D++Bs):=by
 classical
 obtain⟨y,F,g,E,w⟩:=H;obtain⟨_,s,j,K,v⟩:=R;have t:=F.1;have z:=(qj.1 G).1;have o:∀b,q b->b<h.size/\g b=i+1:=J _ (w i A G);have u:∀b,B b->b<h.size/\¬q b:=λb a=>⟨qT (y b a) t,λn=>by have:=E b a;have:=o b n;omega⟩
 let c:Nat->Nat:=λb=>if b<h.size/\¬q b then(if g b=i+1 then 0 else g b)else if j b=0 then 0 else if j b=1 then i+1 else As.length+j b-1
 have e:∀b,b<h.size/\¬q b->g b≠i+1->c b=g b:=λb a L=>by show ite _ _ _=_;rw[f9 a,g0 L]
 have f:∀b,j b≠0->c b=if j b=1 then i+1 else As.length+j b-1:=λb a=>by
  have:¬(b<h.size/\¬q b):=λn=>a (K b n);show ite _ _ _=_;rw[g0 this,g0 a]
 refine⟨y,F.then s λb _ a=>u b a,c,λb a=>?_,λk l d=>?_⟩
 ·have:=E b a;rw[e b (u b a) i4];exact this
 ·by_cases x:k<ii As
  ·rw[ql pa,qU]at d;split at d
   ·rename_i m;subst m;injection d with d
    subst d;refine D.mono (v 0 D i0) λb a=>⟨a.1,?_⟩
    rw[f b i4,f9 a.2]
   ·rename_i m;have r:∀b,b<h.size/\g b=k+1->b<h.size/\¬q b:=λb a=>⟨a.1,λn=>by have:=o b n;omega⟩
    refine l.mono (l.loc (w k l d) (s.mono λb _ a=>r b a)) λb a=>⟨qT a.1 s.1,?_⟩
    rw[e b (r b a) i4];exact a.2
  ·rw[qh pa]at d;rw[zc]at d;have I:=v (k-ii As+1) l p0;refine l.mono I λb a=>⟨a.1,?_⟩
   rw[f b i4,g0 i4];omega
end
section
variable {B:av} {Bs:List HP} {A:HP} {e:Nat}
theorem aa.off(H:aa B h0 h As)(i j:Nat)(n:i≠j)(o:As[i]?=dB (ae e s k f l))(m:As[j]?=dB A):A.p h (λb=>b<h.size/\¬s.on b):=by
 obtain⟨_,_,c,_,a⟩:=H;refine A.mono (a j A m) λb g=>⟨g.1,λd=>?_⟩
 have:=(a i _ o).2 b d;omega
theorem aa.base(H:aa B h0 h As)(i:Nat)(j:As[i]?=dB (ae e s k f l)){b:Nat}(g:B b):¬s.on b:=λd=>by
 obtain⟨_,_,c,z,a⟩:=H;have:=(a i _ j).2 b d;have:=z b g;omega
theorem aa.aef(H:aa B h0 h (As++[D]))(i:Nat)(k:i<ii As):aa B h0 h (As.set i D):=
 H.pick (λj=>if j<ii As then(if j=i then As.length else j)else j+1) (λa b c=>by split at c<;>split at c<;>(try split at c)<;>(try split at c)<;>omega) λj A e=>by
  have f:j<ii As:=by have:=(qj.1 e).1;simpa using this
  rw[f9 f];rw[qU]at e;split at e
  ·rename_i d;subst d;rw[f9 i0,qh (qm _),qW];exact e
  ·rename_i d;rw[g0 λg=>d g.symm,ql f];exact e
theorem aa.abm(H:aa B h0 h As)(i j:Nat){A2:HP}(n:As[i]?=dB A)(m:As[j]?=dB A2):aa B h0 h ((As.set i A2).set j A):=by
 have g:=(qj.1 n).1;have l:=(qj.1 m).1;refine H.pick (λx=>if x=j then i else if x=i then j else x) (λa b c=>by split at c<;>split at c<;>(try split at c)<;>(try split at c)<;>omega) λx o d=>?_;rw[qU,qU]at d;by_cases f:j=x
 ·subst f;simp[l]at d;subst d;simpa using n
 ·by_cases k:i=x
  ·subst k;simp[f,g]at d;subst d;rw[g0 λe=>f e.symm,f9 rfl];exact m
  ·simp[f,k]at d;rw[g0 λe=>f e.symm,g0 λe=>k e.symm];exact d
end
def bn{α:Type}(e k:Nat)(f:α->aR)(rs:List Sl)(a:List (List α)):List HP:=ze (λr l=>ae e r k f l) rs a
section
variable {e:Nat}
theorem ky(h:ii rs=ii ll):ii (bn e k f rs ll)=ii ll:=by simp[bn,h]
theorem fk(h:ii rs=ii ll)(i:Nat)(b:i<ii ll):(bn e k f rs ll)[i]?=dB (ae e (rs[i]'(by omega)) k f ll[i]):=by
 have a:i<ii rs:=i4
 simp[bn,zF,qc b,qc a]
theorem sW(h:ii rs=ii ll)(r:Sl)(l:List α):bn e k f (rs++[r]) (ll++[l])=bn e k f rs ll++[ae e r k f l]:=by unfold bn;rw[yF h];rfl
theorem kz(h:ii rs=ii ll)(i:Nat)(r:Sl)(l:List α):(bn e k f rs ll).set i (ae e r k f l)=bn e k f (rs.set i r) (ll.set i l):=by
 apply zt;intro j;simp only[bn,qU,zF,List.length_zipWith];by_cases a:i=j
 ·subst a;by_cases b:i<ii ll
  ·have:i<ii rs:=i4
   simp[b,this];omega
  ·have:¬i<ii rs:=i4
   simp[b];omega
 ·simp[a]
theorem My(h:ii rs=ii ll)(i:Nat)(a:i<ii ll)(l:List α):(bn e k f rs ll).set i (ae e (rs[i]'(by omega)) k f l)=bn e k f rs (ll.set i l):=by rw[kz h,List.set_getElem_self]
theorem aa.Vq{B:av}{m h:f8}{s:Sl}{b:Nat}(H:aa B m h (ae b s 1 aX rs::bn e k f rs ll))(c:ii rs=ii ll)(j:∀x,ii (f x)=k):dY h s k f ll:=by
 refine⟨rs,H.seq 0 i0 λ_=>rfl,c,λi r l d a=>?_⟩;have g:i<ii ll:=(qj.1 a).1;have n:=fk (e:=e) (k:=k) (f:=f) c i g;have h3:=H.seq (i+1) rb j;have b:rs[i]'(by omega)=r:=by rw[qc i4]at d;simpa using d
 have e2:ll[i]=l:=by rw[qc g]at a;simpa using a
 rw[b,e2]at h3;exact h3
end
theorem Seq.mb{X:Type}{g:X->eR}(e:Seq h p s 1 f l){i:Int}(n:Nat)(q:i=n)(k:n<ii l)(x:X)(j:f l[n]=[g x]){K:eX->X->Prop}(r:∀a:eX,f7 h (a.add (i.toNat*1))=dB (g x)->K a x):
  ∃a:eX,(s.ptr=dB a/\0<=i/\i<((s.len:Nat):Int))/\∃x:X,f7 h (a.add (i.toNat*1))=dB (g x)/\K a x:=by
 subst q;obtain⟨b,o,m,_,h3⟩:=e.elem n l[n] (qc k);rw[j]at h3;have c:=h3.1;rw[add_eq,wT]at c;have d:f7 h ((⟨b,o,ez⟩:eX).add ((n:Int).toNat*1))=dB (g x):=by rw[add_eq];simpa using c
 exact⟨_,⟨m,i4,by rw[e.len];omega⟩,x,d,r _ d⟩
theorem Seq.ng{h:f8}{p:av}{s:Sl}{rs:List Sl}(e:Seq h p s 1 aX rs){i:Int}(n:Nat)(k:i=n)(g:n<ii rs){K:eX->Sl->Prop}
  (l:∀a:eX,f7 h (a.add (i.toNat*1))=dB (.slice rs[n].ptr rs[n].len rs[n].cap)->p (a.add (i.toNat*1)).block->K a rs[n]):
  ∃a:eX,(s.ptr=dB a/\0<=i/\i<((s.len:Nat):Int))/\∃x:Sl,f7 h (a.add (i.toNat*1))=dB (.slice x.ptr x.len x.cap)/\K a x:=by
 subst k;obtain⟨b,o,j,f,h3⟩:=e.elem n rs[n] (qc g);have c:=h3.1;rw[add_eq,wT]at c;have d:f7 h ((⟨b,o,ez⟩:eX).add ((n:Int).toNat*1))=dB (.slice rs[n].ptr rs[n].len rs[n].cap):=by rw[add_eq];simpa using c
 exact⟨_,⟨j,i4,by rw[e.len];omega⟩,rs[n],d,l _ d (by rw[add_eq];exact f)⟩
section
variable {B:av} {e:Nat}
theorem Own.cut(a:Own h e s k f l)(c:∀x,ii (f x)=k)(j:Nat)(d:j<=ii l):Own h e ⟨s.ptr,j,s.cap⟩ k f (l.take j):=by
 have g:=a.len;refine⟨i7,?_⟩;rcases a.head with⟨h1,h2,h3⟩|⟨b,rest,h1,h2,h3,h4⟩
 ·subst h3;exact .inl ⟨h1,h2,i9⟩
 ·refine .inr ⟨b,(l.drop j).flatMap f++rest,h1,?_,?_,i6⟩
  ·rw[<-qn,<-qZ,qA];exact h2
  ·rw[qt,di c,za,h3,<-Nat.add_mul];dsimp only;congr 1;omega
theorem aa.cut(H:aa B h0 h As)(i:Nat)(c:As[i]?=dB (ae e s k f l))(d:∀x,ii (f x)=k)(j:Nat)(b:j<=ii l):aa B h0 h (As.set i (ae e ⟨s.ptr,j,s.cap⟩ k f (l.take j))):=
 H.dX i c λ_ a=>⟨a.1.cut d j b,a.2⟩
end
section
variable {B:av} {C:Ctx} {e:Nat}
end
section
variable {C:Ctx} {ty e:Nat} {B:av}
theorem Own.Ha(F:C.Ok)(E:bI C.toAi t e k z by_)(j:∀x,ii (f x)=k)(r:Own h e s k f l)(D:Seq h p v k f l2)(g:∀x,∀c∈f x,c.oneCell'=eH){K:Int->f8->Prop}
  (B:∀n h',Own h' e s k f (l2.take l.length++l.drop l2.length)->aN (λb=>¬s.on b) h h'->K n h'):
  bz C.P (yc #[t,t2] ty #[.slice s.ptr s.len s.cap,.slice v.ptr v.len v.cap]) (.one (.sc (.int .i64))) h K:=by
 unfold bz yc;simp only[zP,w8,qo];refine au.bind (au.always (aG (E.under F)) ?_);refine au.bind (au.pure' ?_);refine au.bind (au.always (E.size F) ?_);have a:=r.len;have d:=D.len;obtain⟨m,i⟩:∃m,m=Nat.min v.len s.len:=⟨_,rfl⟩
 rw[<-i];have y:m<=ii l2:=by rw[i,<-d];exact Nat.min_le_left _ _
 have u:m<=ii l:=by rw[i,<-a];exact xh _ _
 have G:m=min l2.length l.length:=by rw[i,a,d]
 have A:=D.take m y;have H:l2.take l.length++l.drop l2.length=l2.take m++l.drop m:=by
  rcases Nat.le_total l2.length l.length with hh|hh
  ·rw[qg hh,show m=ii l2 by omega,qN]
  ·rw[show m=ii l by omega,zd hh,List.drop_length]
 rw[H]at B;have q:wK k m (.slice v.ptr v.len v.cap)=wK k m (.slice v.ptr m v.cap):=by cases v.ptr<;>rfl
 rw[q];refine au.bind (fM (v:=⟨v.ptr,m,v.cap⟩) j A ?_);rcases r.head with⟨h1,h2,h3⟩|⟨b,rest,h1,h2,h3,h4⟩
 ·rw[h1];subst h3;have:m=0:=by simpa using u
  subst this;refine au.pure' ⟨_,i0,B _ h ?_ (aN.refl _ _)⟩;simpa using r
 ·rw[h1];refine au.bind ?_;have o:l.flatMap f++rest=(l.take m).flatMap f++((l.drop m).flatMap f++rest):=by rw[<-qn,<-qZ,qA]
  rw[o]at h2;refine ey (e:=e) (pre:=[]) (old:=(l.take m).flatMap f) (post:=(l.drop m).flatMap f++rest) (by simpa using h2) (by rw[di j,di j,qO,qO];congr 1;omega) i0 ?_ ?_
  ·intro c J;obtain⟨x,_,w⟩:=zM.1 J;exact g x c w
  ·refine au.pure' ⟨_,i0,B _ _ ⟨by rw[a,qt,qO,za];omega,.inr ⟨b,rest,h1,?_,h3,h4⟩⟩ (aN.iW h2 λI=>I ⟨0,h1⟩)⟩;rw[gV h2,f9 i0,qZ];simp
theorem aa.Ha(o:C.Ok)(H:aa B h0 h As)(i:Nat)(b:As[i]?=dB (ae e s k f l))(d:bI C.toAi t e k z by_)(j:∀x,ii (f x)=k)(g:Seq h p v k f l2)(a:∀x,∀c∈f x,c.oneCell'=eH){K:Int->f8->Prop}
  (m:∀n h',aa B h0 h' (As.set i (ae e s k f (l2.take l.length++l.drop l2.length)))->K n h'):
  bz C.P (yc #[t,t2] ty #[.slice s.ptr s.len s.cap,.slice v.ptr v.len v.cap]) (.one (.sc (.int .i64))) h K:=
 (H.own i b).Ha o d j g a λn h' x y=>m n h' (H.mN i b y x)
end
def Jc(d:Sl)(w i:Nat):Sl:=⟨if d.cap=i*w then d.ptr else d.ptr.map (·.add (i*w*1)),(i+1)*w-i*w,d.cap-i*w⟩
def Vr{α:Type}(l:List α)(w i:Nat):List α:=(l.drop (i*w)).take w
theorem Seq.piece{α:Type}{h:f8}{p:av}{s:Sl}{f:α->aR}{l:List α}(d:Seq h p s 1 f l)(c:s.len<=s.cap)(w i:Nat)(g:(i+1)*w<=ii l):Seq h p (Jc s w i) 1 f (Vr l w i):=by
 have b:=d.drop (i*w) c;have e:(i+1)*w=i*w+w:=wc i w;have a:=b.take w mn;have e2:(i+1)*w-i*w=w:=i4
 unfold Jc Vr;rw[e2];exact a
theorem acs{α:Type}{l:List α}{w i:Nat}(a:(i+1)*w<=ii l):ii (Vr l w i)=w:=by have e:(i+1)*w=i*w+w:=wc i w;simp only[Vr,qO,za];omega
def HP.sep(A D:HP):HP:=
 ⟨λh q=>∃g i:av,(∀b,g b->¬i b)/\(∀b,g b->q b)/\(∀b,i b->q b)/\A.p h g/\D.p h i,
  λ⟨g,i,a,b,c,d,e⟩ hp=>⟨g,i,a,b,c,A.loc d (hp.mono λx _ f=>b x f),D.loc e (hp.mono λx _ f=>c x f)⟩,
  λ⟨g,i,a,b,c,d,e⟩ hq=>⟨g,i,a,λx f=>hq x (b x f),λx f=>hq x (c x f),d,e⟩⟩
def HP.ex{ι:Type}(F:ι->HP):HP:=⟨λh q=>∃i,(F i).p h q,λ⟨i,a⟩ hp=>⟨i,(F i).loc a hp⟩,λ⟨i,a⟩ hq=>⟨i,(F i).mono a hq⟩⟩
def HP.and(A:HP)(P:Prop):HP:=⟨λh q=>A.p h q/\P,λa c=>⟨A.loc a.1 c,a.2⟩,λa b=>⟨A.mono a.1 b,a.2⟩⟩
variable {E:HP}
section
variable {B:av} {Bs:List HP} {A:HP} {i:Nat}
theorem aa.split(H:aa B h0 h As)(i:Nat)(n:As[i]?=dB (A.sep D)):aa B h0 h (As.set i A++[D]):=by
 classical
 obtain⟨q,p,c,z,a⟩:=H;obtain⟨w,t,s,m,s2,v,u⟩:=a i _ n;have o:=(qj.1 n).1;refine⟨q,p,λb=>if t b then As.length+1 else c b,λb e=>?_,λj X d=>?_⟩
 ·have r:=z b e;dsimp only;rw[g0];exact r;intro g;have:=(s2 b g).2;omega
 ·by_cases k:j<ii As
  ·rw[ql sz,qU]at d;split at d
   ·rename_i f;subst f
    first|rw[f9 k]at d|skip
    injection d with d
    subst d;refine A.mono v λb e=>⟨(m b e).1,?_⟩
    dsimp only;rw[g0 (s b e)];exact(m b e).2
   ·rename_i f;refine X.mono (a j X d) λb e=>⟨e.1,?_⟩
    dsimp only;rw[g0];exact e.2;intro g;have:=(s2 b g).2;omega
  ·rw[qh sz]at d;rw[zc]at d;have l:j=ii As:=by have:=(qj.1 d).1;simp at this;omega
   subst l;simp at d;subst d;refine D.mono u λb e=>⟨(s2 b e).1,?_⟩
   dsimp only;rw[f9 e]
theorem aa.join(H:aa B h0 h As)(i j:Nat)(b:i≠j)(d:As[i]?=dB A)(c:As[j]?=dB D):aa B h0 h ((As.set i (A.sep D)).set j emp):=
 H.merge i j b d c λe f g l k=>⟨e,f,g,λ_ a=>.inl a,λ_ a=>.inr a,l,k⟩
theorem aa.SX{ι:Type}{F:ι->HP}(H:aa B h0 h As)(i:Nat)(e:As[i]?=dB (HP.ex F)):∃x,aa B h0 h (As.set i (F x)):=by
 obtain⟨g,p,c,z,a⟩:=H;obtain⟨x,f⟩:=a i _ e;refine⟨x,g,p,c,z,λj X b=>?_⟩;rw[qU]at b;split at b
 ·rename_i d;subst d;split at b
  ·injection b with b;subst b;exact f
  ·cases b
 ·exact a j X b
theorem aa.close'{ι:Type}{F:ι->HP}(H:aa B h0 h As)(i:Nat)(x:ι)(b:As[i]?=dB (F x)):aa B h0 h (As.set i (HP.ex F)):=H.dX i b λ_ a=>⟨x,a⟩
theorem aa.fact{P:Prop}(H:aa B h0 h As)(i:Nat)(a:As[i]?=dB (A.and P)):P:=(H.at i a).2
theorem aa.abn{P:Prop}(H:aa B h0 h As)(i:Nat)(b:As[i]?=dB (A.and P)):aa B h0 h (As.set i A):=H.dX i b λ_ a=>a.1
theorem aa.afI{P:Prop}(H:aa B h0 h As)(i:Nat)(b:As[i]?=dB A)(c:P):aa B h0 h (As.set i (A.and P)):=H.dX i b λ_ a=>⟨a,c⟩
theorem aa.cons(H:aa B h0 h As)(i:Nat)(g:As[i]?=dB A):aa B h0 h (A::As.set i emp):=by
 obtain⟨l,p,c,z,a⟩:=H;have k:=(qj.1 g).1;refine⟨l,p,λb=>if c b=i+1 then 1 else if c b=0 then 0 else c b+1,λb e=>?_,λj X d=>?_⟩
 ·have:=z b e;dsimp only;rw[g0 i4,f9 this]
 ·cases j with
  |zero=>
   simp at d;subst d;refine A.mono (a i A g) λb e=>⟨e.1,by dsimp only;rw[f9 e.2]⟩
  |succ j=>
   rw[qo,qU]at d;split at d
   ·rename_i f;injection d with d;subst d;trivial
   ·rename_i f;refine X.mono (a j X d) λb e=>⟨e.1,by dsimp only;rw[g0 i4,g0 i4];omega⟩
theorem aa.rest(H:aa B h0 h (A::As)):aa B h0 h As:=H.pick (λj=>j+1) (λa b h=>i4) λj X c=>l7
end
structure iy (α β:Type) where
 p:f8->av->α->β->Prop
 loc:∀{h h':f8} {q:av} {a:α} {b:β},p h q a b->aN q h h'->p h' q a b
 mono:∀{h:f8} {q q':av} {a:α} {b:β},p h q a b->(∀x,q x->q' x)->p h q' a b
def bR{α:Type}(k:Nat)(f:α->aR):iy Sl (List α):=⟨λh q s l=>Seq h q s k f l,λa b=>a.af b,λa c=>a.mono c⟩
def rC{α:Type}(k:Nat)(f:α->aR):iy Sl (List α):=⟨λh q s l=>Seq h q s k f l/\(l=[]->s.ptr=ez),λa b=>⟨a.1.af b,a.2⟩,λa c=>⟨a.1.mono c,a.2⟩⟩
def bv{α β:Type}(E:iy α β)(k:Nat)(f:α->aR):iy Sl (List β):=
 ⟨λh q s ll=>∃rs:List α,Seq h q s k f rs/\rs.length=ii ll/\∀(i:Nat) r l,rs[i]?=dB r->ll[i]?=dB l->E.p h q r l,
  λ⟨rs,a,b,c⟩ hp=>⟨rs,a.af hp,b,λi r l e d=>E.loc (c i r l e d) hp⟩,λ⟨rs,a,b,c⟩ hq=>⟨rs,a.mono hq,b,λi r l e d=>E.mono (c i r l e d) hq⟩⟩
def aeg{α β:Type}(E:iy α β)(P:α->β->Prop):iy α β:=⟨λh q a b=>E.p h q a b/\P a b,λa c=>⟨E.loc a.1 c,a.2⟩,λa d=>⟨E.mono a.1 d,a.2⟩⟩
def EA{α β:Type}(E:iy α β)(a:α)(b:β):HP:=⟨λh q=>E.p h q a b,λx d=>E.loc x d,λx c=>E.mono x c⟩
abbrev dM{α β:Type}(E:iy α β)(h:f8)(a:α)(b:β):Prop:=E.p h (λb=>b<h.size) a b
def bm{α β:Type}(e:TypeId)(s:Sl)(k:Nat)(f:α->aR)(E:iy α β)(m:List β):HP:=
 ⟨λh q=>∃(rs:List α) (j:av),Own h e s k f rs/\(∀b,s.on b->q b/\¬j b)/\(∀b,j b->q b)/\rs.length=ii m/\∀(i:Nat) r l,rs[i]?=dB r->m[i]?=dB l->E.p h j r l,
  λ⟨rs,j,a,b,c,d,e⟩ hp=>⟨rs,j,a.af hp λx g=>(b x g).1,b,c,d,λi r l o n=>E.loc (e i r l o n) (hp.mono λx _ g=>c x g)⟩,
  λ⟨rs,j,a,b,c,d,e⟩ hq=>⟨rs,j,a,λx g=>⟨hq x (b x g).1,(b x g).2⟩,λx g=>hq x (c x g),d,e⟩⟩
variable {β:Type} {b:β}
section
variable {E:iy α β} {ll:List β} {a:α}
theorem dM.up(x:dM E h a b)(c:aN (λb=>b<h.size) h h'):dM E h' a b:=E.mono (E.loc x c) λ_ d=>qT d c.1
theorem bv.jZ(x:(bv E k f).p h q s ll):∃rs:List α,Seq h q s k f rs/\rs.length=ii ll/\∀(i:Nat) (e:i<ii rs) (d:i<ii ll),E.p h q rs[i] ll[i]:=by obtain⟨rs,a,b,c⟩:=x;exact⟨rs,a,b,λi e d=>c i _ _ (qc e) (qc d)⟩
theorem bv.len(x:(bv E k f).p h q s ll):s.len=ii ll:=by obtain⟨rs,a,b,c⟩:=x;rw[a.len,b]
theorem bv.nil(h:f8)(q:av)(a:bZ)(c:Nat):(bv E k f).p h q ⟨a,0,c⟩ []:=⟨[],Seq.nil h q c a k f,i0,λi r l b=>by simp at b⟩
theorem bv.take(x:(bv E k f).p h q s ll)(n:Nat)(j:n<=ii ll):(bv E k f).p h q ⟨s.ptr,n,s.cap⟩ (ll.take n):=by
 obtain⟨rs,a,b,c⟩:=x;refine⟨rs.take n,a.take n i4,m4,λi r l d e=>?_⟩;rw[vm]at d e;split at d
 ·rename_i g;rw[f9 g]at e;exact c i r l d e
 ·cases d
theorem bv.get{X:Type}{g:X->eR}(x:(bv E 1 f).p h q s ll){i:Int}(n:Nat)(d:i=n)(b:n<ii ll)(u:α->X)(j:∀r,f r=[g (u r)]){K:X->Prop}(e:∀r,E.p h q r ll[n]->K (u r)):
  ∃a:eX,(s.ptr=dB a/\0<=i/\i<((s.len:Nat):Int))/\∃x:X,f7 h (a.add (i.toNat*1))=dB (g x)/\K x:=by
 obtain⟨rs,c,k,h3⟩:=bv.jZ x;exact c.bt n d i4 (u (rs[n]'(by omega))) (j _) (e _ (h3 n i4 b))
theorem bv.ng{E:iy Sl β}(x:(bv E 1 aX).p h q s ll){i:Int}(n:Nat)(c:i=n)(b:n<ii ll){K:Sl->Prop}(d:∀r,E.p h q r ll[n]->K r):
  ∃a:eX,(s.ptr=dB a/\0<=i/\i<((s.len:Nat):Int))/\∃x:Sl,f7 h (a.add (i.toNat*1))=dB (.slice x.ptr x.len x.cap)/\K x:=
 bv.get (g:=λr:Sl=>Value.slice r.ptr r.len r.cap) x n c b id (λ_=>rfl) d
theorem bv.todY{γ:Type}{d:Nat}{g:γ->aR}{l:List (List γ)}(x:dM (bv (bR d g) 1 aX) h s l):dY h s d g l:=by obtain⟨rs,a,b,c⟩:=x;exact⟨rs,a,b,c⟩
theorem bv.impl{α':Type}{e:Type}{E':iy α e}(u:β->e)(j:∀{h q a b},E.p h q a b->E'.p h q a (u b))(x:(bv E k f).p h q s ll):(bv E' k f).p h q s (ll.map u):=by
 obtain⟨rs,a,b,c⟩:=x;refine⟨rs,a,m4,λi r l g d=>?_⟩;rw[qL]at d;cases h3:ll[i]? with
 |none=>rw[h3]at d;cases d
 |some y=>rw[h3]at d;simp at d;subst d;exact j (c i r y g h3)
end
section
variable {E:iy α β} {C:Ctx} {e:Nat} {B:av} {ll:List β}
theorem aa.rD(H:aa B h0 h As)(e k:Nat)(f:α->aR)(E:iy α β):aa B h0 h (As++[bm e ⟨ez,0,0⟩ k f E []]):=
 H.comp (.one (aN.refl _ _) ⟨[],λ_=>False,Own.nil h e k f,λb a=>(by obtain⟨o,a⟩:=a;cases a),λ_ a=>a.elim,rfl,λi r l h=>mq⟩)
theorem aa.JZ(H:aa B h0 h As)(i:Nat)(m:As[i]?=dB (bm e s k f E ll))(o:∀x,ii (f x)=k):dM (bv E k f) h s ll:=by obtain⟨rs,p,a,b,c,d,e⟩:=H.at i m;exact⟨rs,a.seq o λx n=>(b x n).1,d,λi r l j g=>E.mono (e i r l j g) c⟩
theorem aa.Jd(H:aa B h0 h As)(i:Nat)(m:As[i]?=dB (bm e s k f E ll))(o:∀x,ii (f x)=k):aa B h0 h (As.set i (EA (bv E k f) s ll)):=
 H.dX i m λq ⟨rs,p,a,b,c,d,e⟩=>⟨rs,a.seq o λx n=>(b x n).1,d,λi r l j g=>E.mono (e i r l j g) c⟩
theorem aa.eAt{a:α}{b:β}(H:aa B h0 h As)(i:Nat)(c:As[i]?=dB (EA E a b)):dM E h a b:=H.at i c
theorem aa.Mz(H:aa B h0 h As)(i:Nat)(g:As[i]?=dB (bm e s k f E ll)):s.len=ii ll/\s.len<=s.cap:=by obtain⟨rs,j,a,b,c,d,e⟩:=H.at i g;exact⟨by rw[a.len,d],a.cap⟩
theorem aa.mO(hC:C.Ok)(H:aa B h0 h As)(i j:Nat)(I:i≠j){a:α}{b:β}(Z:As[i]?=dB (bm e s k f E ll))(hj:As[j]?=dB (EA E a b))(he:bI C.toAi t e k z by_)(hz:ii z=k)(U:0<by_/\by_<=128)(hw:∀x,ii (f x)=k)
  (O:∀x,∀c∈f x,c.oneCell'=eH) {parts:Array (Nat×eR)} (M:wC (λi=>dB (i*k,k)) (iI z 1).toArray parts.toList=dB ([a].flatMap f).toArray) (X:1*k<=2^20)
  (ab:ii ll+1<=2^32) {ty:Nat} {K:Sl->f8->Prop} (hk:∀T h',aa B h0 h' ((As.set j emp).set i (bm e T k f E (ll++[b])))->K T h'):
  bz C.P (zL t 1 parts) (.one (.sc .slc)) h λv o=>bz C.P (zD #[t,t] ty #[.slice s.ptr s.len s.cap,.slice v.ptr v.len v.cap]) (.one (.sc .slc)) o K:=by
 have H2:=H.merge i j I Z hj (D:=⟨λh q=>∃(rs:List α) (g:av),Own h e s k f rs/\(∀b,s.on b->q b/\¬g b)/\(∀b,g b->q b)/\rs.length=ii ll/\(∀(i:Nat) r l,rs[i]?=dB r->ll[i]?=dB l->E.p h g r l)/\E.p h g a b,
  λ⟨rs,g,a,b,c,d,e,f⟩ hp=>⟨rs,g,a.af hp λx n=>(b x n).1,b,c,d,λi r l o G=>E.loc (e i r l o G) (hp.mono λx _ n=>c x n),E.loc f (hp.mono λx _ n=>c x n)⟩,
  λ⟨rs,g,a,b,c,d,e,f⟩ hq=>⟨rs,g,a,λx n=>⟨hq x (b x n).1,(b x n).2⟩,λx n=>hq x (c x n),d,e,f⟩⟩)
  (λg q2 hd hA hB=>by
   obtain⟨rs,q3,a,b,c,d,e'⟩:=hA;refine⟨rs,λb=>q3 b∨q2 b,a,λx n=>⟨.inl (b x n).1,λQ=>Q.elim (b x n).2 (hd x (b x n).1)⟩,λx n=>n.elim (λh=>.inl (c x h)) .inr,d,λi r l o G=>E.mono (e' i r l o G) λ_ h=>.inl h,E.mono hB λ_ h=>.inr h⟩)
 have w:i<ii As:=(qj.1 Z).1;obtain⟨lo,pp,c,zz,ax⟩:=H2;have ha:=ax i _ (by rw[zy (Ne.symm I),zg w]);obtain⟨rs,g,a1,a2,a3,a4,a5,a6⟩:=ha;let Y:Nat->Nat:=λb=> @ite _ (g b) (Classical.propDecidable _) (ii As+2) (c b);have L:∀b,g b->b<h.size/\c b=i+1:=a3;have ho:dF h Y (i+1) e s k f rs:=⟨a1,λb m=>by
  have:=a2 b m;show @ite _ (g b) (Classical.propDecidable _) _ _=_;rw[g0 this.2];exact this.1.2⟩
 refine ho.push hC he hz U hw O a M X i4 λT h' F J=>hk T h' ?_;rw[vH _ _ (Ne.symm I)];rw[<-ye (l:=As) (i:=i),vH _ _ I];have R:∀b,g b->Y b≠i+1:=λb m=>by
  show @ite _ (g b) (Classical.propDecidable _) _ _≠_;rw[f9 m];omega
 refine aa.AV lo pp zz ax (J.mono λb m hn hc=>hn ⟨m,?_⟩) ⟨rs++[a],λb=>g b/\b<h.size,F.own,λb m=>?_,λb m=>⟨qT m.2 J.1,.inl ⟨m.2,(L b m.1).2⟩⟩,by simp[a4],λV r' l' o G=>?_⟩
 ·by_cases A:g b
  ·exact(L b A).2
  ·have u:@ite _ (g b) (Classical.propDecidable _) (ii As+2) (c b)=i+1:=hc;rw[g0 A]at u;exact u
 ·have y:=F.bw b m;by_cases w:b<h.size
  ·rw[gA w]at y;have S:¬g b:=λA=>R b A y;have u:@ite _ (g b) (Classical.propDecidable _) (ii As+2) (c b)=i+1:=y;rw[g0 S]at u;exact⟨⟨F.own.lt m,.inl ⟨w,u⟩⟩,λQ=>S Q.1⟩
  ·exact⟨⟨F.own.lt m,.inr i4⟩,λQ=>w Q.2⟩
 ·have N:∀{rr:α} {l:β},E.p h g rr l->E.p h' (λb=>g b/\b<h.size) rr l:=λhs=>
   E.loc (E.mono hs (q':=λb=>g b/\b<h.size) λb m=>⟨m,(L b m).1⟩) (J.mono λb _ m=>R b m.1)
  by_cases W:V<ii rs
  ·rw[ql W]at o;rw[ql i4]at G;exact N (a5 V r' l' o G)
  ·have:V=ii rs:=by have:=(qj.1 o).1;simp at this;omega
   subst this;simp at o;rw[a4]at G;simp at G;subst o;subst G;exact N a6
theorem aa.agj{Q:TI}(hC:C.Ok)(H:aa B h0 h As)(i j:Nat)(y:i≠j){a:α}{b:β}(R:As[i]?=dB (bm e s k f E ll))(hj:As[j]?=dB (EA E a b))(U:∀x,ii (f x)=k)(W:C.T.get t=dB Q){x:Int}(n:Nat)(g:x=n)(hn:n<ii ll){J:eR}(hv:J.cells=(f a).toArray)(L:Q.size=k)
  (I:(f a).all (·.oneCell')=eH) {K:f8->Prop} (hk:∀h',aa B h0 h' ((As.set j emp).set i (bm e s k f E (ll.set n b)))->K h'):
  ∃a:eX,(s.ptr=dB a/\0<=x/\x<((s.len:Nat):Int))/\au C.P (qE t (.pointer (dB (a.add (x.toNat*k)))) J) h λ_ h'=>K h':=by
 have V:=H.merge i j y R hj (D:=⟨λh q=>∃(rs:List α) (m:av),Own h e s k f rs/\(∀b,s.on b->q b/\¬m b)/\(∀b,m b->q b)/\rs.length=ii ll/\(∀(i:Nat) r l,rs[i]?=dB r->ll[i]?=dB l->E.p h m r l)/\E.p h m a b,
  λ⟨rs,m,a,b,c,d,e,f⟩ hp=>⟨rs,m,a.af hp λx g=>(b x g).1,b,c,d,λi r l o u=>E.loc (e i r l o u) (hp.mono λx _ g=>c x g),E.loc f (hp.mono λx _ g=>c x g)⟩,
  λ⟨rs,m,a,b,c,d,e,f⟩ hq=>⟨rs,m,a,λx g=>⟨hq x (b x g).1,(b x g).2⟩,λx g=>hq x (c x g),d,e,f⟩⟩)
  (λm q2 hd hA hB=>by
   obtain⟨rs,q3,a,b,c,d,S⟩:=hA;refine⟨rs,λb=>q3 b∨q2 b,a,λx g=>⟨.inl (b x g).1,λhh=>hh.elim (b x g).2 (hd x (b x g).1)⟩,λx g=>g.elim (λh=>.inl (c x h)) .inr,d,λi r l o u=>E.mono (S i r l o u) λ_ h=>.inl h,E.mono hB λ_ h=>.inr h⟩)
 have M:i<ii As:=(qj.1 R).1;obtain⟨lo,pp,c,zz,ax⟩:=V;have X:=ax i _ (by rw[zy (Ne.symm y),zg M]);obtain⟨rs,m,Z,G,a3,a4,a5,a6⟩:=X;refine Z.set hC U W n g i4 a hv L I λh' z w _=>hk h' ?_;rw[vH _ _ (Ne.symm y)];rw[<-ye (l:=As) (i:=i),vH _ _ y];have keep:∀{N:α} {l:β},E.p h m N l->E.p h' m N l:=λhs=>E.loc hs (w.mono λb _ v A=>(G b A).2 v);refine aa.AV lo pp zz ax (w.mono λb _ v A=>v (G b A).1) ⟨rs.set n a,m,z,λb v=>⟨⟨qT (G b v).1.1 w.1,.inl (G b v).1⟩,(G b v).2⟩,λb v=>⟨qT (a3 b v).1 w.1,.inl (a3 b v)⟩,by simp[a4],λi' Y O o u=>?_⟩;rw[qU]at o u;split at o
 ·rename_i F;rw[f9 F]at u;split at o
  ·injection o with o;subst o
   have e:O=b:=by rw[f9 i4]at u;exact(zQ.inj u).symm
   subst e;exact keep a6
  ·cases o
 ·rename_i F;rw[g0 F]at u;exact keep (a5 i' Y O o u)
end
section
variable {E:iy α β} {e:Nat} {B:av}
theorem aa.aeh(H:aa B h0 h As)(i j:Nat)(d:i≠j){a:α}{b:β}(t:As[i]?=dB (ae e s k f [a]))(p:As[j]?=dB (EA E a b)):aa B h0 h ((As.set i (bm e s k f E [b])).set j emp):=
 H.merge i j d t p λw v u g q=>⟨[a],v,g.1,λx m=>⟨.inl (g.2 x m),u x (g.2 x m)⟩,λ_ o=>.inr o,i0,λi r l c n=>by
  cases i with
  |succ i=>simp at c
  |zero=>simp at c n;subst c;subst n;exact q⟩
theorem aa.Hb{α:Type}{f:α->aR}{l:List α}(H:aa B h0 h As)(i:Nat)(b:As[i]?=dB (ae e s k f l))(c:∀x,ii (f x)=k):aa B h0 h (As.set i (EA (bR k f) s l)):=H.dX i b λ_ a=>a.1.seq c a.2
end
variable {e2:Nat}
section
variable {B:av} {e:Nat}
theorem aa.act(H:aa B h0 h (As++(ae e s 1 aX rs::bn e2 k f rs ll)))(w:ii rs=ii ll)(D:∀x,ii (f x)=k)(n:Nat)(J:n<=ii ll):aa B h0 h (As++[bm e ⟨s.ptr,n,s.cap⟩ 1 aX (bR k f) (ll.take n)]):=by
 classical
 obtain⟨E,p,c,z,a⟩:=H;refine⟨E,p,λb=>if c b>ii As then As.length+1 else c b,λb d=>?_,λj X g=>?_⟩
 ·have:=z b d;dsimp only;rw[g0 i4];exact this
 ·by_cases m:j<ii As
  ·rw[ql m]at g;refine X.mono (a j X (by rw[ql m];exact g)) λb d=>⟨d.1,?_⟩
   dsimp only;rw[g0 i4];exact d.2
  ·rw[qh i4]at g;have u:j=ii As:=by have:=(qj.1 g).1;simp at this;omega
   subst u;simp at g;subst g;have y:=a As.length (ae e s 1 aX rs) (by rw[qh (qm _)];simp);refine⟨rs.take n,λb=>b<h.size/\c b>ii As+1,y.1.cut (λ_=>rfl) n i4,λb d=>?_,λb d=>?_,by simp[w],λi r l o h3=>?_⟩
   ·have v:=y.2 b d;refine⟨⟨v.1,?_⟩,λK=>i4⟩;dsimp only;rw[f9 i4]
   ·refine⟨d.1,?_⟩;dsimp only;rw[f9 i4]
   ·rw[vm]at o h3;split at o
    ·rename_i t;rw[f9 t]at h3;have A:i<ii ll:=(qj.1 h3).1;have F:=fk (e:=e2) (k:=k) (f:=f) w i A;have q:=a (ii As+(i+1)) _ (by rw[qh i4];simpa using F);have I:rs[i]'(by omega)=r:=by rw[qc i4]at o;simpa using o
     have G:ll[i]=l:=by rw[qc A]at h3;simpa using h3
     rw[I,G]at q;exact q.1.seq D λb d=>⟨(q.2 b d).1,by have:=(q.2 b d).2;omega⟩
    ·cases o
theorem aa.LJ{s:Sl}{a:List (List α)}(H:aa B h0 h As)(i:Nat)(c:As[i]?=dB (fH e s k f a)):aa B h0 h (As.set i (bm e s 1 aX (bR k f) a)):=H.dX i c λ_ b=>b
end
theorem Ka{h h':f8}{p:av}(a:aN p h h'):∀{L:bQ},L.ok h->(∀x∈L,p x.1.block)->L.ok h'
 |[],_,_=>trivial
 |x::L,hk,hq=>⟨a.cell (hq x i9) hk.1,Ka a hk.2 λy b=>hq y m4⟩
theorem ka{h h':f8}(d:aN (λb=>b<h.size) h h'){L:bQ}(c:L.ok h):L.ok h':=Ka d c (by
 clear d
 induction L with
 |nil=>intro x a;cases a
 |cons y L ih=>
  intro x a;rcases qV.1 a with rfl|a
  ·exact df c.1
  ·exact ih c.2 x a)
theorem bz.both{P:Program}{s:Sem eR}{h:f8}{K:Sl->f8->Prop}{Q:f8->Prop}(g:bz P s (.one (.sc .slc)) h λ_ h'=>Q h')(e:bz P s (.one (.sc .slc)) h K):bz P s (.one (.sc .slc)) h λx h'=>Q h'/\K x h':=by intro w a;obtain⟨o,j,b,d,l,a3,a4⟩:=g w a;obtain⟨k,m,c,n,x2,i,f⟩:=e w a;rw[b]at c;cases c;exact⟨_,_,b,d,x2,i,a4,f⟩
theorem aa.nS{α:Type}{B:av}{C:Ctx}{g h:f8}{As:List HP}{e t k c:Nat}{z:aR}{K:Sl->f8->Prop}(r:C.Ok)(H:aa B g h As)(f:α->aR)(q:bI C.toAi t e k z c)(b:ii z=k){n:Nat}{parts:Array (Nat×eR)}(l:List α)(p:ii l=n)(d:n*k<=2^20)
  (a:wC (λi=>dB (i*k,k)) (iI z n).toArray parts.toList=dB (l.flatMap f).toArray) {L:bQ} (m:L.ok h) (j:bz C.P (zL t n parts) (.one (.sc .slc)) h K):
  bz C.P (zL t n parts) (.one (.sc .slc)) h λx h'=>L.ok h'/\K x h':=
 bz.both ((Sp.refl h).lit r f q b l p d a λ_ _ o=>ka o.af m) j
section
variable {B:av} {Bs:List HP} {A:HP} {i:Nat}
theorem aa.front(H:aa B h0 h (As++Bs)):aa B h0 h (Bs++As):=
 H.pick (λj=>if j<ii Bs then As.length+j else if j<ii Bs+ii As then j-ii Bs else j)
  (λa b c=>j6) λj X d=>by
  try dsimp only
  split
  ·rename_i e;rw[ql e]at d;rw[qh i4,zn];exact d
  ·rename_i e;rw[qh i4]at d;have:=(qj.1 d).1;rw[f9 i4,ql this];exact d
theorem aa.be(H:aa B h0 h (As++[A])):aa B h0 h (A::As):=H.front
theorem aa.bN(H:aa B h0 h As)(R:Sp h h' [A]):aa B h0 h' (A::As):=(H.comp R).be
theorem aa.nw(H:aa B h0 h (A::As)):aa B h0 h As:=H.rest
theorem aa.oy(H:aa B h0 h (A::D::As)):aa B h0 h (A::As):=H.del 1
theorem aa.oz{ι:Type}{F:ι->HP}(H:aa B h0 h (HP.ex F::As)):∃x,aa B h0 h (F x::As):=H.SX 0 i0
theorem aa.sX{ι:Type}{F:ι->HP}(x:ι)(H:aa B h0 h (F x::As)):aa B h0 h (HP.ex F::As):=H.close' 0 x i0
theorem aa.lK(H:aa B h0 h (A.sep D::As)):aa B h0 h (D::A::As):=(H.split 0 i0).be
theorem aa.iQ(H:aa B h0 h (D::A::As)):aa B h0 h (A.sep D::As):=by have a:aa B h0 h (emp::A.sep D::As):=H.join 1 0 i5 i0 i0;exact a.rest
theorem aa.gp(H:aa B h0 h (A::D::As)):aa B h0 h (D::A::As):=H.abm 0 1 i0 i0
end
theorem Seq.lY{h:f8}{p:av}{s:Sl}{rs:List Sl}(d:Seq h p s 1 aX rs){i:Int}(n:Nat)(c:i=n)(b:n<ii rs){K:Sl->Prop}(e:K rs[n]):
  ∃a:eX,(s.ptr=dB a/\0<=i/\i<((s.len:Nat):Int))/\∃x:Sl,f7 h (a.add (i.toNat*1))=dB (.slice x.ptr x.len x.cap)/\K x:=
 d.bt (g:=λr:Sl=>Value.slice r.ptr r.len r.cap) n c b rs[n] i0 e
def St(B:av)(a:f8)(As:List HP)(Q:f8->Prop):Prop:=∀(Bs:List HP) (h':f8),aa B a h' (Bs++As)->Q h'
variable {Q:f8->Prop}
section
variable {B:av} {Bs:List HP} {A:HP}
theorem St.at(x:St B h0 As Q)(Bs:List HP)(H:aa B h0 h (Bs++As)):Q h:=x Bs h H
theorem St.base(b:Q h0)(a:∀h',aN B h0 h'->Q h'):St B h0 As Q:=λ_ _ H=>a _ H.af
theorem St.dN(j:Nat)(a:As[j]?=dB A)(c:∀h',A.p h' (λb=>b<h'.size)->Q h'):St B h0 As Q:=λBs h' H=>c _ (H.at (ii Bs+j) (by rw[qh i4,zn];exact a))
theorem St.cons(x:St B h0 As Q):St B h0 (A::As) Q:=λBs h' H=>x (Bs++[A]) h' (by rw[qn];exact H)
end
section
variable {E:iy Sl β} {ll:List β}
theorem bv.agk(x:(bv E 1 aX).p h q s ll){i:Int}(n:Nat)(k:i=n)(g:n<ii ll){K:Sl->Prop}(l:∀(a:eX) (r:Sl),s.ptr=dB a->f7 h (a.add (n*1))=dB (.slice r.ptr r.len r.cap)->E.p h q r ll[n]->K r):
  ∃a:eX,(s.ptr=dB a/\0<=i/\i<((s.len:Nat):Int))/\∃x:Sl,f7 h (a.add (i.toNat*1))=dB (.slice x.ptr x.len x.cap)/\K x:=by
 subst k;obtain⟨rs,e,m,h3⟩:=bv.jZ x;obtain⟨b,o,f,e2,j⟩:=e.elem n (rs[n]'(by omega)) (qc i4);have c:=j.1;rw[add_eq,wT]at c;have d:f7 h ((⟨b,o,ez⟩:eX).add (n*1))=dB (.slice (rs[n]'(by omega)).ptr (rs[n]'(by omega)).len (rs[n]'(by omega)).cap):=by rw[add_eq];exact c
 refine⟨_,⟨f,i4,by rw[e.len];omega⟩,rs[n]'(by omega),by rw[qk];exact d,l _ _ f d (h3 n i4 g)⟩
theorem bv.pick(x:(bv E 1 aX).p h q s ll)(n:Nat)(i:n<ii ll){a:eX}{r:Sl}(g:s.ptr=dB a)(l:f7 h (a.add (n*1))=dB (.slice r.ptr r.len r.cap)):E.p h q r ll[n]:=by
 obtain⟨rs,j,t,h3⟩:=bv.jZ x;obtain⟨b,o,d,e2,k⟩:=j.elem n (rs[n]'(by omega)) (qc i4);rw[g]at d;injection d with d
 subst d;have e:=k.1;rw[add_eq,wT]at e;have c:f7 h ((⟨b,o,ez⟩:eX).add (n*1))=dB (.slice (rs[n]'(by omega)).ptr (rs[n]'(by omega)).len (rs[n]'(by omega)).cap):=by rw[add_eq];exact e
 rw[l]at c;have f:=h3 n i4 i;generalize rs[n]'(by omega)=r' at c f;obtain⟨w,l1,u⟩:=r;obtain⟨m,l2,v⟩:=r';simp at c;obtain⟨rfl,rfl,rfl⟩:=c;exact f
end
theorem CG{α:Type}{l:List α}(f:l.Nodup){a b:Nat}(e:a<ii l)(c:b<ii l)(h:l[a]=l[b]):a=b:=by
 have d:=zp.1 f;rcases y9 a b with hlt|he|hgt
 ·exact absurd h (d a b e c hlt)
 ·exact he
 ·exact absurd h.symm (d b a c e hgt)
theorem aa.bB{B:av}{k h:f8}{As:List HP}(H:aa B k h As)(L:List Nat)(g:∀j∈L,j<ii As:=by simp)(m:L.Nodup:=by decide):aa B k h (L.map λj=>As.getD j emp):=by
 refine H.pick (λi=>if h:i<ii L then L[i]else As.length+i) (λa b c=>?_) λi A2 e=>?_
 ·try dsimp only at c
  split at c<;>split at c
  ·exact CG m _ _ c
  ·have:=g _ (qf (l:=L) (n:=a) pt);omega
  ·have:=g _ (qf (l:=L) (n:=b) pt);omega
  ·omega
 ·try dsimp only
  rw[qL]at e;split
  ·rename_i d;rw[qc d]at e;have f:=g _ (qf d);simp only[qQ,zQ.injEq]at e;rw[<-e,qd,qc f];rfl
  ·rename_i d;rw[qB i4]at e;simp at e
theorem St.mk'{B:av}{a:f8}{As:List HP}{Q:f8->Prop}(x:∀h',aa B a h' As->Q h'):St B a As Q:=λBs h' H=>x h' (H.take Bs.length λi A b=>by
 rw[qh i4,zn];exact b)
theorem St.here{B:av}{a h:f8}{As:List HP}{Q:f8->Prop}(x:St B a As Q)(H:aa B a h As):Q h:=x [] h H
theorem St.mono{B:av}{a:f8}{As:List HP}{Q b:f8->Prop}(x:St B a As Q)(c:∀h,Q h->b h):St B a As b:=λBs h' H=>c _ (x Bs h' H)
theorem aa.aL{B:av}{m h:f8}{As:List HP}(H:aa B m h As)(k:Nat)(L:List Nat)(p:k<=ii As:=by simp)(f:∀j∈L,j<k:=by simp)(o:L.Nodup:=by decide):aa B m h (L.map (λj=>As.getD j emp)++As.drop k):=by
 refine H.pick (λi=>if h:i<ii L then L[i]else k+(i-ii L)) (λa b d=>?_) λi A2 e=>?_
 ·try dsimp only at d
  split at d<;>split at d
  ·exact CG o _ _ d
  ·have:=f _ (qf (l:=L) (n:=a) pt);omega
  ·have:=f _ (qf (l:=L) (n:=b) pt);omega
  ·omega
 ·try dsimp only
  by_cases c:i<ii L
  ·rw[dif_pos c];rw[ql l7,qL,qc c]at e;have g:=f _ (qf c);simp only[qQ,zQ.injEq]at e;rw[<-e,qd,qc i4];rfl
  ·rw[dif_neg c];rw[qh l7,qu,wL]at e;exact e
section
variable {E:iy α β} {C:Ctx} {e:Nat} {B:av} {rs:List α} {ll:List β}
def Fix(E:iy α β)(k:Nat)(f:α->aR)(h:f8)(q:av)(s:Sl)(rs:List α)(a:List β):Prop:=Seq h q s k f rs/\rs.length=ii a/\∀(i:Nat) r l,rs[i]?=dB r->a[i]?=dB l->E.p h q r l
theorem Fix.af(x:Fix E k f h q s rs ll)(a:aN q h h'):Fix E k f h' q s rs ll:=⟨x.1.af a,x.2.1,λi r l c b=>E.loc (x.2.2 i r l c b) a⟩
theorem Fix.mono{q':av}(x:Fix E k f h q s rs ll)(a:∀b,q b->q' b):Fix E k f h q' s rs ll:=⟨x.1.mono a,x.2.1,λi r l d c=>E.mono (x.2.2 i r l d c) a⟩
abbrev nl(E:iy α β)(k:Nat)(f:α->aR)(h:f8)(s:Sl)(rs:List α)(a:List β):Prop:=Fix E k f h (λb=>b<h.size) s rs a
theorem nl.up(x:nl E k f h s rs ll)(a:aN (λb=>b<h.size) h h'):nl E k f h' s rs ll:=(Fix.af x a).mono λ_ c=>qT c a.1
theorem Fix.row(x:Fix E k f h q s rs ll){i:Nat}(a:i<ii ll):E.p h q (rs[i]'(by rw[x.2.1];exact a)) ll[i]:=x.2.2 i _ _ (qc _) (qc _)
theorem bv.fix(x:(bv E k f).p h q s ll):∃rs,Fix E k f h q s rs ll:=x
theorem Fix.elt(x:Fix E k f h q s rs ll):(bv E k f).p h q s ll:=⟨rs,x⟩
def cy(E:iy α β)(k:Nat)(f:α->aR)(s:Sl)(rs:List α)(a:List β):HP:=⟨λh q=>Fix E k f h q s rs a,λx c=>x.af c,λx b=>x.mono b⟩
theorem aa.FM(H:aa B h0 h As)(i:Nat)(j:As[i]?=dB (bm e s k f E ll))(o:∀x,ii (f x)=k):∃rs,aa B h0 h (As.set i (cy E k f s rs ll)):=by
 have g:i<ii As:=(qj.1 j).1;have p:aa B h0 h (As.set i (HP.ex λrs=>cy E k f s rs ll)):=H.dX i j λq ⟨rs,v,a,b,c,d,e⟩=>⟨rs,a.seq o λx n=>(b x n).1,d,λi r l u t=>E.mono (e i r l u t) c⟩
 obtain⟨rs,m⟩:=p.SX i (zg g);exact⟨rs,by rw[ye]at m;exact m⟩
theorem aa.eS(H:aa B h0 h As)(i:Nat)(a:As[i]?=dB (cy E k f s rs ll)):nl E k f h s rs ll:=H.at i a
theorem aa.CH(f:C.Ok)(H:aa B h0 h As)(d:C.T.get t=dB ti){K:eX->f8->Prop}(e:∀a h',aN (λb=>b<h.size) h h'->aa B h0 h' (As++[ac a t ti.zero])->K a h'):
  ow C.P (yJ t eH (.tuple #[])) h K:=
 ut f d λa h' x y c _=>e a h' (c.mono λ_ _ _=>trivial) (H.comp (Jb x y c))
theorem aa.LK(u:C.Ok)(H:aa B h0 h As)(f:α->aR)(s:bI C.toAi t e k z by_)(d:0<by_/\by_<=128)(l:α)(q:f l=z)(g:ii z=k){D A:IntKind}{n o:Int}(m c:Nat)(r:n=m)(v:o=c)(i:m<=c)(j:c<=2^32)
  {K:Sl->f8->Prop} (E:∀a h',a.len=m->aN (λb=>b<h.size) h h'->aa B h0 h' (As++[ae e a k f (qi m l)])->K a h'):
  bz C.P (zw t (.int D n) (.int A o)) (.one (.sc .slc)) h K:=
 run_make u s d l q g m c r v i j λa h' x y w p _=>E a h' (by rw[x.len];simp) (p.mono λ_ _ _=>trivial) (H.comp (Ja i0 x y p))
end
section
variable {C:Ctx} {B:av} {e:Nat}
theorem Own.YV(F:C.Ok)(u:Own h e s k f l)(w:∀x,ii (f x)=k)(H:C.T.get t=dB i){x:Int}(n:Nat)(B:x=n)(v:n<ii l)(j:Nat)(vs:aR)(M:j+ii vs<=k){q:eR}(y:α)(E:q.cells=vs.toArray)(r:i.size=ii vs)
  (o:vs.all (·.oneCell')=eH) (L:f y=(f l[n]).take j++vs++(f l[n]).drop (j+ii vs)) {K:f8->Prop} (I:∀h',Own h' e s k f (l.set n y)->aN (λb=>¬s.on b) h h'->K h'):
  ∃a:eX,(s.ptr=dB a/\0<=x/\x<((s.len:Nat):Int))/\au C.P (qE t (.pointer (dB ((a.add (x.toNat*k)).add j))) q) h λ_ h'=>K h':=by
 subst B;rcases u.head with⟨_,_,h3⟩|⟨b,rest,h1,h2,h3,h4⟩
 ·subst h3;simp at v
 ·refine⟨_,⟨h1,i4,by rw[u.len];omega⟩,?_⟩;unfold qE;refine au.bind (au.pure' ?_);unfold storeVar;refine au.bind (au.always (dT F.toOk H) ?_);rw[E,r];simp only[wZ,ne_eq,not_true,if_false];rw[add_eq,add_eq,zY,qk];have g:l=l.take n++l[n]::l.drop (n+1):=by rw[<-qJ v,qA]
  have p:l.set n y=l.take n++y::l.drop (n+1):=wA.trans (f9 v);have m:ii ((l.take n).flatMap f)=n*k:=by rw[di w,qO,wi i4]
  have D:=w l[n];have d:f l[n]=(f l[n]).take j++((f l[n]).drop j).take vs.length++(f l[n]).drop (j+ii vs):=by rw[qn,<-wm,qA,qA]
  refine ey (e:=e) (pre:=(l.take n).flatMap f++(f l[n]).take j) (old:=((f l[n]).drop j).take vs.length) (post:=(f l[n]).drop (j+ii vs)++((l.drop (n+1)).flatMap f++rest)) ?_ ?_ ?_ ?_ ?_
  ·have:l.flatMap f++rest=(l.take n).flatMap f++(f l[n]).take j++((f l[n]).drop j).take vs.length++((f l[n]).drop (j+ii vs)++((l.drop (n+1)).flatMap f++rest)):=by
    have A:=congrArg (List.flatMap f) g;rw[qZ,zj]at A;rw[A];generalize f l[n]=z at d;rw[qn]at d;simp only[qn];congr 1
    conv=>lhs;rw[d]
    simp only[qn]
   rw[<-this];exact h2
  ·simp;omega
  ·rw[qt,m,qO];omega
  ·intro c J;exact qY.1 o c J
  ·refine I _ ⟨by rw[zc];exact u.len,.inr ⟨b,rest,h1,?_,h3,h4⟩⟩ (aN.iW h2 λG=>G ⟨0,h1⟩);rw[gV h2,f9 i0,p,qZ,zj,L];simp[qn]
theorem aa.YV(v:C.Ok)(H:aa B h0 h As)(g:Nat)(c:As[g]?=dB (ae e s k f l))(p:∀x,ii (f x)=k)(A:C.T.get t=dB i){x:Int}(n:Nat)(o:x=n)(u:n<ii l)(j:Nat)(vs:aR)(q:j+ii vs<=k){d:eR}(y:α)(r:d.cells=vs.toArray)(m:i.size=ii vs)
  (b:vs.all (·.oneCell')=eH) (E:f y=(f l[n]).take j++vs++(f l[n]).drop (j+ii vs)) {K:f8->Prop} (D:∀h',aa B h0 h' (As.set g (ae e s k f (l.set n y)))->K h'):
  ∃a:eX,(s.ptr=dB a/\0<=x/\x<((s.len:Nat):Int))/\au C.P (qE t (.pointer (dB ((a.add (x.toNat*k)).add j))) d) h λ_ h'=>K h':=
 (H.own g c).YV v p A n o u j vs q y r m b E λh' z w=>D h' (H.mN g c w z)
end
def HP.all:List HP->HP
 |[]=>emp
 |A::L=>A.sep (HP.all L)
variable {L:List HP}
section
variable {B:av} {A:HP}
theorem aa.kQ:∀{L:List HP} {As:List HP},aa B h0 h (HP.all L::As)->aa B h0 h (L++As)
 |[],_,H=>H.rest
 |A::L,As,H=>by
  have e:aa B h0 h (HP.all L::A::As):=H.lK;have g:=aa.kQ e;exact g.pick (λi=>if i=0 then L.length else if i<=ii L then i-1 else i) (λa b c=>j6) λi X d=>by
   try dsimp only
   rw[zo]at d;cases i with
   |zero=>simp at d;subst d;rw[f9 i0,qh (qm _),qW];rfl
   |succ i=>
    rw[qo]at d;rw[g0 i4];by_cases f:i<ii L
    ·rw[ql f]at d;rw[f9 i4,ql i4];simpa using d
    ·rw[qh i4]at d;rw[g0 i4,qh i4];rw[show i+1-ii L=(i-ii L)+1 by omega,qo];exact d
theorem aa.closeAll:∀(L:List HP) {As:List HP},aa B h0 h (L++As)->aa B h0 h (HP.all L::As)
 |[],As,H=>((H.comp (.one (A:=emp) (aN.refl _ _) trivial)).be:aa B h0 h (emp::As))
 |A::L,As,H=>by
  have g:aa B h0 h (L++(A::As)):=H.pick (λi=>if i<ii L then i+1 else if i=ii L then 0 else i) (λa b c=>j6) λi X d=>by
   try dsimp only
   by_cases e:i<ii L
   ·rw[ql e]at d;rw[f9 e,zo,qo,ql e];exact d
   ·rw[qh i4]at d;by_cases f:i=ii L
    ·subst f;rw[qW]at d;rw[g0 i4,f9 rfl];simpa using d
    ·rw[g0 e,g0 f,zo];obtain⟨j,rfl⟩:∃j,i=ii L+(j+1):=⟨i-ii L-1,i4⟩
     rw[zn,qo]at d;rw[show L.length+(j+1)=(ii L+j)+1 by omega,qo,qh i4,zn];exact d
  exact(aa.closeAll L g).iQ
theorem aa.oA{P:Prop}(H:aa B h0 h (A.and P::As)):aa B h0 h (A::As)/\P:=⟨H.abn 0 i0,H.fact 0 i0⟩
theorem aa.tooA{P:Prop}(H:aa B h0 h (A::As))(p:P):aa B h0 h (A.and P::As):=H.afI 0 i0 p
end
def dc{α:Type}(e:TypeId)(s:Sl)(b:TypeId)(k:Nat)(f:α->aR)(a:List (List α)):HP:=
 HP.ex λrs:List Sl=>(HP.all (ae e s 1 aX rs::bn b k f rs a)).and (ii rs=ii a)
section
variable {C:Ctx} {B:av} {e:Nat}
theorem aa.rZ(H:aa B h0 h (dc e s e2 k f ll::As)):∃rs:List Sl,ii rs=ii ll/\aa B h0 h ((ae e s 1 aX rs::bn e2 k f rs ll)++As):=by obtain⟨rs,H⟩:=H.oz;obtain⟨H,a⟩:=H.oA;exact⟨rs,a,H.kQ⟩
theorem aa.Ak{rs:List Sl}(a:ii rs=ii ll)(H:aa B h0 h ((ae e s 1 aX rs::bn e2 k f rs ll)++As)):aa B h0 h (dc e s e2 k f ll::As):=
 ((aa.closeAll _ H).tooA a).sX (F:=λrs:List Sl=>(HP.all (ae e s 1 aX rs::bn e2 k f rs ll)).and (ii rs=ii ll)) rs
theorem aa.ww(H:aa B h0 h As)(e a k:Nat)(f:α->aR):aa B h0 h (dc e ⟨ez,0,0⟩ a k f []::As):=
 aa.Ak (rs:=[]) i0 ((H.nil e 1 aX).be)
theorem aa.AW{Bs:List HP}(H:aa B h0 h (As++Bs)):aa B h0 h As:=H.pick id (λ_ _ h=>h) λi A a=>by
 rw[id,ql (qj.1 a).1];exact a
theorem aa.sY(H:aa B h0 h (dc e s e2 k f ll::As))(b:∀x,ii (f x)=k):dY h s k f ll:=by obtain⟨rs,a,H⟩:=H.rZ;exact aa.Vq (aa.AW H) a b
theorem aa.rE(H:aa B h0 h (dc e s e2 k f ll::As)):s.len=ii ll/\s.len<=s.cap:=by obtain⟨rs,a,H⟩:=H.rZ;exact⟨by rw[(H.own 0 i0).len,a],(H.own 0 i0).cap⟩
theorem aa.Ey(i:C.Ok){r:Sl}{x:List α}(H:aa B h0 h (dc e s e2 k f ll::ae e2 r k f x::As))(g:bI C.toAi t e 1 [.slice ez 0 0] 24)(d:ii ll+1<=2^32){ty:Nat}{K:Sl->f8->Prop}
  (m:∀a h',aa B h0 h' (dc e a e2 k f (ll++[x])::As)->K a h'):
  bz C.P (zL t 1 #[(0,.slice r.ptr r.len r.cap)]) (.one (.sc .slc)) h λv j=>bz C.P (zD #[t,t] ty #[.slice s.ptr s.len s.cap,.slice v.ptr v.len v.cap]) (.one (.sc .slc)) j K:=by
 obtain⟨rs,c,H⟩:=H.rZ;refine H.push i 0 i0 g i0 i5 (λ_=>rfl) jb r i0 i5 i4 λa h' b=>m a h' ?_;refine aa.Ak (rs:=rs++[r]) n7 ?_;rw[sW c];have b:aa B h0 h' (ae e a 1 aX (rs++[r])::(bn e2 k f rs ll++ae e2 r k f x::As)):=b;have l:ae e a 1 aX (rs++[r])::(bn e2 k f rs ll++[ae e2 r k f x])++As=ae e a 1 aX (rs++[r])::(bn e2 k f rs ll++ae e2 r k f x::As):=i9
 rw[l];exact b
theorem aa.agl(H:aa B h0 h (dc e s e2 k f ll::As))(j:Nat)(o:j<=ii ll):aa B h0 h (dc e ⟨s.ptr,j,s.cap⟩ e2 k f (ll.take j)::As):=by
 obtain⟨rs,m,H⟩:=H.rZ;have H:=H.cut 0 i0 (λ_=>rfl) j i4;refine aa.Ak (rs:=rs.take j) (by simp[m]) ?_;have n:bn e2 k f (rs.take j) (ll.take j)=(bn e2 k f rs ll).take j:=by unfold bn;rw[List.take_zipWith]
 rw[n];have H:aa B h0 h (ae e ⟨s.ptr,j,s.cap⟩ 1 aX (rs.take j)::(bn e2 k f rs ll++As)):=H;have g:=ky (e:=e2) (k:=k) (f:=f) m;refine H.pick (λi=>if i<=j then i else i+(ii ll-j)) (λa b c=>by(try dsimp only at c);split at c<;>split at c<;>omega) λi X d=>?_
 try dsimp only
 cases i with
 |zero=>rw[f9 i4];exact d
 |succ i=>
  rw[zo,qo]at d;by_cases l:i<j
  ·rw[f9 i4,qo];rw[ql i7,List.getElem?_take_of_lt l]at d;rw[ql i4];exact d
  ·rw[g0 i4,show i+1+(ii ll-j)=(i+(ii ll-j))+1 by omega,qo];rw[qh i7]at d;rw[qh i4];have:i-ii ((bn e2 k f rs ll).take j)=i+(ii ll-j)-ii (bn e2 k f rs ll):=by simp[g];omega
   rw[<-this];exact d
end
namespace Gf
theorem YW{p:UInt8->Prop}(h:∀n,n<256->p (yK n))(a:UInt8):p a:=by
 have:=h a.toNat (UInt8.toNat_lt a)
 rwa [UInt8.ofNat_toNat]at this
def x2(a:UInt8):UInt8:=(a<<<1)^^^(if a&&&0x80=0 then 0 else 0x1b)
def x3(a:UInt8):UInt8:=x2 a^^^a
def pw:Nat->UInt8
 |0=>1
 |n+1=>x3 (pw n)
theorem acu(a b c:UInt8):(a^^^b)&&&c=(a&&&c)^^^(b&&&c):=by apply UInt8.toBitVec_inj.1;simp[UInt8.toBitVec_xor,UInt8.toBitVec_and];ext i hi;simp[Bool.and_xor_distrib_right]
theorem acv(a b:UInt8):(a^^^b)<<<1=(a<<<1)^^^(b<<<1):=by apply UInt8.toBitVec_inj.1;simp[UInt8.toBitVec_xor,UInt8.toBitVec_shiftLeft,BitVec.shiftLeft_xor_distrib]
theorem MB:∀a:UInt8,a&&&0x80=0∨a&&&0x80=0x80:=YW j5
theorem YX(a b c d:UInt8):(a^^^b)^^^(c^^^d)=(a^^^c)^^^(b^^^d):=by ac_rfl
theorem aei(a b:UInt8):x2 (a^^^b)=x2 a^^^x2 b:=by
 unfold x2;rw[acu,acv];rcases MB a with ha|ha<;>rcases MB b with hb|hb<;>rw[ha,hb]
 ·simp
 ·simp[UInt8.xor_assoc]
 ·rw[YX];simp
 ·rw[YX];simp
theorem aej(a b:UInt8):x3 (a^^^b)=x3 a^^^x3 b:=by unfold x3;rw[aei,YX]
def sZ:Nat->UInt8->UInt8
 |0,a=>a
 |n+1,a=>x3 (sZ n a)
theorem Rx(a b:UInt8):∀n,sZ n (a^^^b)=sZ n a^^^sZ n b
 |0=>rfl
 |n+1=>by simp only[sZ,Rx a b n,aej]
theorem Je(a:UInt8)(m:Nat):∀n,sZ (n+m) a=sZ n (sZ m a)
 |0=>by simp[sZ]
 |n+1=>by rw[Nat.add_right_comm];simp only[sZ,Je a m n]
theorem MC:∀n,sZ n 0=0
 |0=>rfl
 |n+1=>by rw[sZ,MC n];rfl
theorem Am:∀n,pw n=sZ n 1
 |0=>rfl
 |n+1=>by rw[pw,sZ,Am n]
def agm:Nat:=939374623831894136699086600277250597547650664638770418422125146541797353646788332867483593573384618611044815625336497665827114626705134492515730415652478061620339993830966980270842846318821775850471098591710629241171812800746666233448222972174585295916389942636813666312872914849454985560152530477328703759683306625234997237483834721220409437442253146756845415190424543171129629468776480674528486868811725071010351012234056630775688111116293610821126543142160426617079940511630006820862697466582575257349116925728488930366609138264019883664906661504235885380294353134295748489096855100647154935187045898006656778240
def lg(a:UInt8):Nat:=(agm>>>(8*a.toNat))%256
theorem He:∀a:UInt8,lg a<255:=YW j5
theorem SZ:∀a:UInt8,a≠0->pw (lg a)=a:=YW j5
theorem Ta:∀n,n<255->lg (pw n)=n:=j5
theorem aek:pw 255=1:=j5
theorem Tb:∀n,n<255->pw n≠0:=j5
theorem Vs(n:Nat):pw (n+255)=pw n:=by rw[Am,Je,<-Am 255,aek,<-Am]
theorem Vt(n:Nat):pw (n%255)=pw n:=by
 have:∀k m,pw (m+255*k)=pw m:=by
  intro k
  induction k with
  |zero=>intro m;rfl
  |succ k ih=>intro m;rw[Nat.mul_succ,<-w5,Vs,ih]
 have h:=this (n/255) (n%255);rw[Nat.mod_add_div]at h;exact h.symm
def mul(a b:UInt8):UInt8:=if a=0∨b=0 then 0 else pw ((lg a+lg b)%255)
def inv(a:UInt8):UInt8:=if a=0 then 0 else pw ((255-lg a)%255)
theorem mul_zero(a:UInt8):mul a 0=0:=by simp[mul]
theorem zero_mul(a:UInt8):mul 0 a=0:=by simp[mul]
theorem mul_comm(a b:UInt8):mul a b=mul b a:=by
 unfold mul;rw[Nat.add_comm];by_cases h:a=0∨b=0
 ·rw[f9 h,f9 h.symm]
 ·rw[g0 h,g0 λx=>h x.symm]
theorem MD(a b:UInt8)(d:a≠0):mul a b=sZ (lg a) b:=by
 by_cases c:b=0
 ·subst c;rw[mul_zero,MC]
 ·rw[mul,g0 (by simp[d,c]),Vt,Am,Je,<-Am,SZ b c]
theorem jS(a b c:UInt8):mul a (b^^^c)=mul a b^^^mul a c:=by
 by_cases d:a=0
 ·subst d;simp[zero_mul]
 ·rw[MD _ _ d,MD _ _ d,MD _ _ d,Rx]
theorem Ry(a b c:UInt8):mul (a^^^b) c=mul a c^^^mul b c:=by rw[mul_comm,jS,mul_comm c a,mul_comm c b]
theorem Vu{a b:UInt8}(d:a≠0)(c:b≠0):mul a b≠0:=by rw[mul,g0 (by simp[d,c])];exact Tb _ (vw _ i5)
theorem Vv{a b:UInt8}(d:a≠0)(c:b≠0):lg (mul a b)=(lg a+lg b)%255:=by rw[mul,g0 (by simp[d,c]),Ta _ (vw _ i5)]
theorem mul_assoc(a b c:UInt8):mul (mul a b) c=mul a (mul b c):=by
 by_cases f:a=0
 ·subst f;simp[zero_mul]
 by_cases d:b=0
 ·subst d;simp[zero_mul,mul_zero]
 by_cases e:c=0
 ·subst e;simp[mul_zero]
 rw[mul,g0 (by simp[Vu f d,e]),Vv f d,mul,g0 (by simp[f,Vu d e]),Vv d e];congr 1;omega
theorem ael:lg 1=0:=j5
theorem one_mul(a:UInt8):mul 1 a=a:=by
 by_cases b:a=0
 ·subst b;rfl
 ·rw[mul,g0 m4,ael,zY,Vt,SZ a b]
theorem mul_one(a:UInt8):mul a 1=a:=by rw[mul_comm,one_mul]
theorem aem{a:UInt8}(b:a≠0):inv a≠0:=by rw[inv,g0 b];exact Tb _ (vw _ i5)
theorem Jf{a:UInt8}(b:a≠0):mul a (inv a)=1:=by
 have c:=He a;rw[mul,g0 (by simp[b,aem b]),inv,g0 b,Ta _ (vw _ i5)];have:(lg a+(255-lg a)%255)%255=0:=i4
 rw[this];rfl
end Gf
structure Pow where
 off:Bool
 fuse:Option Nat
 offs:Int
def Pow.new:Pow:=⟨eL,ez,0⟩
def Pow.step(w:Pow):Bool×Pow:=
 if w.off then(eL,w)else match w.fuse with
 |none=>(eH,w)
 |some 0=>(eL,⟨eH,dB 0,Go.IntKind.wrap .i64 (w.offs+1)⟩)
 |some (k+1)=>(eH,⟨eL,dB k,w.offs⟩)
def Pow.arm(w:Pow)(n:Int):Pow:=if w.off then w else⟨eL,if 0<=n then dB n.toNat else ez,w.offs⟩
structure aY where
 room:Nat
 l:bO
 wait:Nat
 laid:bO
 has:Bool
 lost:Bool
def aY.new(a:Nat):aY:=⟨a,[],0,[],eL,eL⟩
def aY.append(w:Pow)(d:aY)(b:aP):Int×Pow×aY:=
 if b.length≠64 then(1,w,d)
 else if d.lost then(5,w,d)
 else if d.room<=ii d.l then(7,w,d)
 else if w.off then(14,w,d)
 else if w.step.1 then(0,w.step.2,{d with l:=d.l++[b],wait:=d.wait+1,laid:=[],has:=eL})
 else(14,w.step.2,{d with l:=d.l++[b],wait:=d.wait+1})
def aY.sync(w:Pow)(d:aY):Int×Pow×aY:=
 if d.lost then(5,w,d)
 else if w.step.1 then(0,w.step.2,{d with wait:=0,laid:=[],has:=eL})
 else(14,w.step.2,d)
def aY.rewrite(w:Pow)(d:aY)(l:bO):Int×Pow×aY:=
 if !l.all (λb=>decide (ii b=64))then(1,w,d)
 else if d.lost then(5,w,d)
 else if d.room<ii l then(7,w,d)
 else if w.off then(14,w,d)
 else if w.step.1 then(0,w.step.2,{d with l:=l,wait:=0,laid:=[],has:=eL})
 else(14,w.step.2,{d with laid:=l,has:=eH})
def aY.CI(d:aY):aY:={d with lost:=eH,l:=[],wait:=0,laid:=[],has:=eL}
abbrev aF:=List (Option aY)
def aU(ds:aF)(slot:Int):Option aY:=if 0<=slot/\slot<64 then(ds[slot.toNat]?).join else ez
def bM(ds:aF)(slot:Int)(d:aY):aF:=ds.set slot.toNat (dB d)
def isLive(ds:aF)(slot:Int):Bool:=match aU ds slot with|some d=>!d.lost|none=>eL
def bu(ds:aF)(cj:aB):aB:=cj.filter (isLive ds)
def fJ(w:Pow)(ds:aF)(slot:Int)(b:aP):Int×Pow×aF:=
 match aU ds slot with
 |none=>(if b.length≠64 then 1 else 5,w,ds)
 |some d=>((d.append w b).1,(d.append w b).2.1,bM ds slot (d.append w b).2.2)
def fK(w:Pow)(ds:aF)(slot:Int):Int×Pow×aF:=
 match aU ds slot with
 |none=>(5,w,ds)
 |some d=>((d.sync w).1,(d.sync w).2.1,bM ds slot (d.sync w).2.2)
def kR:List (Int×aP)->Pow->aF->Int×Pow×aF
 |[],w,ds=>(0,w,ds)
 |x::l,w,ds=>let r:=fJ w ds x.1 x.2;if r.1=0 then kR l r.2.1 r.2.2 else r
def fN:aB->Pow->aF->Int×Pow×aF
 |[],w,ds=>(0,w,ds)
 |x::l,w,ds=>let r:=fK w ds x;if r.1=0 then fN l r.2.1 r.2.2 else r
theorem oB(x:Int)(l:aB)(w:Pow)(ds:aF):fN (x::l) w ds=if(fK w ds x).1=0 then fN l (fK w ds x).2.1 (fK w ds x).2.2 else fK w ds x:=rfl
theorem ta(x:Int×aP)(l:List (Int×aP))(w:Pow)(ds:aF):kR (x::l) w ds=if(fJ w ds x.1 x.2).1=0 then kR l (fJ w ds x.1 x.2).2.1 (fJ w ds x.1 x.2).2.2 else fJ w ds x.1 x.2:=rfl
def dw(l:aB):aB:=((qz 64).map λi:Nat=>(i:Int)).filter λi=>decide (i∈l)
def layAll(l:List (Int×aP))(w:Pow)(ds:aF):Int×Pow×aF:=
 let r:=kR l w ds
 if r.1=0 then fN (dw (l.map qq)) r.2.1 r.2.2 else r
theorem FN(l:aB):l.flatMap ak=l.map (Value.int .i64):=by
 induction l with
 |nil=>rfl
 |cons a t ih=>rw[zj,ih];rfl
theorem Kb{w:World}{e:TypeId}{b:Nat}{rest:aR}{l:aB}(c:w.heap[b]?=dB (.cells (l.flatMap ak++rest).toArray e (0,0))):Sort.Holds (Value.int .i64) w b 0 l.toArray:=by
 intro j d;have a:j<ii l:=p0
 refine⟨?_,by simp[World.frozen?,c]⟩;rw[FN]at c;have:(l.map (Value.int .i64)++rest)[j]?=dB (xG xM l[j]):=by rw[ql kt,qL,qc a];rfl
 simp[World.cell?,c,this,a]
theorem ME(l a:aB)(rest:aR)(d:ii a=ii l):Sort.putCells (Value.int .i64) 0 a.toArray (l.flatMap ak++rest).toArray=(a.flatMap ak++rest).toArray:=by
 rw[FN,FN];apply yN;intro i;simp only[Sort.putCells,Array.getElem?_mapIdx,zP,wZ,zY,Nat.zero_le,true_and];by_cases b:i<ii l
 ·rw[ql k9,ql i7];have c:i<ii a:=i4
  simp[b,c]
 ·rw[qh i7,qh i7];simp only[qu,d];cases h:rest[i-ii l]? with
  |none=>rfl
  |some x=>simp only[qQ];rw[g0 b]
theorem MF{P:Program}{id:FuncId}(E:∀(f off cap:Nat) (o:aB) (w:World),Sort.Holds (Value.int .i64) w f off o.toArray->f<w.heap.size->ii o<4611686018427387904->
   Calls P id #[.slice (dB ⟨f,off,ez⟩) o.length cap] w λe j=>e=.returned (.tuple #[])/\∃n os,j=Sort.grow (Sort.putRow (Value.int .i64) (Sort.ahead w n) f off (o.mergeSort λx y=>decide (x<=y)).toArray) os)
  (B:∀(p:bZ) (cap:Nat) (w:World),Calls P id #[.slice p 0 cap] w λe j=>e=.returned (.tuple #[])/\j=w)
  {e:TypeId} {s:Sl} {l:aB} {h:f8} (t:Own h e s 1 ak l) (A:ii l<2^40):
  an P id #[.slice s.ptr s.len s.cap] h λv h'=>v=.tuple #[]/\Own h' e s 1 ak (l.mergeSort λx y=>decide (x<=y))/\aN (λb=>¬s.on b) h h':=by
 intro w g;have a:=t.len;rcases t.head with⟨h1,h2,h3⟩|⟨b,rest,h1,h2,h3,h4⟩
 ·subst h3;rw[a,h1];refine(B ez s.cap w).mono ?_;rintro u j ⟨rfl,rfl⟩;have D:(([]:aB).mergeSort λx y=>decide (x<=y))=[]:=i9
  exact⟨_,i0,de.refl _,i0,by rw[D];exact⟨a,.inl ⟨h1,h2,i0⟩⟩,by rw[<-g];exact aN.refl _ _⟩
 ·rw[h1,a];have q:w.heap[b]?=dB (.cells (l.flatMap ak++rest).toArray e (0,0)):=by rw[g];exact h2
  refine(E b 0 s.cap l w (Kb q) (lt_of_block q) i4).mono ?_;rintro u j ⟨rfl,n,os,rfl⟩;have i:=lt_of_block q;have m:ii (l.mergeSort λx y=>decide (x<=y))=ii l:=wh l;have d:∀k,k<h.size->(Sort.grow (Sort.putRow (Value.int .i64) (Sort.ahead w n) b 0 (l.mergeSort λx y=>decide (x<=y)).toArray) os).heap[k]?=if b=k then dB (.cells ((l.mergeSort λx y=>decide (x<=y)).flatMap ak++rest).toArray e (0,0))else h[k]?:=by
   intro k r;rw[Sort.heap_grow_old _ _ (by simpa[Sort.putRow,Sort.mapBlock,Sort.ahead,g]using r)];simp only[Sort.putRow,Sort.mapBlock,Sort.ahead,yn];by_cases c:b=k
   ·subst c;rw[f9 i0,f9 i0,q,qQ,Sort.onCells,ME _ _ _ m]
   ·rw[g0 c,g0 c,g]
  rw[g]at i;refine⟨_,i0,⟨i0,i0,i0,by simp[Sort.grow,Sort.putRow,Sort.mapBlock,Sort.ahead]⟩,i0,⟨by rw[m];exact a,.inr ⟨b,rest,h1,?_,h3,h4⟩⟩,?_,?_⟩
  ·rw[d b i,f9 rfl]
  ·simp[Sort.grow,Sort.putRow,Sort.mapBlock,Sort.ahead,g]
  ·intro k r z;rw[d k r,g0 λc=>z ⟨0,by rw[h1,c]⟩]
def bS(p:Int×Int×Int):Bool:=decide (p.1>=1)&&(decide (p.1<=16)&&(decide (p.2.1>=1)&&(decide (p.2.1<=4)&&(decide (p.2.2>=1)&&decide (p.2.2<=24)))))
theorem cg(p:Int×Int×Int):bS p=eH↔(1<=p.1/\p.1<=16)/\(1<=p.2.1/\p.2.1<=4)/\1<=p.2.2/\p.2.2<=24:=by simp[bS,and_assoc]
def bX(p:Int×Int×Int):Int:=if bS p then p.1+p.2.1 else 0
def BX(s:Int):Int:=qe xP (qe xP (s*(6364136223846793005:Int))+(1442695040888963407:Int))
def told(s:Int):Int:=qe xO (zG (BX s) (2^min (32:Int).toNat (qG xP)))
def lL(s n:Int):Int:=qe xM (xz (qe xP (told s)) (qe xP n))
theorem wrap_u64(x:Int):qe xP x=x%18446744073709551616:=rfl
theorem td(s n:Int)(a:0<n:=by omega)(e:n<=2^62:=by omega):0<=lL s n/\lL s n<n:=by
 unfold lL;have c:qe xP n=n:=p5
 rw[c];have d:0<=qe xP (told s):=p5
 have e2:=vL (qe xP (told s)) a;have b:0<=xz (qe xP (told s)) n:=Int.tmod_nonneg n d;rw[Qw.ai _];exact⟨b,e2⟩
def kS(l:aB)(i:Nat):Int:=l.getD i 0
def pP(l:aB)(i j:Nat):aB:=(l.set i (kS l j)).set j (kS l i)
theorem MG(l:aB)(i j:Nat):ii (pP l i j)=ii l:=by simp[pP]
def gB(n:Nat)(s:Int)(l:aB):Nat->Int×aB
 |0=>(s,l)
 |k+1=>(BX (gB n s l k).1,pP (gB n s l k).2 k (k+(lL (gB n s l k).1 ((n-k:Nat):Int)).toNat))
theorem te(n:Nat)(s:Int)(l:aB):∀k,(gB n s l k).2.length=ii l
 |0=>rfl
 |k+1=>by rw[gB,MG,te n s l k]
theorem FO{l:aB}{i:Nat}(h:i<ii l):kS l i∈l:=by rw[kS,qd,qc h];exact qf h
theorem YY{l:aB}{i j:Nat}(b:i<ii l)(a:j<ii l){x:Int}(c:x∈pP l i j):x∈l:=by
 rcases zR c with h|h
 ·rcases zR h with h|h
  ·exact h
  ·rw[h];exact FO a
 ·rw[h];exact FO b
def upto(n:Nat):aB:=(qz n).map λi:Nat=>(i:Int)
theorem gX(n:Nat):ii (upto n)=n:=by simp[upto]
theorem FP(n:Nat)(s:Int):∀k,k<=n->∀x∈(gB n s (upto n) k).2,0<=x/\x<n
 |0,_,x,hx=>by
  simp only[gB,upto,qx,qC]at hx;obtain⟨i,m,rfl⟩:=hx;omega
 |k+1,hk,x,hx=>by
  have d:k<n->n-k<=2^62->k+(lL (gB n s (upto n) k).1 ((n-k:Nat):Int)).toNat<n:=λl j=>by
   have:=td (gB n s (upto n) k).1 ((n-k:Nat):Int);omega
  have e:=te n s (upto n) k;rw[gX]at e;by_cases b:n-k<=2^62
  ·refine FP n s k i4 x (YY i4 ?_ hx);have:=d i4 b;omega
  ·--beyond any size:what is set is 0 or a member
   have c:∀y∈pP (gB n s (upto n) k).2 k (k+(lL (gB n s (upto n) k).1 ((n-k:Nat):Int)).toNat),y∈(gB n s (upto n) k).2∨y=0:=by
    intro y f;have g:∀i,kS (gB n s (upto n) k).2 i∈(gB n s (upto n) k).2∨kS (gB n s (upto n) k).2 i=0:=λi=>by
     by_cases h:i<(gB n s (upto n) k).2.length
     ·exact .inl (FO h)
     ·right;simp only[kS,qd];rw[qB i4];rfl
    rcases zR f with h|h
    ·rcases zR h with h|h
     ·exact .inl h
     ·rw[h];exact g _
    ·rw[h];exact g _
   rcases c x hx with h|h
   ·exact FP n s k i4 x h
   ·subst h;omega
def iu(l:aB):aB:=l.mergeSort λx y=>decide (x<=y)
theorem CJ(l:aB):ii (iu l)=ii l:=wh l
theorem uv(l:aB)(x:Int):x∈iu l↔x∈l:=List.mem_mergeSort
def Ez(s:Int)(n k:Nat):aB:=iu ((gB n s (upto n) k).2.take k)
theorem YZ{s:Int}{n k:Nat}(b:k<=n){x:Int}(a:x∈Ez s n k):0<=x/\x<n:=
 FP n s k b x (zA ((uv _ _).1 a))
theorem Za(s:Int)(n k:Nat)(a:k<=n):ii (Ez s n k)=k:=by rw[Ez,CJ,qO,te,gX];omega
def ft(l:Nat):Nat:=if l<=1 then l else if l<=4 then 2 else if l<=9 then 3 else if l<=16 then 4 else 5
def EB(r:Nat):Nat:=if r=0 then 0 else if r=1 then 1 else if r<=3 then 2 else 3
def po(l k:Nat):Nat:=
 (if k>1 then 1048576/(k*(k-1))else 1048576/l)+
  (if k<l/ft l then 1048576*ft l/(l*k)else if k=l/ft l then 1048576*ft l*EB (ft l)/l else 0)
def ms(l:Nat):Nat->Nat
 |0=>0
 |k+1=>ms l k+po l (k+1)
def jB(l:Nat):aB:=(qz l).map λk=>((ms l (k+1):Nat):Int)
theorem lu(l:Nat):ii (jB l)=l:=by simp[jB]
def Tc(t:aB)(x:Int):Nat:=(t.findIdx λy=>decide (y>x))+1
theorem Hg:∀l,l<=20->∀k,k<=20->po l k<=2^30:=j5
theorem EC(l:Nat)(a:l<=20):∀k,k<=20->ms l k<=k*2^30
 |0,_=>by simp[ms]
 |k+1,hk=>by
  have:=EC l a k i4;have:=Hg l a (k+1) hk;rw[ms];omega
theorem MH:∀l,l<=20->1<=l->0<ms l l:=j5
theorem Hj(l:Nat)(h:1<=l):(jB l).getLast?=dB ((ms l l:Nat):Int):=by
 obtain⟨k,rfl⟩:∃k,l=k+1:=⟨l-1,i4⟩
 simp[jB,zV]
def CK(seed id:Int):Int:=qe xP (qe xO ((qK (qG xO) seed^^^(qK (qG xO) (qe xO ((qe xO id)*(2654435761:Int))))).toNat:Nat))
def ED(s:Int)(n:Nat):Nat:=Tc (jB n) (lL s (ms n n))
theorem th(s:Int)(n:Nat)(b:1<=n)(a:n<=20):ED s n<=n:=by unfold ED Tc;have e:=MH n a b;have d:=EC n a n a;have c:=td s (ms n n);have:=List.findIdx_lt_length_of_exists (p:=λy=>decide (y>lL s (ms n n))) (xs:=jB n) ⟨_,List.mem_of_getLast? (Hj n b),by simpa using c.2⟩;rw[lu]at this;omega
def ct(id:Int):Bool:=decide (0<=id)&&decide (id<=65535)
def eT(n:Nat)(seed id:Int):aB:=Ez (BX (BX (CK seed id))) n (ED (BX (CK seed id)) n)
theorem nT{n:Nat}(b:1<=n)(a:n<=20){seed id x:Int}(c:x∈eT n seed id):0<=x/\x<n:=YZ (th _ n b a) c
theorem uw{n:Nat}(b:1<=n)(a:n<=20)(seed id:Int):ii (eT n seed id)<=n:=by rw[eT,Za _ _ _ (th _ n b a)];exact th _ n b a
def iE(n:Nat)(l:aB):aP:=l.foldl (λr i=>r.set i.toNat 1) (qi n 0)
theorem tj(n:Nat)(l:aB):ii (iE n l)=n:=by
 have:∀(l:aB) (r:aP),ii (l.foldl (λr i=>r.set i.toNat 1) r)=ii r:=by
  intro l
  induction l with
  |nil=>intro r;rfl
  |cons a t ih=>intro r;rw[zx,ih];simp
 rw[iE,this];simp
def CL(n:Nat)(seed id:Int):aP:=iE n (eT n seed id)
theorem MI(n:Nat)(seed id:Int):ii (CL n seed id)=n:=tj _ _
def pq(K H h:Nat):aP:=(qz K).map (λj=>Gf.pw ((h+1)*(j+1)%255))++(qz H).map λi=>if i=h then 1 else 0
def bU(K H:Nat):bO:=(qz H).map (pq K H)
theorem tk(K H h:Nat):ii (pq K H h)=K+H:=by simp[pq]
def ga(p:Int×Int×Int)(seed:Int)(a:aB):bO:=
 if bS p then bU p.1.toNat p.2.1.toNat++(a.filter ct).map (CL (bX p).toNat seed)else[]
theorem nH{α:Type}{f:α->Bool}{l:List α}{k:Nat}(a:k<ii l):(l.take (k+1)).filter f=if f l[k]then(l.take k).filter f++[l[k]]else(l.take k).filter f:=by rw[zN a,zl];by_cases h:f l[k]=eH<;>simp[h]
abbrev Row:=aP
abbrev aI:=List Row
def scaleB(c:UInt8)(l:Row):Row:=l.map (Gf.mul c)
def cO(c:UInt8)(a to:Row):Row:=ze (λx y=>y^^^Gf.mul c x) a to
def aJ(r:Row)(bw:Nat):UInt8:=r.getD bw 0
def aC(m:aI)(i:Nat):Row:=m.getD i []
def iR(m:aI)(a bw:Nat):Option Nat:=(qz m.length).find? λi=>decide (a<=i)&&(aJ (aC m i) bw !=0)
def jd(m:aI)(i j:Nat):aI:=(m.set i (aC m j)).set j (aC m i)
def eU(a bw:Nat)(m:aI)(k:Nat):aI:=m.mapIdx λi r=>if i<k/\i≠a then cO (aJ r bw) (aC m a) r else r
def jL(a bw:Nat)(m:aI):aI:=m.set a (scaleB (Gf.inv (aJ (aC m a) bw)) (aC m a))
def je(s:Nat×aI)(bw:Nat):Nat×aI:=
 match iR s.2 s.1 bw with
 |none=>s
 |some i=>(s.1+1,eU s.1 bw (jL s.1 bw (jd s.2 s.1 i)) s.2.length)
def bD(m:aI):Nat->Nat×aI
 |0=>(0,m)
 |c+1=>je (bD m c) c
def eE(m:aI):Nat:=ii (aC m 0)
def bY(m:aI):Nat:=(bD m (eE m)).1
def aV(n:Nat)(m:aI):Prop:=∀r∈m,ii r=n
theorem nU(c:UInt8)(l:Row):ii (scaleB c l)=ii l:=by simp[scaleB]
theorem bV{c:UInt8}{a t:Row}(h:ii a=ii t:=by omega):ii (cO c a t)=ii t:=by simp[cO,h]
theorem bE{m:aI}{i:Nat}(h:i<ii m):aC m i=m[i]:=by rw[aC,qd,qc h];rfl
theorem cC{n:Nat}{m:aI}(h:aV n m){i:Nat}(a:i<ii m:=by omega):ii (aC m i)=n:=by rw[bE a];exact h _ (qf a)
theorem FQ{n:Nat}{m:aI}(h:aV n m){i:Nat}{r:Row}(b:ii r=n):aV n (m.set i r):=λx a=>by
 rcases zR a with h1|h1
 ·exact h x h1
 ·rw[h1];exact b
theorem Td{P:Nat->Bool}{n:Nat}(h:∀j,j<n->P j=eL):(qz n).find? P=ez:=by rw[yq];intro x a;rw[qC]at a;simp[h x a]
theorem Te{P:Nat->Bool}{n k:Nat}(e:k<n)(h:∀j,j<k->P j=eL)(c:P k=eH):(qz n).find? P=dB k:=by
 rw[List.find?_eq_some_iff_append];refine⟨c,qz k,List.range' (k+1) (n-k-1),?_,λa b=>?_⟩
 ·rw[y8,y8];have d:n=k+(n-k):=i4
  have e2:n-k=(n-k-1)+1:=i4
  conv=>lhs;rw[d,<-List.range'_append_1 (s:=0) (m:=k) (n:=n-k)]
  rw[zY]
  conv=>lhs;rw[e2,List.range'_succ]
 ·rw[qC]at b;simp[h a b]
theorem pQ{m:aI}{a bw i:Nat}(h:iR m a bw=dB i):a<=i/\i<ii m/\aJ (aC m i) bw≠0:=by have b:=List.find?_some h;have c:=List.mem_of_find?_eq_some h;simp at b c;exact⟨b.1,c,b.2⟩
theorem PC{m:aI}{a bw:Nat}(h:iR m a bw=ez):∀i,a<=i->i<ii m->aJ (aC m i) bw=0:=λi c b=>by
 have:=yq.1 h i (qC.2 b);simpa[c]using this
theorem lj(m:aI)(i j:Nat):ii (jd m i j)=ii m:=by simp[jd]
theorem CM{n:Nat}{m:aI}(h:aV n m){i j:Nat}(b:i<ii m)(a:j<ii m):aV n (jd m i j):=FQ (FQ h (cC h a)) (cC h b)
theorem nI(t c:Nat)(m:aI):ii (jL t c m)=ii m:=by simp[jL]
theorem ux{n:Nat}{m:aI}(h:aV n m){t c:Nat}(a:t<ii m):aV n (jL t c m):=FQ h (by rw[nU];exact cC h a)
theorem nJ(t c:Nat)(m:aI)(k:Nat):ii (eU t c m k)=ii m:=by simp[eU]
theorem uy{n:Nat}{m:aI}(h:aV n m){t c k:Nat}(e:t<ii m):aV n (eU t c m k):=λx d=>by
 obtain⟨i,b,rfl⟩:=List.mem_mapIdx.1 d;have a:=h _ (qf b);split
 ·rw[bV (by rw[cC h e,a])];exact a
 ·exact a
theorem Vw(t c:Nat)(m:aI):eU t c m 0=m:=by apply zt;intro i;simp[eU,vy]
theorem pr{t c k:Nat}{m:aI}{i:Nat}(a:i<ii m):aC (eU t c m k) i=if i<k/\i≠t then cO (aJ (aC m i) c) (aC m t) (aC m i)else aC m i:=by rw[bE (by rw[nJ];exact a),bE a];simp[eU]
theorem Vx{t c k:Nat}{m:aI}(d:k<ii m)(b:k≠t):eU t c m (k+1)=(eU t c m k).set k (cO (aJ (aC m k) c) (aC m t) (aC m k)):=by
 apply zt;intro i;simp only[eU,qU,vy,List.length_mapIdx];by_cases a:k=i
 ·subst a;simp only[if_true,d,qc d,qQ];rw[f9 ⟨i4,b⟩,bE d]
 ·rw[g0 a];congr 1;funext r;by_cases h:i<k/\i≠t
  ·rw[f9 h,f9 ⟨i4,h.2⟩]
  ·rw[g0 h,g0 λe=>h ⟨i4,e.2⟩]
theorem Vy{t c:Nat}{m:aI}:eU t c m (t+1)=eU t c m t:=by
 apply zt;intro i;simp only[eU,vy];congr 1;funext r;by_cases h:i<t/\i≠t
 ·rw[f9 h,f9 ⟨i4,h.2⟩]
 ·rw[g0 h,g0 λa=>h ⟨i4,a.2⟩]
theorem Vz{n:Nat}{s:Nat×aI}(h:aV n s.2)(bw:Nat):aV n (je s bw).2/\(je s bw).2.length=ii s.2:=by
 unfold je;cases hb:iR s.2 s.1 bw with
 |none=>exact⟨h,i0⟩
 |some i=>
  have a:=pQ hb;dsimp only;refine⟨uy (ux (CM h i4 a.2.1) (by rw[lj];omega)) (by rw[nI,lj];omega),by rw[nJ,nI,lj]⟩
theorem iF{n:Nat}{m:aI}(h:aV n m):∀c,aV n (bD m c).2/\(bD m c).2.length=ii m
 |0=>⟨h,i0⟩
 |c+1=>by
  have:=iF h c;have a:=Vz this.1 c;rw[bD];exact⟨a.1,by rw[a.2,this.2]⟩
theorem Zb{s:Nat×aI}(h:s.1<=ii s.2)(bw:Nat):(je s bw).1<=(je s bw).2.length:=by
 unfold je;cases hb:iR s.2 s.1 bw with
 |none=>exact h
 |some i=>
  have a:=pQ hb;dsimp only;rw[nJ,nI,lj];omega
theorem AX(m:aI):∀c,(bD m c).1<=(bD m c).2.length
 |0=>by simp[bD]
 |c+1=>Zb (AX m c) c
variable {t t2 e k:Nat} {z:aR} {by_:Nat} {α:Type} {h h0:f8} {p B:av} {s v:Sl} {f:α->aR} {l l2:List α} {As:List HP}
section
variable {C:Ctx} {ty:Nat}
theorem Own.MJ(Q:C.Ok)(O:bI C.toAi t e k z by_)(D:∀x,ii (f x)=k)(w:Own h e s k f l)(N:Seq h p v k f l2)(A:∀x,∀c∈f x,c.oneCell'=eH)(j:Nat)(S:j<=ii l){u:bZ}{G V:Nat}(i:u=if s.cap=j then s.ptr else s.ptr.map (·.add (j*k)))(r:G=s.len-j){K:Int->f8->Prop}
  (F:∀n h',Own h' e s k f (l.take j++(l2.take (ii l-j)++l.drop (j+ii l2)))->aN (λb=>¬s.on b) h h'->K n h'):
  bz C.P (yc #[t,t2] ty #[.slice u G V,.slice v.ptr v.len v.cap]) (.one (.sc (.int .i64))) h K:=by
 unfold bz yc;simp only[zP,w8,qo];refine au.bind (au.always (aG (O.under Q)) ?_);refine au.bind (au.pure' ?_);refine au.bind (au.always (O.size Q) ?_);have g:=w.len;have q:=N.len;have R:=w.cap;obtain⟨m,E⟩:∃m,m=Nat.min v.len G:=⟨_,rfl⟩
 rw[<-E];have L:m<=ii l2:=by rw[E,<-q];exact Nat.min_le_left _ _
 have B:m<=ii l-j:=by rw[E,<-g,r];exact xh _ _
 have T:m=min l2.length (ii l-j):=by rw[E,r,g,q]
 have M:=N.take m L;have U:l2.take (ii l-j)++l.drop (j+ii l2)=l2.take m++l.drop (j+m):=by
  rcases Nat.le_total l2.length (ii l-j)with hh|hh
  ·rw[qg hh,show m=ii l2 by omega,qN]
  ·rw[show m=ii l-j by omega,zd (show l.length<=j+ii l2 by omega),zd i4]
 rw[U]at F;have I:wK k m (.slice v.ptr v.len v.cap)=wK k m (.slice v.ptr m v.cap):=by cases v.ptr<;>rfl
 rw[I];refine au.bind (fM (v:=⟨v.ptr,m,v.cap⟩) D M ?_);have d:m=0->l.take j++(l2.take m++l.drop (j+m))=l:=λe=>by rw[e];simp
 rcases w.head with⟨h1,h2,h3⟩|⟨b,rest,h1,h2,h3,h4⟩
 ·have a:u=ez:=by rw[i,h1];split<;>rfl
  rw[a];subst h3;have:m=0:=by simp at B;exact B
  refine au.pure' ⟨_,i0,F _ h ?_ (aN.refl _ _)⟩;rw[d this];exact w
 ·by_cases o:s.cap=j
  ·have a:u=dB ⟨b,0,ez⟩:=by rw[i,f9 o,h1]
   rw[a];have y:m=0:=i4
   refine au.bind ?_;rw[y];simp only[List.take_zero,List.flatMap_nil];exact au.pure' (au.pure' ⟨_,i0,F _ h (by rw[d y];exact w) (aN.refl _ _)⟩)
  ·have a:u=dB ⟨b,0+j*k,ez⟩:=by rw[i,g0 o,h1];simp only[qQ];rw[add_eq]
   rw[a];refine au.bind ?_;have H:l.flatMap f++rest=(l.take j).flatMap f++((l.drop j).take m).flatMap f++((l.drop (j+m)).flatMap f++rest):=by rw[<-qn,<-qZ,<-qZ,<-wm,qn (List.take j l),qA,qA]
   rw[H]at h2;refine ey (e:=e) (pre:=(l.take j).flatMap f) (old:=((l.drop j).take m).flatMap f) (post:=(l.drop (j+m)).flatMap f++rest) h2 (by rw[di D,di D,qO,qO,za];congr 1;omega) (by rw[di D,qO];rw[wi S];omega) ?_ ?_
   ·intro c X;obtain⟨x,_,J⟩:=zM.1 X;exact A x c J
   ·refine au.pure' ⟨_,i0,F _ _ ⟨by rw[g,qt,qt,qO,qO,za];omega,.inr ⟨b,rest,h1,?_,h3,h4⟩⟩ (aN.iW h2 λW=>W ⟨0,h1⟩)⟩;rw[gV h2,f9 i0,qZ,qZ];simp[qn]
theorem aa.MJ(D:C.Ok)(H:aa B h0 h As)(i:Nat)(o:As[i]?=dB (ae e s k f l))(A:bI C.toAi t e k z by_)(q:∀x,ii (f x)=k)(u:Seq h p v k f l2)(a:∀x,∀c∈f x,c.oneCell'=eH)(j:Nat)(r:j<=ii l){m:bZ}{g w:Nat}(d:m=if s.cap=j then s.ptr else s.ptr.map (·.add (j*k)))(b:g=s.len-j){K:Int->f8->Prop}
  (E:∀n h',aa B h0 h' (As.set i (ae e s k f (l.take j++(l2.take (ii l-j)++l.drop (j+ii l2)))))->K n h'):
  bz C.P (yc #[t,t2] ty #[.slice m g w,.slice v.ptr v.len v.cap]) (.one (.sc (.int .i64))) h K:=
 (H.own i o).MJ D A q u a j r d b λn h' x y=>E n h' (H.mN i o y x)
end
def b8(n:Int):UInt8:=yK (n%256).toNat
theorem dU(n:Int):qe xN n=((b8 n).toNat:Int):=by
 have h0:=yj n (show(256:Int)≠0 by decide);have a:=wN n (show(0:Int)<256 by decide);have e:((b8 n).toNat:Int)=n%256:=by unfold b8;rw[UInt8.toNat_ofNat'];omega
 rw[e];unfold qe;simp[qG,vg]
abbrev jq:=BitVec 32
def jC(s:jq):jq:=if s&&&1#32=1#32 then(s>>>1)^^^3988292384#32 else s>>>1
def dV:Nat->jq->jq
 |0,s=>s
 |n+1,s=>jC (dV n s)
def lT(s:jq)(x:UInt8):jq:=dV 8 (s^^^BitVec.ofNat 32 x.toNat)
def kJ(l:aP):jq:=l.foldl lT 4294967295#32
def lM(l:aP):jq:=4294967295#32^^^kJ l
theorem Tf(l:aP)(x:UInt8):kJ (l++[x])=lT (kJ l) x:=by unfold kJ;rw[zB];rfl
theorem MK(s:jq):qe xO ((s.toNat:Nat):Int)=(s.toNat:Int):=by have:=s.isLt;unfold qe;simp[qG,vg];omega
theorem Tg(a b:jq):qe xO ((qK (qG xO) (a.toNat:Int)^^^qK (qG xO) (b.toNat:Int)).toNat:Nat)=((a^^^b).toNat:Int):=by show qe xO (((qK 32 (a.toNat:Int)^^^qK 32 (b.toNat:Int):BitVec 32).toNat:Nat):Int)=_;rw[w9,w9,vM,vM,vN,vN,MK]
theorem afJ(a b:jq):qe xO ((qK (qG xO) (a.toNat:Int)&&&qK (qG xO) (b.toNat:Int)).toNat:Nat)=((a&&&b).toNat:Int):=by show qe xO (((qK 32 (a.toNat:Int)&&&qK 32 (b.toNat:Int):BitVec 32).toNat:Nat):Int)=_;rw[w9,w9,vM,vM,vN,vN,MK]
theorem Kc(n:Int):qe xO n=((qK 32 n).toNat:Int):=by unfold qe;simp[qG,vg,BitVec.toNat_ofInt];omega
theorem acw(s:jq):zG (s.toNat:Int) (2^min (1:Int).toNat (qG xO))=((s>>>1).toNat:Int):=by rw[show min (1:Int).toNat (qG xO)=1 from i0,wO _ i5,BitVec.toNat_ushiftRight,Nat.shiftRight_eq_div_pow];simp
theorem RB(s:jq):((s&&&1#32).toNat:Int)=1↔s&&&1#32=1#32:=by
 constructor
 ·intro h;apply BitVec.eq_of_toNat_eq;have:(1#32:jq).toNat=1:=rfl;omega
 ·intro h;rw[h];rfl
def kT(s:jq):aP:=(qz 4).map λi=>b8 (zG (s.toNat:Int) (2^(8*i)))
theorem AY(s:jq):ii (kT s)=4:=by simp[kT]
def dJ(kind:Int)(a:aP):aP:=[87,115,1,b8 kind]++a++qi (55-ii a) 0
def dW(kind:Int)(a:aP):aP:=
 if 1<=kind/\kind<=255/\a.length<=55 then dJ kind a++kT (lM (dJ kind a))++[165]else[]
theorem tl{kind:Int}{a:aP}(h:ii a<=55):ii (dJ kind a)=59:=by simp[dJ];omega
theorem lU{kind:Int}{a:aP}(c:1<=kind)(b:kind<=255)(h3:ii a<=55):ii (dW kind a)=64:=by unfold dW;rw[f9 ⟨c,b,h3⟩];simp[tl h3,AY]
def iX(s:ByteArray):aP:=s.data.toList
theorem AZ(s:ByteArray):ii (iX s)=s.size:=rfl
def agn(n:Nat):Obj->Obj
 | .cells c elem (lo,hi)=>.cells c elem (if lo==hi then(n,n+1)else(min lo n,max hi (n+1)))
 |o=>o
theorem au.VA{P:Program}{h:f8}{b n:Nat}{c:Array eR}{e:TypeId}{K:Unit->f8->Prop}(d:h[b]?=dB (.cells c e (0,0)))(k:n=c.size)(g:∀h',(∀x,x≠b->h'[x]?=h[x]?)->h'.size=h.size->(∃f,h'[b]?=dB (.cells c e f))->K () h'):
  au P (freeze {block:=b,off:=n} 1) h K:=λw j=>by
 refine⟨(),w.freeze {block:=b,off:=n} 1,run_freeze P w _ _,⟨i0,i0,i0,qm _⟩,?_⟩;subst j;have a:(w.freeze {block:=b,off:=n} 1).heap=w.heap.modify b (agn n):=rfl;refine g _ (λx i=>?_) ?_ ?_
 ·rw[a,yn,g0 λe=>i e.symm]
 ·rw[a];simp
 ·rw[a,yn,f9 i0,d];exact⟨_,i0⟩
section
variable {C:Ctx} {ts:Nat}
theorem acx(k:C.Ok)(E:∃i,C.T.get ts=dB i/\i.cz=.str)(p:∃i,C.T.get t=dB i/\i.cz=.slice e)(y:∃i,C.T.get e=dB i/\i.cz=.int .u8)(s:ByteArray){K:Sl->f8->Prop}(H:∀r h',Sp h h' [kP r 1 aw (iX s)]->K r h'):
  bz C.P (convert ts t (.string s)) (.one (.sc .slc)) h K:=by
 obtain⟨L,u,A⟩:=E;obtain⟨I,q,v⟩:=p;obtain⟨i3,a3,G⟩:=y;have B:C.P.underlying ts=dB .string:=by have:=k.cz u;rw[A]at this;exact sG this
 have w:C.P.underlying t=dB (.slice e):=by have:=k.cz q;rw[v]at this;exact jo this
 have u3:C.P.underlying e=dB (.int .u8):=by have:=k.cz a3;rw[G]at this;exact Es this
 unfold bz convert;refine au.bind (au.always (aG B) ?_);refine au.bind (au.always (aG w) ?_);refine au.bind (au.always (aG u3) ?_);unfold Conv.stringToBytes;refine au.bind (au.IR ⟨λz=>(by cases z),λ_ o=>?_⟩);generalize d:Question.cut (Question.appendCap s.size 0 e) o=cc;have m:s.size<=cc:=by rw[<-d];simp only[Question.cut];omega
 unfold newRow;refine au.bind (au.bind (au.nQ (au.pure' ?_)));unfold markStringish;obtain⟨cs,a⟩:∃cs:Array eR,cs=s.data.map (λb=>Value.int .u8 b.toNat)++Array.replicate (cc-s.size) (Value.int .u8 0):=⟨_,rfl⟩
 rw[<-a];refine au.bind (au.bind (au.adC ?_));have j:shapeOf (h.push (.cells cs e)) h.size=dB (e,cs.size):=by unfold shapeOf;simp
 dsimp only;rw[j];refine au.VA (c:=cs) (e:=e) i9 i0 λh' F n g=>?_;refine au.pure' ⟨⟨dB ⟨h.size,0,ez⟩,s.size,cc⟩,i0,H _ _ ?_⟩;obtain⟨f,g⟩:=g;refine .one ⟨by rw[n];simp,λb J _=>by rw[F b i4,Array.getElem?_push,g0 i4]⟩ ?_;refine⟨by rw[AZ],λi x l=>⟨h.size,0,i0,⟨qm _,by rw[n];simp⟩,?_,trivial⟩⟩;rw[add_zero];have D:i<s.data.size:=by have:=(qj.1 l).1;simpa[iX]using this
 unfold f7;simp only[g,Nat.mul_one,zY,Option.isSome_none,zf,if_false];rw[a,Array.getElem?_append_left (by simpa using D),Array.getElem?_map];have:s.data[i]?=dB x:=by rw[<-l];simp[iX]
 rw[this];rfl
end
section
variable {C:Ctx} {l:aP}
theorem Lj(w:C.Ok)(F:bI C.toAi t e 1 z by_)(V:∃i,C.T.get t2=dB i/\i.cz=.str)(hz:ii z=1)(B:0<by_/\by_<=128)
  (v:Own h e s 1 aw l) (x:ByteArray) (Y:ii l+x.size<=2^32) {ty:Nat} {K:Sl->f8->Prop}
  (L:∀G h',Own h' e G 1 aw (l++iX x)->aN (λb=>¬s.on b) h h'->(∀b,G.on b->s.on b∨h.size<=b)->K G h'):
  bz C.P (zD #[t,t2] ty #[.slice s.ptr s.len s.cap,.string x]) (.one (.sc .slc)) h K:=by
 obtain⟨i2,O,g2⟩:=V;have J:C.P.underlying t2=dB .string:=by have:=w.cz O;rw[g2]at this;exact sG this
 obtain⟨H,u,x2,x3,Q,S,x5⟩:=F.info w;have k:∀y∈(iX x).flatMap aw,y.oneCell'=eH:=λy R=>by
  obtain⟨b,_,W⟩:=zM.1 R;exact gW b y W
 have g:((x.extract 0 x.size).data.map λb=>Value.int .u8 (b.toNat:Int))=((iX x).flatMap aw).toArray:=by
  have Z:x.extract 0 x.size=x:=by apply ByteArray.ext;simp[ByteArray.data_extract]
  rw[Z];apply yD;simp only[xg,iX];exact List.map_eq_flatMap
 unfold bz zD;simp only[zP,w8,qo];refine au.bind (au.always (aG (F.under w)) ?_);refine au.bind (au.always (F.size w) ?_);refine au.bind (au.always (aG J) ?_);refine au.bind (au.pure' ?_);simp only[zf,if_false,w4,if_true];refine au.bind (au.pure' ?_);have m:=v.len;have r:∀y,ii (aw y)=1:=λ_=>rfl;have j:=di r l;have a:=di r (iX x);have ab:=AZ x;have q:∀{h:f8} {K:Array eR->f8->Prop},K ((iX x).flatMap aw).toArray h->au C.P (wK 1 x.size (.string x)) h K:=λ{h K} hK=>by
  unfold wK;dsimp only;rw[g];exact au.pure' hK
 by_cases f:s.len+x.size<=s.cap
 ·rw[f9 f];refine au.bind (q ?_);rcases v.head with⟨p1,p2,p3⟩|⟨b,rest,p1,p2,p3,p4⟩
  ·rw[p1];have I:iX x=[]:=qX i4;refine au.pure' ⟨⟨ez,s.len+x.size,s.cap⟩,i0,L _ _ ⟨?_,.inl ⟨i0,p2,by simp[p3,I]⟩⟩ (aN.refl _ _) ?_⟩
   ·simp;omega
   ·rintro M ⟨o,d⟩;cases d
  ·rw[p1];refine au.bind ?_;rw[add_eq,zY];have D:ii ((iX x).flatMap aw)<=ii rest:=by rw[a,p3];omega
   refine ey (e:=e) (pre:=l.flatMap aw) (old:=rest.take ((iX x).flatMap aw).length) (post:=rest.drop ((iX x).flatMap aw).length) ?_ ?_ ?_ ?_ ?_
   ·rw[qn,qA];exact p2
   ·rw[qO];exact wi D
   ·rw[j,m];omega
   ·intro c hc;exact k c (by simpa using hc)
   ·refine au.pure' ⟨⟨dB ⟨b,0,ez⟩,s.len+x.size,s.cap⟩,i0,L _ _ ⟨?_,.inr ⟨b,rest.drop ((iX x).flatMap aw).length,i0,?_,?_,f⟩⟩ ?_ ?_⟩
    ·simp;omega
    ·rw[gV p2,f9 rfl];simp
    ·rw[za,p3,a];show(s.cap-s.len)*1-ii (iX x)*1=(s.cap-(s.len+x.size))*1;omega
    ·exact aN.iW p2 (λhn=>hn ⟨0,p1⟩)
    ·rintro M ⟨o,d⟩;cases d;exact .inl ⟨0,p1⟩
 ·rw[g0 f];have p:Seq h (λ_=>True) s 1 aw l:=v.seq r λ_ _=>trivial;have N:=v.cap;refine au.bind (au.always (cU u) ?_);rw[g0 λhh=>by rcases hh.2 with h|h<;>first|exact h|(rw[x3]at h;omega)];refine au.bind (au.always (cU u) ?_);have X:=Rv (s.len+x.size) s.cap;rw[g0 (by
   have:vx (s.len+x.size) s.cap*H.bytes<=(16*2^32+16*768)*128:=wx i4 (by rw[x3];exact B.2);omega)]
  refine au.bind (au.IR ⟨λhf=>(by cases hf),λ_ U=>?_⟩);refine au.bind (au.always (cU u) ?_);refine au.bind (au.FB ?_);refine au.bind (fM r p ?_);refine au.bind (q ?_);have E:aH C.P (zeroValue e) Q:=(cU u).bind (by rw[S];exact .pure);refine au.bind (au.always E ?_);rw[x5,CC];unfold newRow;refine au.bind (au.bind (au.nQ (au.pure' (au.pure' ?_))));generalize A:Question.cut (Question.appendCap (s.len+x.size) s.cap e) U=cc;have n:s.len+x.size<=cc:=by rw[<-A];simp only[Question.cut];omega
  refine⟨⟨dB ⟨h.size,0,ez⟩,s.len+x.size,cc⟩,i0,L _ _ ⟨?_,.inr ⟨h.size,iI z (cc-(s.len+x.size)),i0,?_,?_,n⟩⟩ (aN.push _ _ _) ?_⟩
  ·simp;omega
  ·simp
  ·rw[nG,hz]
  ·rintro M ⟨o,d⟩;cases d;exact .inr (qm _)
theorem aa.VB(w:C.Ok)(H:aa B h0 h As)(i:Nat)(A:As[i]?=dB (ae e s 1 aw l))(u:bI C.toAi t e 1 z by_)(p:∃i,C.T.get t2=dB i/\i.cz=.str)(r:ii z=1)(n:0<by_/\by_<=128)
  (x:ByteArray) (o:ii l+x.size<=2^32) {ty:Nat} {K:Sl->f8->Prop} (F:∀f h',aa B h0 h' (As.set i (ae e f 1 aw (l++iX x)))->K f h'):
  bz C.P (zD #[t,t2] ty #[.slice s.ptr s.len s.cap,.string x]) (.one (.sc .slc)) h K:=by
 obtain⟨v,E,c,y,a⟩:=H;have k:=a i _ A;refine Lj w u p r n k.1 x o λf h' d j g=>F f h' ?_;refine aa.AV v E y a (j.mono λb m q D=>q (k.2 b D)) ⟨d,λb m=>⟨d.lt m,?_⟩⟩;rcases g b m with h1|h1
 ·exact .inl (k.2 b h1)
 ·exact .inr h1
end
structure dm where
 name:ByteArray
 object:Int
 length:Int
 tries:aB
structure aA where
 seq:Int
 next:Int
 p:Int×Int×Int
 extra:Int
 drives:aB
 objs:List dm
def afK:dm:=⟨⟨#[]⟩,0,0,[]⟩
def oC(l:List dm)(i:Nat):dm:=l.getD i afK
theorem nK{l:List dm}{i:Nat}(h:i<ii l:=by omega):oC l i=l[i]:=by unfold oC;rw[qd,qc h];rfl
def fo(n a b:Int):Bool:=decide (a<=n)&&decide (n<=b)
def mu(c:UInt8):Bool:=(decide (97<=c.toNat)&&decide (c.toNat<=122))||(decide (48<=c.toNat)&&decide (c.toNat<=57))||decide (c.toNat=45)
def ly(s:ByteArray):Bool:=s.data.toList.all mu&&(decide (1<=s.size)&&decide (s.size<=12))
def fd(a b:ByteArray):Bool:=Op.bytesLess a.toList b.toList
def jD(l:aB)(most:Int)(i:Nat):Bool:=fo (l.getD i 0) 0 most&&(decide (i=0)||decide (l.getD (i-1) 0<l.getD i 0))
def oD(l:aB)(most:Int):Bool:=(qz l.length).all (jD l most)
def countP(p:Int×Int×Int)(n:Int):Int:=if bS p&&decide (0<n)then(n-1)/(p.1*p.2.2)+1 else 0
def gC(m:aA)(x:dm):Bool:=
 ly x.name&&(fo x.object 0 (m.next-1)&&(fo x.length 0 (m.p.1*m.p.2.2*8)&&(x.tries.all (fo · 0 15)&&decide ((x.tries.length:Int)=countP m.p x.length))))
def oE(m:aA)(i:Nat):Bool:=
 gC m (oC m.objs i)&&((decide (i=0)||fd (oC m.objs (i-1)).name (oC m.objs i).name)&&!(m.objs.take i).any λy=>decide (y.object=(oC m.objs i).object))
def kK(m:aA):Bool:=fo m.seq 1 2147483647&&(fo m.next 0 16777216&&(bS m.p&&fo m.extra 0 16))
def bs(m:aA):Bool:=kK m&&(oD m.drives 63&&(decide (ii m.objs<=12)&&(qz m.objs.length).all (oE m)))
theorem CN{p:Nat->Bool}{n i:Nat}(a:i<n)(h:p i=eL):(qz n).all p=eL:=List.all_eq_false.2 ⟨i,qC.2 a,by rw[h];simp⟩
theorem rF{p:Nat->Bool}{n:Nat}(h:∀i,i<n->p i=eH):(qz n).all p=eH:=qY.2 λi a=>h i (qC.1 a)
def ce(n:Int)(k:Nat):aP:=(qz k).map λi=>b8 (zG n (2^(8*(k-1-i))))
theorem cD(n:Int)(k:Nat):ii (ce n k)=k:=by simp[ce]
def fI(x:dm):aP:=b8 x.name.size::(x.name.data.toList++(ce x.object 3++(ce x.length 2++x.tries.map b8)))
def bJ(m:aA):aP:=
 if bs m then ce m.seq 4++(ce m.next 4++([b8 m.p.1,b8 m.p.2.1,b8 m.p.2.2,b8 m.extra,b8 m.drives.length]++(m.drives.map b8++(b8 m.objs.length::m.objs.flatMap fI))))else[]
def jT(seq a c:Int)(b:aP):aP:=dW 2 (ce seq 4++([b8 a,b8 c,b8 b.length]++b))
def dg(b:aP):Nat:=(ii b+47)/48
def aO(m:aA):bO:=(qz (dg (bJ m))).map λi:Nat=>jT m.seq i (dg (bJ m)) (((bJ m).drop (48*i)).take 48)
theorem VC{m:aA}(h:bs m=eH):kK m=eH:=by unfold bs at h;simp at h;exact h.1
theorem ML{m:aA}(h:kK m=eH):(1<=m.seq/\m.seq<=2147483647)/\(0<=m.next/\m.next<=16777216)/\bS m.p=eH/\0<=m.extra/\m.extra<=16:=by unfold kK fo at h;simpa[and_assoc]using h
theorem sa{m:aA}{c:aP}(h:c∈aO m):ii c=64:=by unfold aO at h;obtain⟨i,_,rfl⟩:=qx.1 h;exact lU i5 i5 m0
structure dG where
 object:Int
 block:Int
 id:Int
 p:Int×Int×Int
 seed:Int
 data:aP
theorem tm(n:Int):((b8 n).toNat:Int)=n%256:=by have h0:=yj n (show(256:Int)≠0 by decide);have a:=wN n (show(0:Int)<256 by decide);unfold b8;rw[UInt8.toNat_ofNat'];omega
def jR(r:dG):Bool:=(fo r.object 0 16777215&&(fo r.block 0 7&&ct r.id))&&(bS r.p&&decide ((r.data.length:Int)=r.p.2.2))
def Ba(r:dG):aP:=ce r.object 3++(ce r.block 1++(ce r.id 2++([b8 r.p.1,b8 r.p.2.1,b8 r.p.2.2]++(ce r.seed 4++r.data))))
def dl(r:dG):aP:=if jR r then dW 1 (Ba r)else[]
def dO(l:aP):Int:=l.foldl (λn x=>n*256+x.toNat) 0
def eV(c:aP):Option (Int×aP):=
 if c.length=64/\dW ((c.getD 3 0).toNat:Int) ((c.drop 4).take 55)=c then dB (((c.getD 3 0).toNat:Int),(c.drop 4).take 55)else ez
def Bb(x:aP):dG:=
 ⟨dO (x.take 3),dO ((x.drop 3).take 1),dO ((x.drop 4).take 2),(dO ((x.drop 6).take 1),dO ((x.drop 7).take 1),dO ((x.drop 8).take 1)),dO ((x.drop 9).take 4),(x.drop 13).take (dO ((x.drop 8).take 1)).toNat⟩
def dP(c:aP):Option dG:=
 match eV c with
 |some (k,x)=>if k=1/\bS (Bb x).p=eH/\dl (Bb x)=c then dB (Bb x)else ez
 |none=>ez
theorem Hk(n:Int):ce n 4=[b8 (zG n (2^24)),b8 (zG n (2^16)),b8 (zG n (2^8)),b8 n]:=by simp[ce,zV]
theorem fdiv_pow(n:Int)(k:Nat):zG n (2^k)=n/(2^k):=wO _ (Int.pow_nonneg i5)
theorem VD{n:Int}(b:0<=n)(a:n<4294967296):dO (ce n 4)=n:=by rw[Hk,fdiv_pow,fdiv_pow,fdiv_pow];simp only[dO,zx,List.foldl_nil,tm];omega
theorem nL(r:dG):jR r=eH↔(0<=r.object/\r.object<=16777215)/\(0<=r.block/\r.block<=7)/\(0<=r.id/\r.id<=65535)/\bS r.p=eH/\(r.data.length:Int)=r.p.2.2:=by unfold jR fo ct;simp[and_assoc]
theorem rh{r:dG}(h:jR r=eH):ii (Ba r)=13+ii r.data/\r.data.length<=24:=by obtain⟨_,_,_,a,b⟩:=(nL r).1 h;have:=(cg r.p).1 a;refine⟨by unfold Ba;simp[cD];omega,i4⟩
theorem MM{r:dG}(h:jR r=eH):ii (dl r)=64:=by have:=rh h;unfold dl;rw[f9 h];exact lU i5 i5 i4
theorem CO{k:Int}{a:aP}(c:1<=k:=by decide)(b:k<=255:=by decide)(h3:ii a<=55:=by omega):eV (dW k a)=dB (k,a++qi (55-ii a) 0):=by
 obtain⟨x,d⟩:∃x,x=a++qi (55-ii a) 0:=⟨_,rfl⟩
 have e:ii x=55:=by rw[d];simp;omega
 have f:dW k a=[87,115,1,b8 k]++(x++(kT (lM (dJ k a))++[165])):=by unfold dW;rw[f9 ⟨c,b,h3⟩];unfold dJ;rw[d];simp[qn]
 have j:((dW k a).getD 3 0)=b8 k:=by rw[f];rfl
 have e2:((dW k a).drop 4).take 55=x:=by rw[f];have:([87,115,1,b8 k]++(x++(kT (lM (dJ k a))++[165]))).drop 4=x++(kT (lM (dJ k a))++[165]):=rfl;rw[this,List.take_append_of_le_length i4,qg i4]
 have h:((b8 k).toNat:Int)=k:=by rw[tm];omega
 have i:dJ k x=dJ k a:=by unfold dJ;rw[e,d];simp[qn]
 have g:dW k x=dW k a:=by unfold dW;rw[f9 ⟨c,b,i4⟩,f9 ⟨c,b,h3⟩,i]
 unfold eV;rw[j,e2,h,f9 ⟨lU c b h3,g⟩,d]
theorem Th{c:aP}{r:dG}(h:dP c=dB r):dl r=c/\jR r=eH/\bS r.p=eH:=by
 unfold dP at h;cases hc:eV c with
 |none=>rw[hc]at h;cases h
 |some kx=>
  rw[hc]at h;dsimp only at h;by_cases a:kx.1=1/\bS (Bb kx.2).p=eH/\dl (Bb kx.2)=c
  ·rw[f9 a]at h;injection h with h
   subst h;refine⟨a.2.2,?_,a.2.1⟩;by_cases d:jR (Bb kx.2)=eH
   ·exact d
   ·exfalso;have b:=a.2.2;unfold dl at b;rw[g0 d]at b;unfold eV at hc;rw[<-b]at hc;simp at hc
  ·rw[g0 a]at h;cases h
section
variable {C:Ctx} {ts:Nat}
theorem Fe:∀(l:aP) (b:ByteArray),l.foldl ByteArray.push b=⟨(b.data.toList++l).toArray⟩
 |[],b=>i9
 |x::l,b=>by
  rw[zx,Fe l (b.push x)];simp[ByteArray.push]
theorem EE(q:C.Ok)(z:∃i,C.T.get t=dB i/\i.cz=.slice e)(I:∃i,C.T.get ts=dB i/\i.cz=.str)(F:∃i,C.T.get e=dB i/\i.cz=.int .u8){s:Sl}{l:aP}{p:av}(u:Seq h p s 1 aw l){K:ByteArray->f8->Prop}(y:K ⟨l.toArray⟩ h):
  bz C.P (convert t ts (.slice s.ptr s.len s.cap)) (.one (.sc .str)) h K:=by
 obtain⟨N,B,G⟩:=I;obtain⟨M,A,D⟩:=z;obtain⟨i3,a3,J⟩:=F;have L:C.P.underlying ts=dB .string:=by have:=q.cz B;rw[G]at this;exact sG this
 have E:C.P.underlying t=dB (.slice e):=by have:=q.cz A;rw[D]at this;exact jo this
 have u3:C.P.underlying e=dB (.int .u8):=by have:=q.cz a3;rw[J]at this;exact Es this
 unfold bz convert;refine au.bind (au.always (aG E) ?_);refine au.bind (au.always (aG L) ?_);refine au.bind (au.always (aG u3) ?_);unfold Conv.bytesToString;have g:=fM (P:=C.P) (f:=aw) (k:=1) (K:=λcs h'=>cs=(l.flatMap aw).toArray/\h'=h) (λ_=>rfl) u ⟨i0,i0⟩;cases hp:s.ptr with
 |none=>
  have:l=[]:=by
   cases l with
   |nil=>rfl
   |cons x r=>obtain⟨b,o,w,_⟩:=u.elem 0 x i9;rw[hp]at w;cases w
  subst this;exact au.pure' ⟨⟨#[]⟩,i0,y⟩
 |some a=>
  rw[hp]at g;dsimp only;have d:au C.P (loadCells a s.len) h λcs h'=>cs=(l.flatMap aw).toArray/\h'=h:=by
   have:wK 1 s.len (.slice (dB a) s.len s.cap)=loadCells a s.len:=by unfold wK;simp
   rw[<-this];exact g
  refine au.bind (d.mono ?_);rintro _ _ ⟨rfl,rfl⟩;have j:∀(l:aP) (b:ByteArray),aH C.P (forIn (m:=Sem) (l.flatMap aw) b λc r=>match c with
    |xG xN n=>do pure (ForInStep.yield (r.push (yK n.toNat)))
    |_=>do let r<-stuck "bytesToString: byte expected";pure r) (l.foldl ByteArray.push b):=λl=>by
   induction l with
   |nil=>intro b;exact .pure
   |cons x l ih=>
    intro b;have H:(x::l).flatMap aw=Value.int .u8 x.toNat::l.flatMap aw:=rfl;rw[H,List.forIn_cons];have e2:b.push (yK ((x.toNat:Int)).toNat)=b.push x:=by rw[qk];congr 1;apply wy.1;simp
    refine aH.bind (v:=ForInStep.yield (b.push x)) (by dsimp only;rw[e2];exact .pure) ?_;exact ih _
  refine au.bind (au.always (v:=l.foldl ByteArray.push ByteArray.empty) ?_ ?_)
  ·rw[List.forIn_toArray];exact j l _
  ·refine au.pure' ⟨_,i0,?_⟩;rw[Fe];exact y
end
section
variable (le:α->α->Bool)
def iJ(a b:α):Bool:=le a b&&le b a
def cb(l a:List α):Prop:=∀x,l.filter (iJ le x)=a.filter (iJ le x)
def Sd(l:List α):Prop:=l.Pairwise λa b=>le a b=eH
structure Ord:Prop where
 trans:∀a b c,le a b=eH->le b c=eH->le a c=eH
 total:∀a b,(le a b||le b a)=eH
variable {le}
theorem Ord.An(o:Ord le){a b:α}(h:¬le a b=eH):le b a=eH:=by
 have:=o.total a b;cases h1:le a b with
 |true=>exact absurd h1 h
 |false=>rw[h1]at this;simpa using this
theorem Ord.refl(o:Ord le)(a:α):le a a=eH:=by have:=o.total a a;simpa using this
theorem cb.refl(l:List α):cb le l l:=λ_=>rfl
theorem cb.trans{l1 l2 a:List α}(h:cb le l1 l2)(k:cb le l2 a):cb le l1 a:=λx=>(h x).trans (k x)
theorem cb.symm{l1 l2:List α}(h:cb le l1 l2):cb le l2 l1:=λx=>(h x).symm
theorem cb.app{a b c d:List α}(h:cb le a b)(k:cb le c d):cb le (a++c) (b++d):=λx=>by
 rw[zl,zl,h x,k x]
theorem cb.mem(o:Ord le){l a:List α}(h:cb le l a){y:α}(c:y∈a):y∈l:=by have b:y∈a.filter (iJ le y):=qI.2 ⟨c,m8⟩;rw[<-h y]at b;exact(qI.1 b).1
theorem cb.RC(o:Ord le){u v:List α}(h:∀x∈u,∀y∈v,¬le x y=eH):cb le (u++v) (v++u):=λz=>by
 rw[zl,zl];by_cases f:u.filter (iJ le z)=[]
 ·rw[f];simp
 ·by_cases e:v.filter (iJ le z)=[]
  ·rw[e];simp
  ·exfalso;obtain⟨x,g⟩:=List.exists_mem_of_ne_nil _ f;obtain⟨y,i⟩:=List.exists_mem_of_ne_nil _ e;obtain⟨c,b⟩:=qI.1 g;obtain⟨d,a⟩:=qI.1 i;unfold iJ at b a;simp only[qw]at b a;exact h x c y d (o.trans _ _ _ b.2 a.1)
theorem cb.MN(o:Ord le){l:List α}(h:cb le [] l):l=[]:=by
 cases l with
 |nil=>rfl
 |cons a l=>exact absurd (cb.mem o h (qP ..)) i9
theorem Kd(o:Ord le):∀(l c:List α),Sd le l->Sd le c->cb le l c->l=c
 |[],c,_,_,h=>(cb.MN o h).symm
 |a::l,[],_,_,h=>absurd (cb.MN o h.symm) i9
 |a::l,b::c,s,s',h=>by
  have d:a=b:=by
   have g:le a b=eH:=by
    have:=cb.mem o h (y:=b) (qP ..);rcases qV.1 this with e|e
    ·rw[e];exact o.refl _
    ·exact(zH.1 s).1 _ e
   have f:le b a=eH:=by
    have:=cb.mem o h.symm (y:=a) (qP ..);rcases qV.1 this with e|e
    ·rw[e];exact o.refl _
    ·exact(zH.1 s').1 _ e
   have h3:=h a;have i:iJ le a a=eH:=m8
   have e2:iJ le a b=eH:=by unfold iJ;rw[g,f];rfl
   rw[vh i,vh e2]at h3;injection h3
  subst d;rw[Kd o l c (zH.1 s).2 (zH.1 s').2 λx=>by
   have h3:=h x;rw[zq,zq]at h3;split at h3
   ·injection h3
   ·exact h3]
theorem CQ(o:Ord le)(l:List α):Sd le (l.mergeSort le)/\cb le l (l.mergeSort le):=by
 refine⟨yA o.trans o.total l,λx=>?_⟩;have f:(l.filter (iJ le x)).Pairwise λa b=>le a b=eH:=by rw[List.pairwise_filter];refine List.Pairwise.imp ?_ (List.pairwise_of_forall (l:=l) (R:=λ_ _=>True) λ_ _=>trivial);intro a b _ e d;unfold iJ at e d;simp only[qw]at e d;exact o.trans _ _ _ e.2 d.1
 have g:=List.sublist_mergeSort o.trans o.total f List.filter_sublist;have c:=g.filter (iJ le x);rw[List.filter_filter]at c;simp only[Bool.and_self]at c;exact c.eq_of_length ((wX l le).symm.filter _).length_eq
theorem LL(o:Ord le){l a:List α}(s:Sd le a)(h:cb le l a):a=l.mergeSort le:=by obtain⟨c,b⟩:=CQ o l;exact Kd o _ _ s c (h.symm.trans b)
theorem Sd.app(o:Ord le){u v:List α}(b:Sd le u)(a:Sd le v)(h:∀x∈u,∀y∈v,le x y=eH):Sd le (u++v):=ya.2 ⟨b,a,h⟩
theorem Sd.left{u v:List α}(h:Sd le (u++v)):Sd le u:=(ya.1 h).1
theorem Sd.right{u v:List α}(h:Sd le (u++v)):Sd le v:=(ya.1 h).2.1
theorem Sd.uz{u v:List α}(h:Sd le (u++v)):∀x∈u,∀y∈v,le x y=eH:=(ya.1 h).2.2
theorem Sd.at_(o:Ord le){l:List α}(h:Sd le l){i j:Nat}(b:i<=j)(a:j<ii l):le (l[i]'(by omega)) l[j]=eH:=by
 by_cases e:i=j
 ·subst e;exact o.refl _
 ·exact zp.1 h i j i4 a i4
theorem VE(o:Ord le){l1 l2 b a g f:List α}(l:Sd le (l1++l2))(m:Sd le (b++a))(h:∀x∈l1,∀y∈a,le x y=eH)(e:∀x∈l2,∀y∈b,¬le x y=eH)
  (j:cb le (l1++b) g) (k:Sd le g) (i:cb le (l2++a) f) (n:Sd le f):Sd le (g++f)/\cb le ((l1++l2)++(b++a)) (g++f):=by
 constructor
 ·refine Sd.app o k n λx c y d=>?_;rcases qy.1 (cb.mem o j c)with c|c<;>rcases qy.1 (cb.mem o i d)with d|d
  ·exact l.uz x c y d
  ·exact h x c y d
  ·exact o.An (e y d x c)
  ·exact m.uz x c y d
 ·have p:cb le ((l1++l2)++(b++a)) ((l1++b)++(l2++a)):=by rw[show(l1++l2)++(b++a)=l1++((l2++b)++a)by simp,show(l1++b)++(l2++a)=l1++((b++l2)++a)by simp];exact(cb.refl _).app ((cb.RC o e).app (cb.refl _))
  exact p.trans (j.app i)
end
variable {le:α->α->Bool}
theorem sJ(o:Ord le):∀{l j:List α},cb le l j->ii l=ii j
 |[],j,h=>by rw[cb.MN o h]
 |a::l,j,h=>by
  have w:=cb.mem o h.symm (y:=a) (qP ..);obtain⟨u,v,p⟩:=List.append_of_mem w;have r:∃(u:List α) (b:α) (v:List α),j=u++b::v/\(∀x∈u,iJ le a x=eL)/\iJ le a b=eH:=by
   have m:j.filter (iJ le a)≠[]:=λE=>by
    have:a∈j.filter (iJ le a):=qI.2 ⟨w,m8⟩;rw[E]at this;cases this
   clear p u v w h
   induction j with
   |nil=>exact absurd i0 m
   |cons c j ih=>
    by_cases z:iJ le a c=eH
    ·exact⟨[],c,j,i0,i9,z⟩
    ·rw[List.filter_cons_of_neg z]at m;obtain⟨u,b,v,e,f,g⟩:=ih m;refine⟨c::u,b,v,o0,λx i=>?_,g⟩;rcases qV.1 i with rfl|i
     ·simpa using z
     ·exact f x i
  obtain⟨u,b,v,rfl,A,D⟩:=r;have F:iJ le a a=eH:=m8
  have n:=h a;have t:u.filter (iJ le a)=[]:=wU.2 λx i=>by rw[A x i];simp
  rw[vh F,zl,t,zW,vh D]at n;have s:a=b:=by injection n
  subst s;have B:cb le l (u++v):=λx=>by
   have i:=h x;rw[zq,zl,zq]at i;rw[zl];by_cases d:iJ le x a=eH
   ·rw[f9 d,f9 d]at i;have q:u.filter (iJ le x)=[]:=wU.2 λy G k=>by
     have:=A y G;unfold iJ at this d k;simp only[qw]at d k;rw[o.trans _ _ _ d.2 k.1,o.trans _ _ _ k.2 d.1]at this;cases this
    rw[q,zW]at i⊢;injection i
   ·rw[g0 d,g0 d]at i;exact i
  rw[zh,sJ o B];simp;omega
theorem Hl{P:Program}{id:FuncId}(J:∀(i off cap:Nat) (j:aB) (w:World),Sort.Holds (Value.int .i64) w i off j.toArray->ii j<=9223372036854775807->ii j<=cap->
   Calls P id #[.slice (dB ⟨i,off,ez⟩) j.length cap] w λe t=>e=.returned (.slice (dB ⟨i,off,ez⟩) (Lib.compact j).length cap)/\∃q,t=Sort.putRow (Value.int .i64) (Sort.ahead w q) i off (Lib.compact j++qi (ii j-ii (Lib.compact j)) 0).toArray)
  (H:∀(a:bZ) (cap:Nat) (w:World),Calls P id #[.slice a 0 cap] w λe t=>e=.returned (.slice a 0 cap)/\t=w)
  {e:TypeId} {s:Sl} {l:aB} {h:f8} (y:Own h e s 1 ak l) (G:ii l<2^40):
  an P id #[.slice s.ptr s.len s.cap] h λv h'=>v=.slice s.ptr (Lib.compact l).length s.cap/\Own h' e ⟨s.ptr,ii (Lib.compact l),s.cap⟩ 1 ak (Lib.compact l)/\aN (λb=>¬s.on b) h h':=by
 intro w p;have f:=y.len;have B:=y.cap;rcases y.head with⟨h1,h2,h3⟩|⟨b,rest,h1,h2,h3,h4⟩
 ·subst h3;have A:Lib.compact ([]:aB)=[]:=rfl;rw[f,h1];refine(H ez s.cap w).mono ?_;rintro E t ⟨rfl,rfl⟩;refine⟨_,i0,de.refl _,by rw[A];rfl,by rw[A];exact⟨i0,.inl ⟨i0,by simpa using h2,i0⟩⟩,by rw[<-p];exact aN.refl _ _⟩
 ·rw[h1,f];have x:w.heap[b]?=dB (.cells (l.flatMap ak++rest).toArray e (0,0)):=by rw[p];exact h2
  refine(J b 0 s.cap l w (Kb x) i4 i4).mono ?_;rintro E t ⟨rfl,n,rfl⟩;have r:=lt_of_block x;have I:=Lib.compact_length_le l;obtain⟨m,g⟩:∃m,m=Lib.compact l++qi (ii l-ii (Lib.compact l)) 0:=⟨_,rfl⟩
  rw[<-g];have u:ii m=ii l:=by rw[g];simp;omega
  have d:∀k,k<h.size->(Sort.putRow (Value.int .i64) (Sort.ahead w n) b 0 m.toArray).heap[k]?=if b=k then dB (.cells (m.flatMap ak++rest).toArray e (0,0))else h[k]?:=by
   intro k D;simp only[Sort.putRow,Sort.mapBlock,Sort.ahead,yn];by_cases c:b=k
   ·subst c;rw[f9 i0,f9 i0,x,qQ,Sort.onCells,ME _ _ _ u]
   ·rw[g0 c,g0 c,p]
  rw[p]at r;have z:Own (Sort.putRow (Value.int .i64) (Sort.ahead w n) b 0 m.toArray).heap e s 1 ak m:=⟨by rw[u];exact f,.inr ⟨b,rest,h1,by rw[d b r,f9 rfl],h3,h4⟩⟩
  have o:=z.cut (λ_=>rfl) (Lib.compact l).length i4;rw[g,List.take_left]at o;refine⟨_,i0,⟨i0,i0,i0,by simp[Sort.putRow,Sort.mapBlock,Sort.ahead]⟩,i0,by rw[h1]at o;rw[g];exact o,by simp[Sort.putRow,Sort.mapBlock,Sort.ahead,p],?_⟩;intro k D F;rw[d k D,g0 λc=>F ⟨0,by rw[h1,c]⟩]
theorem tq(a:aB)(u:a.Pairwise (·<=·)):∀m,m<=ii a->(Lib.compactUpTo a.toArray m).Pairwise (·<·)/\(∀x,x∈Lib.compactUpTo a.toArray m↔∃j,j<m/\a[j]?=dB x)
 |0,_=>⟨by simp[Lib.compactUpTo],λx=>by simp[Lib.compactUpTo]⟩
 |m+1,hm=>by
  obtain⟨v,q⟩:=tq a u m i4;have c:m<ii a:=i4
  have r:a.toArray[m]! =a[m]:=n7
  rw[Lib.compactUpTo_succ,r];have s:∀j (f:j<m),a[j]'(by omega)<=a[m]:=λj f=>zp.1 u j m i4 c f;by_cases i:Lib.keeps a.toArray m=eH
  ·rw[f9 i];have p:m=0∨a[m-1]'(by omega)<a[m]:=by
    by_cases l:m=0
    ·exact .inl l
    ·right;have h:a.toArray[m-1]! =a[m-1]'(by omega):=by simp[show m-1<ii a by omega]
     have z:a[m]≠a[m-1]'(by omega):=λn=>by
      have:=Lib.keeps_neg (d:=a.toArray) (m:=m) i4 (by rw[r,h];exact n);rw[this]at i;cases i
     have:=s (m-1) i4;omega
   have k:∀x∈Lib.compactUpTo a.toArray m,x<a[m]:=λx o=>by
    obtain⟨j,f,g⟩:=(q x).1 o;rw[qc i4]at g;injection g with g
    rcases p with h0|h0
    ·omega
    ·have h3:a[j]'(by omega)<=a[m-1]'(by omega):=by
      by_cases b:j=m-1
      ·subst b;exact Int.le_refl _
      ·exact zp.1 u j (m-1) i4 i4 i4
     omega
   refine⟨ya.2 ⟨v,i9,λx o y w=>?_⟩,λx=>?_⟩
   ·rw[qp.1 w];exact k x o
   ·rw[qy,q,qp];constructor
    ·rintro(⟨j,f,e⟩|rfl)
     ·exact⟨j,i4,e⟩
     ·exact⟨m,i4,qc c⟩
    ·rintro⟨j,f,e⟩;by_cases b:j=m
     ·subst b;rw[qc c]at e;injection e with e;exact .inr e.symm
     ·exact .inl ⟨j,i4,e⟩
  ·rw[g0 i,qF];have l:m≠0:=λh0=>i (by subst h0;exact Lib.keeps_lt_one _ 0 i4);have t:a[m]=a[m-1]'(by omega):=by
    by_cases n:a[m]=a[m-1]'(by omega)
    ·exact n
    ·have h:a.toArray[m-1]! =a[m-1]'(by omega):=by simp[show m-1<ii a by omega]
     exact absurd (Lib.keeps_pos (d:=a.toArray) (m:=m) (by rw[r,h];exact n)) i
   refine⟨v,λx=>?_⟩;rw[q];constructor
   ·rintro⟨j,f,e⟩;exact⟨j,i4,e⟩
   ·rintro⟨j,f,e⟩;by_cases b:j=m
    ·subst b;refine⟨j-1,i4,?_⟩;rw[qc c]at e;rw[qc i4,<-t];exact e
    ·exact⟨j,i4,e⟩
theorem CR(l:aB):(iu l).Pairwise (·<=·):=by have:=yA (le:=λx y:Int=>decide (x<=y)) (by intro a b c e d;simp at e d⊢;omega) (by intro a b;simp;omega) l;exact this.imp λh=>j7
theorem Ti(l:aB)(h:∀x∈l,0<=x/\x<64):Lib.compact (iu l)=dw l:=by
 obtain⟨d,c⟩:=tq (iu l) (CR l) (iu l).length (qm _);have m:∀x,x∈Lib.compact (iu l)↔x∈l:=λx=>by
  unfold Lib.compact;rw[c,<-uv l x,List.mem_iff_getElem?];constructor
  ·rintro⟨j,_,e⟩;exact⟨j,e⟩
  ·rintro⟨j,e⟩;exact⟨j,(qj.1 e).1,e⟩
 have g:(dw l).Pairwise (·<·):=by unfold dw;refine List.Pairwise.filter _ ?_;rw[List.pairwise_map];exact List.pairwise_lt_range.imp λh=>i4
 have f:∀x,x∈dw l↔x∈l:=λx=>by
  unfold dw;rw[qI,qx];constructor
  ·rintro⟨_,c⟩;simpa using c
  ·intro i;obtain⟨a,b⟩:=h x i;exact⟨⟨x.toNat,qC.2 i4,i4⟩,by simpa using i⟩
 have k:(Lib.compact (iu l)).Perm (dw l):=(List.perm_ext_iff_of_nodup (d.imp λh=>i4) (g.imp λh=>i4)).2 λx=>(m x).trans (f x).symm;exact k.eq_of_pairwise (le:=(·<·)) (λa b _ _ d c=>i4) d g
def iG(o b t:Int):Int:=(128*o+16*b+t)%4294967296
def ij(m:aA)(r:dG):Bool:=jR r&&(decide (r.p=m.p)&&m.objs.any λx=>decide (x.object=r.object)&&(decide (r.block<(x.tries.length:Int))&&decide (r.seed=iG r.object r.block (x.tries.getD r.block.toNat 0))))
def mv(a b:dG):Bool:=decide (a.object<b.object∨(a.object=b.object/\(a.block<b.block∨(a.block=b.block/\a.id<=b.id))))
def oF(a b:dG):Bool:=decide (a.object=b.object/\a.block=b.block/\a.id=b.id)
def uA:dG:=⟨0,0,0,(0,0,0),0,[]⟩
def se(l:List dG)(k:Nat):Bool:=decide (k=0)||!oF (l.getD k uA) (l.getD (k-1) uA)
def rG(l:List dG):List dG:=((qz l.length).filter (se l)).map λi=>l.getD i uA
def gY(m:aA)(c:aP):Option dG:=match dP c with|some r=>if ij m r then dB r else ez|none=>ez
def fO(m:aA)(l:bO):List dG:=rG ((l.filterMap (gY m)).mergeSort mv)
theorem MO:Ord mv:=⟨λa b c e d=>by
 unfold mv at*;rw[decide_eq_true_eq]at*;omega,λa b=>by
 unfold mv;rw[zU,decide_eq_true_eq,decide_eq_true_eq];omega⟩
theorem Tj(m:aA)(l:bO)(i:Nat)(a:i<ii l):(l.take (i+1)).filterMap (gY m)=(l.take i).filterMap (gY m)++(gY m l[i]).toList:=by
 have:l.take (i+1)=l.take i++[l[i]]:=by rw[List.take_add_one,qc a];rfl
 rw[this,List.filterMap_append];cases hg:gY m l[i]with
 |none=>simp[hg]
 |some r=>simp[hg]
section
variable {C:Ctx}
theorem BY(z:aR)(n:Nat):(yz z.toArray n).toList.length=n*ii z:=by simp[yz]
theorem Lk{z:aR}(d:∀v∈z,v.oneCell'=eH)(n:Nat):∀v∈(yz z.toArray n).toList,v.oneCell'=eH:=by
 intro v c;simp only[yz,xg,qx,Array.mem_toList_iff,Array.mem_range]at c;obtain⟨i,a,rfl⟩:=c;simp only[wZ]at a⊢;have h0:0<ii z:=by
  rcases Nat.eq_zero_or_pos z.length with h|h
  ·rw[h]at a;simp at a
  ·exact h
 have b:=vw i h0;rw[getElem!_pos z.toArray _ k9];exact d _ i9
theorem Own.nV(B:C.Ok)(o:Own h e s k f l)(A:bI C.toAi t e k z by_)(i:∀x,ii (f x)=k)(y:ii z=k)(d:∀v∈z,v.oneCell'=eH)(j:Nat)(w:j<=ii l){ty:Nat}{K:f8->Prop}
  (r:∀h',Own h' e ⟨s.ptr,j,s.cap⟩ k f (l.take j)->aN (λb=>¬s.on b) h h'->K h'):
  au C.P (vS #[t] ty #[.slice (if s.cap=j then s.ptr else s.ptr.map (·.add (j*k))) (s.len-j) (s.cap-j)]) h λ_ h'=>K h':=by
 have Q:=o.len;have c:=o.cut i j w;unfold vS;refine au.bind (au.always (aG (A.under B)) ?_);by_cases g:j=ii l
 ·have F:s.len-j=0:=i4
  rw[F];generalize (if s.cap=j then s.ptr else s.ptr.map (·.add (j*k)))=q;cases q with
  |none=>exact au.pure' (r h c (aN.refl _ _))
  |some a=>exact au.pure' (r h c (aN.refl _ _))
 ·rcases o.head with⟨h1,h2,h3⟩|⟨b,rest,h1,h2,h3,h4⟩
  ·subst h3;simp at w g;omega
  ·have p:s.cap≠j:=i4
   rw[g0 p,h1];obtain⟨m,H⟩:∃m,s.len-j=m+1:=⟨s.len-j-1,i4⟩
   rw[H];obtain⟨O,R,N,U,M,S,E,T⟩:=A.ex;obtain⟨D,I,G⟩:=pM B.toOk M;refine au.bind (au.always I ?_);have u:D.cells=z.toArray:=by apply yD;rw[G,E]
   rw[u];refine au.bind ?_;have L:((⟨b,0,ez⟩:eX).add (j*k))=⟨b,j*k,ez⟩:=by simp[add_eq]
   show au C.P (storeCells ((⟨b,0,ez⟩:eX).add (j*k)) (yz z.toArray (m+1)).toList) h _;rw[L];have n:ii (l.drop j)=m+1:=i7
   refine ey (e:=e) (pre:=(l.take j).flatMap f) (old:=(l.drop j).flatMap f) (post:=rest) ?_ ?_ ?_ (Lk d _) ?_
   ·rw[<-qZ,qA];exact h2
   ·rw[di i,n,BY,y]
   ·rw[di i,qO,wi i4];omega
   ·refine au.pure' (r _ ⟨i7,.inr ⟨b,(yz z.toArray (m+1)).toList++rest,h1,?_,?_,i6⟩⟩ ?_)
    ·rw[gV h2,f9 rfl];simp
    ·rw[qt,BY,y,h3,<-Nat.add_mul];dsimp only;congr 1;omega
    ·exact aN.iW h2 λJ=>J ⟨0,h1⟩
theorem aa.nV(u:C.Ok)(H:aa B h0 h As)(i:Nat)(m:As[i]?=dB (ae e s k f l))(r:bI C.toAi t e k z by_)(n:∀x,ii (f x)=k)(p:ii z=k)(a:∀v∈z,v.oneCell'=eH)(j:Nat)(o:j<=ii l){ty:Nat}{K:f8->Prop}
  (w:∀h',aa B h0 h' (As.set i (ae e ⟨s.ptr,j,s.cap⟩ k f (l.take j)))->K h'):
  au C.P (vS #[t] ty #[.slice (if s.cap=j then s.ptr else s.ptr.map (·.add (j*k))) (s.len-j) (s.cap-j)]) h λ_ h'=>K h':=
 (H.own i m).nV u r n p a j o λh' x y=>w h' (H.step i m λq g _=>⟨y.mono λb _ c d=>c (g.2 b d),x,λb c=>⟨x.lt c,.inl (g.2 b c)⟩⟩)
end
theorem LM:∀x y:aP,(Op.bytesLess x y||x==y)=!Op.bytesLess y x
 |[],[]=>rfl
 |[],_::_=>rfl
 |_::_,[]=>by simp[Op.bytesLess]
 |a::x,b::y=>by
  have f:=LM x y;have e:a<b∨a=b∨b<a:=by
   rcases y9 a.toNat b.toNat with h|h|h
   ·exact .inl (zZ.2 h)
   ·exact .inr (.inl (wy.1 h))
   ·exact .inr (.inr (zZ.2 h))
  rcases e with h|rfl|h
  ·have c:¬b<a:=λh'=>by have:=zZ.1 h;have:=zZ.1 h';omega
   have d:b≠a:=λh'=>by subst h';exact c h
   simp[Op.bytesLess,h,c,d]
  ·have c:¬a<a:=λh'=>by have:=zZ.1 h';omega
   simp only[Op.bytesLess,c,decide_false,Bool.false_or,beq_self_eq_true,yd];rw[<-f];congr 1;simp
  ·have c:¬a<b:=λh'=>by have:=zZ.1 h;have:=zZ.1 h';omega
   have d:a≠b:=λh'=>by subst h';exact c h
   simp[Op.bytesLess,h,c,d]
theorem EF:∀x y z:aP,Op.bytesLess x y=eH->Op.bytesLess y z=eH->Op.bytesLess x z=eH
 |x,[],_,h1,_=>by cases x<;>simp[Op.bytesLess]at h1
 |_,b::y,[],_,h2=>by simp[Op.bytesLess]at h2
 |[],_::_,_::_,_,_=>rfl
 |a::x,b::y,c::z,h1,h2=>by
  simp only[Op.bytesLess,zU,decide_eq_true_eq,qw,beq_iff_eq]at h1 h2⊢;rcases h1 with h1|⟨rfl,h1⟩
  ·rcases h2 with h2|⟨rfl,h2⟩
   ·exact .inl (zZ.2 (by have:=zZ.1 h1;have:=zZ.1 h2;omega))
   ·exact .inl h1
  ·rcases h2 with h2|⟨rfl,h2⟩
   ·exact .inl h2
   ·exact .inr ⟨i0,EF x y z h1 h2⟩
theorem VF(x:aP):Op.bytesLess x x=eL:=by
 have:=LM x x;cases h:Op.bytesLess x x with
 |false=>rfl
 |true=>rw[h]at this;simp at this
def jE(a b:ByteArray):Bool:=!fd b a
theorem Hm(a b:ByteArray):jE a b=eH↔fd a b=eH∨a.toList=b.toList:=by unfold jE fd;rw[<-LM,zU,beq_iff_eq]
theorem CS(a b c:ByteArray)(e:jE a b=eH)(d:jE b c=eH):jE a c=eH:=by
 rw[Hm]at e d⊢;unfold fd at*;rcases e with e|e
 ·rcases d with d|d
  ·exact .inl (EF _ _ _ e d)
  ·rw[<-d];exact .inl e
 ·rw[e];exact d
theorem CT(a b:ByteArray):(jE a b||jE b a)=eH:=by
 unfold jE;cases h:fd b a with
 |false=>rfl
 |true=>
  have:fd a b=eL:=by
   cases h2:fd a b with
   |false=>rfl
   |true=>
    have:=EF _ _ _ h h2;rw[VF]at this;cases this
  rw[this];rfl
def sf(a b:dm):Bool:=jE a.name b.name
def oG(m:aA)(x:dm):aA:={m with seq:=m.seq+1,next:=m.next+1,objs:=(m.objs++[x]).mergeSort sf}
section
open Classical
theorem lm(a:UInt8):a^^^a=0:=UInt8.xor_self
theorem pu(a b:UInt8):(a^^^b)^^^b=a:=by rw[UInt8.xor_assoc,lm,zX]
theorem cH{c:UInt8}{a t:Row}(h:ii a=ii t)(j:Nat):aJ (cO c a t) j=aJ t j^^^Gf.mul c (aJ a j):=by
 simp only[aJ,cO,qd,zF];by_cases b:j<ii a
 ·rw[qc b,qc i4];rfl
 ·rw[qB i4,qB i4];simp[Gf.mul_zero]
theorem uB(c:UInt8)(a:Row)(j:Nat):aJ (scaleB c a) j=Gf.mul c (aJ a j):=by
 simp only[aJ,scaleB,qd,qL];cases a[j]? with
 |none=>simp[Gf.mul_zero]
 |some x=>rfl
def aM(n:Nat):Row:=qi n 0
theorem cE(n j:Nat):aJ (aM n) j=0:=by simp only[aJ,aM,qd,List.getElem?_replicate];split<;>rfl
theorem fG{n:Nat}{a b:Row}(f:ii a=n)(e:ii b=n)(h:∀j,j<n->aJ a j=aJ b j):a=b:=by apply wo i4;intro j d c;have:=h j i4;simpa[aJ,qd,qc d,qc c]using this
inductive Span (n:Nat) (m:aI):Row->Prop
 |zero:Span n m (aM n)
 |add (c:UInt8) (r v:Row):r∈m->Span n m v->Span n m (cO c r v)
section
variable {n:Nat} {m m':aI}
theorem Span.len(a:aV n m){v:Row}(h:Span n m v):ii v=n:=by
 induction h with
 |zero=>simp[aM]
 |add c r v hr _ ih=>rw[bV (by rw[a r hr,ih])];exact ih
theorem Span.comb(a:aV n m){u v:Row}(e:Span n m u)(b:Span n m v)(c:UInt8):Span n m (cO c u v):=by
 induction e with
 |zero=>
  have:cO c (aM n) v=v:=fG (n:=n) (by rw[bV (by simp[aM,b.len a])];exact b.len a) (b.len a) λj _=>by
   rw[cH (by simp[aM,b.len a]),cE,Gf.mul_zero,zX]
  rw[this];exact b
 |add d r w hr hw ih=>
  have l1:=b.len a;have l2:=hw.len a;have f:=a r hr;have:cO c (cO d r w) v=cO (Gf.mul c d) r (cO c w v):=fG (n:=n) (by rw[bV lc];exact l1) (by rw[bV lc,bV];exact l1) λj _=>by
   rw[cH lc,cH i4,cH lc,cH i4,Gf.jS,Gf.mul_assoc]
   ac_rfl
  rw[this];exact .add _ _ _ hr ih
theorem Span.row(b:aV n m){r:Row}(a:r∈m):Span n m r:=by
 have:=Span.add 1 r _ a (.zero (n:=n) (m:=m));have e:cO 1 r (aM n)=r:=fG (n:=n) (by rw[bV (by simp[aM,b r a])];simp[aM]) (b r a) λj _=>by
  rw[cH (by simp[aM,b r a]),cE,Gf.one_mul,wz]
 rwa [e]at this
theorem Span.sub(b:aV n m)(h:∀r∈m',Span n m r){v:Row}(a:Span n m' v):Span n m v:=by
 induction a with
 |zero=>exact .zero
 |add c r v hr _ ih=>exact(h r hr).comb b ih c
theorem Span.mono(h:∀r∈m',r∈m){v:Row}(a:Span n m' v):Span n m v:=by
 induction a with
 |zero=>exact .zero
 |add c r v hr _ ih=>exact .add c r v (h r hr) ih
theorem Span.lin(d:aV n m)(φ:Row->UInt8)(f:φ (aM n)=0)(g:∀c a t,ii a=n->ii t=n->φ (cO c a t)=φ t^^^Gf.mul c (φ a))(e:∀r∈m,φ r=0){v:Row}(b:Span n m v):φ v=0:=by
 induction b with
 |zero=>exact f
 |add c r v hr' b ih=>rw[g c r v (d r hr') (b.len d),ih,e r hr',Gf.mul_zero,zX]
end
def xR(S:Row->Prop)(j:Nat):Prop:=∃v,S v/\(∀i,i<j->aJ v i=0)/\aJ v j≠0
noncomputable def leads(S:Row->Prop)(n:Nat):Nat:=(qz n).countP λj=>decide (xR S j)
structure Way (n:Nat) (m:aI) (c top:Nat) (rows:aI):Prop where
 even:aV n rows
 len:ii rows=ii m
 tle:top<=ii rows
 span:∀v,Span n rows v↔Span n m v
 cnt:top=leads (Span n m) c
 piv:∃p:Nat->Nat,(∀i,i<top->p i<c)/\(∀i,i<top->∀k,k<ii rows->aJ (aC rows k) (p i)=if k=i then 1 else 0)/\(∀i,i<top->∀j,j<p i->aJ (aC rows i) j=0)/\(∀i j,i<j->j<top->p i<p j)
 low:∀k,top<=k->k<ii rows->∀j,j<c->aJ (aC rows k) j=0
theorem mem_row{m:aI}{i:Nat}(h:i<ii m:=by omega):aC m i∈m:=by rw[bE h];exact qf h
theorem eW{m:aI}{r:Row}(h:r∈m):∃i,i<ii m/\r=aC m i:=by obtain⟨i,a,rfl⟩:=qD h;exact⟨i,a,(bE a).symm⟩
theorem kU{m:aI}{i j:Nat}{r:Row}(a:i<ii m:=by omega):aC (m.set i r) j=if i=j then r else aC m j:=by
 simp only[aC,qd,qU];by_cases h:i=j
 ·subst h;simp[a]
 ·simp[h]
theorem tt{m:aI}{i j k:Nat}(d:i<ii m)(c:j<ii m):aC (jd m i j) k=if k=j then aC m i else if k=i then aC m j else aC m k:=by
 rw[jd,kU l7,kU d];by_cases b:j=k
 ·rw[f9 b,f9 b.symm]
 ·rw[g0 b,g0 (show¬k=j fromλh=>b h.symm)];by_cases a:i=k
  ·rw[f9 a,f9 a.symm]
  ·rw[g0 a,g0 (show¬k=i fromλh=>a h.symm)]
theorem Bc{m:aI}{t c k:Nat}(a:t<ii m):aC (jL t c m) k=if t=k then scaleB (Gf.inv (aJ (aC m t) c)) (aC m t)else aC m k:=by rw[jL,kU a]
section
variable {n:Nat} {m:aI}
theorem VG(l:aV n m){i j:Nat}(b:i<ii m)(a:j<ii m)(v:Row):Span n (jd m i j) v↔Span n m v:=by
 refine⟨Span.mono λr f=>?_,Span.mono λr f=>?_⟩
 ·obtain⟨k,c,rfl⟩:=eW f;rw[lj]at c;rw[tt b a];split
  ·exact mem_row b
  ·split
   ·exact mem_row a
   ·exact mem_row c
 ·obtain⟨k,c,rfl⟩:=eW f;have e:∀x,x<ii m->aC (jd m i j) x∈jd m i j:=λx h=>mem_row (by rw[lj];exact h);by_cases d:k=i
  ·subst d;have:=e j a;rw[tt b a,f9 rfl]at this;exact this
  ·by_cases g:k=j
   ·subst g;have:=e i b;rw[tt b a]at this;by_cases h3:i=k
    ·exact absurd h3.symm d
    ·rw[g0 h3,f9 rfl]at this;exact this
   ·have:=e k c;rw[tt b a,g0 g,g0 d]at this;exact this
theorem VH(g:aV n m){t c:Nat}(a:t<ii m)(i:aJ (aC m t) c≠0)(v:Row):Span n (jL t c m) v↔Span n m v:=by
 have b:=ux g (c:=c) a;have f:=cC g a;have q:∀(x:UInt8) (r:Row),ii r=n->scaleB x r=cO x r (aM n):=λx r d=>fG (n:=n) (by rw[nU,d]) (by rw[bV (by simp[aM,d])];simp[aM]) λj _=>by
  rw[uB,cH (by simp[aM,d]),cE,wz]
 refine⟨Span.sub g λr d=>?_,Span.sub b λr d=>?_⟩
 ·obtain⟨k,h,rfl⟩:=eW d;rw[nI]at h;rw[Bc a];split
  ·rw[q _ _ f];exact .add _ _ _ (mem_row a) .zero
  ·exact Span.row g (mem_row h)
 ·obtain⟨k,h,rfl⟩:=eW d;have e:∀x,x<ii m->Span n (jL t c m) (aC (jL t c m) x):=λx p=>Span.row b (mem_row (by rw[nI];exact p));by_cases o:t=k
  ·subst o;have:=e t a;rw[Bc a,f9 rfl]at this;have l:=this.comb b .zero (aJ (aC m t) c);have s:cO (aJ (aC m t) c) (scaleB (Gf.inv (aJ (aC m t) c)) (aC m t)) (aM n)=aC m t:=fG (n:=n) (by rw[bV (by simp[aM,nU,f])];simp[aM]) f λj _=>by
    rw[cH (by simp[aM,nU,f]),cE,wz,uB,<-Gf.mul_assoc,Gf.Jf i,Gf.one_mul]
   rw[s]at l;exact l
  ·have:=e k h;rw[Bc a,g0 o]at this;exact this
theorem VI(d:aV n m){t c:Nat}(f:t<ii m)(v:Row):Span n (eU t c m m.length) v↔Span n m v:=by
 have b:=uy d (c:=c) (k:=ii m) f;have s:=cC d f;refine⟨Span.sub d λr i=>?_,Span.sub b λr i=>?_⟩
 ·obtain⟨k,a,rfl⟩:=eW i;rw[nJ]at a;rw[pr a];split
  ·exact .add _ _ _ (mem_row f) (Span.row d (mem_row a))
  ·exact Span.row d (mem_row a)
 ·obtain⟨k,a,rfl⟩:=eW i;have e:∀x,x<ii m->Span n (eU t c m m.length) (aC (eU t c m m.length) x):=λx p=>Span.row b (mem_row (by rw[nJ];exact p));have h:=e t f;rw[pr f,g0 i9]at h;by_cases o:k=t
  ·subst o;exact h
  ·have l:=e k a;rw[pr a,f9 ⟨a,o⟩]at l;have h3:=h.comb b l (aJ (aC m k) c);have g:=cC d a;have q:cO (aJ (aC m k) c) (aC m t) (cO (aJ (aC m k) c) (aC m t) (aC m k))=aC m k:=fG (n:=n) (by rw[bV lc,bV];exact g) g λj _=>by
    rw[cH lc,cH i4,pu]
   rw[q]at h3;exact h3
def bT(f g:Nat->UInt8):Nat->UInt8
 |0=>0
 |k+1=>bT f g k^^^Gf.mul (f k) (g k)
theorem gb(f g:Nat->UInt8):∀k,(∀i,i<k->f i=0)->bT f g k=0
 |0,_=>rfl
 |k+1,h=>by rw[bT,gb f g k λi a=>h i i4,h k i4,Gf.zero_mul];rfl
theorem EG(f g:Nat->UInt8)(x:Nat):∀k,x<k->(∀i,i<k->f i=if x=i then 1 else 0)->bT f g k=g x
 |0,hx,_=>i4
 |k+1,hx,h=>by
  rw[bT];by_cases a:x=k
  ·subst a;rw[gb f g x λi b=>by rw[h i i4,g0 i4],h x i4,f9 i0,Gf.one_mul,wz]
  ·rw[EG f g x k i4 λi b=>h i i4,h k i4,g0 a,Gf.zero_mul,zX]
theorem EH(a b g:Nat->UInt8)(c:UInt8):∀k,bT (λi=>a i^^^Gf.mul c (b i)) g k=bT a g k^^^Gf.mul c (bT b g k)
 |0=>by simp[bT,Gf.mul_zero]
 |k+1=>by
  rw[bT,bT,bT,EH a b g c k,Gf.jS,Gf.Ry,Gf.mul_assoc]
  ac_rfl
theorem Hn(S:Row->Prop)(c:Nat):leads S (c+1)=leads S c+if xR S c then 1 else 0:=by simp only[leads,zV,List.countP_append,vA,List.countP_nil];by_cases h:xR S c<;>simp[h]
theorem VJ(c:aV n m):Way n m 0 0 m:=⟨c,i0,i4,λ_=>Iff.rfl,by simp[leads],⟨λ_=>0,λi a=>i4,λi a=>i4,λi a=>i4,λi j _ b=>i4⟩,λk _ _ j b=>i4⟩
theorem Zc(hm:aV n m){c b:Nat}{rows:aI}(w:Way n m c b rows)(hc:c<n):Way n m (c+1) (je (b,rows) c).1 (je (b,rows) c).2:=by
 obtain⟨G,W,am,Y,M,⟨p,Q,p2,p3,p4⟩,f⟩:=w;have hS:∀v,Span n rows v↔Span n m v:=Y;have V:Span n rows=Span n m:=funext λv=>propext (hS v);unfold je;dsimp only;cases hb:iR rows b c with
 |none=>
  have T:=PC hb;dsimp only;have ad:¬xR (Span n m) c:=by
   rw[<-V];rintro⟨v,hv,hz,ah⟩;apply ah;have hφ:=Span.lin G (λv=>aJ v c^^^bT (λi=>aJ v (p i)) (λi=>aJ (aC rows i) c) b) (by
     simp only[cE];rw[gb _ _ _ λi _=>rfl];rfl) (λx a t ha ht=>by
     simp only[cH (show a.length=ii t by omega)];rw[EH,Gf.jS];ac_rfl) (λr hr=>by
     obtain⟨k,F,rfl⟩:=eW hr;by_cases P:k<b
     ·rw[EG _ _ k b P λi E=>by rw[p2 i E k F]];exact lm _
     ·rw[T k i4 F,gb _ _ _ λi E=>by rw[p2 i E k F,g0 i4]];rfl) hv
   rw[gb _ _ _ λi E=>hz _ (Q i E),zX]at hφ;exact hφ
  refine⟨G,W,am,Y,by rw[Hn,g0 ad,M];rfl,⟨p,λi E=>by have:=Q i E;omega,p2,p3,p4⟩,λk D y j d=>?_⟩;rcases zk.1 d with h|rfl
  ·exact f k D y j h
  ·exact T k D y
 |some at_=>
  have hh:=pQ hb;obtain⟨h1,Z,h3⟩:=hh;dsimp only;have q:b<ii rows:=i4
  obtain⟨g,A⟩:∃g,g=jd rows b at_:=⟨_,rfl⟩
  have l1:ii g=ii rows:=by rw[A,lj]
  have R:aV n g:=by rw[A];exact CM G q Z
  have q1:∀k,aC g k=if k=at_ then aC rows b else if k=b then aC rows at_ else aC rows k:=λk=>by rw[A,tt q Z]
  have U:aC g b=aC rows at_:=by
   rw[q1];by_cases h:b=at_
   ·rw[f9 h,h]
   ·rw[g0 h,f9 rfl]
  have J:aJ (aC g b) c≠0:=by rw[U];exact h3
  obtain⟨s,B⟩:∃s,s=jL b c g:=⟨_,rfl⟩
  have l2:ii s=ii rows:=by rw[B,nI,l1]
  have z:aV n s:=by rw[B];exact ux R i4
  have q2:∀k,aC s k=if b=k then scaleB (Gf.inv (aJ (aC g b) c)) (aC g b)else aC g k:=λk=>by rw[B,Bc i4]
  have ab:∀j,aJ (aC g b) j=0->aJ (aC s b) j=0:=λj d=>by rw[q2,f9 i0,uB,d,Gf.mul_zero]
  have l:aJ (aC s b) c=1:=by rw[q2,f9 i0,uB,Gf.mul_comm,Gf.Jf J]
  obtain⟨K,o⟩:∃K,K=eU b c s rows.length:=⟨_,rfl⟩
  have l3:ii K=ii rows:=by rw[o,nJ,l2]
  have q3:∀k,k<ii rows->∀j,aJ (aC K k) j=if k=b then aJ (aC s b) j else aJ (aC g k) j^^^Gf.mul (aJ (aC g k) c) (aJ (aC s b) j):=λk F j=>by
   rw[o,pr i4];by_cases h:k=b
   ·rw[g0 i4,f9 h,h]
   ·have e:=q2 k;rw[g0 λhh=>h hh.symm]at e;rw[f9 ⟨F,h⟩,g0 h,cH (by rw[cC z,cC z]),e]
  have X:∀j,j<c->aJ (aC s b) j=0:=λj d=>ab j (by rw[U];exact f at_ h1 Z j d);have keep:∀k,k<ii rows->∀j,j<c->aJ (aC K k) j=if k=b then 0 else aJ (aC g k) j:=λk F j d=>by
   rw[q3 k F,X j d,Gf.mul_zero,zX]
  have I:∀k,k<b->aC g k=aC rows k:=λk F=>by rw[q1,g0 i4,g0 i4]
  have L:∀k,b<=k->k<ii rows->∀j,j<c->aJ (aC g k) j=0:=λk D y j d=>by
   rw[q1];split
   ·exact f b (qm _) q j d
   ·split
    ·exact f at_ h1 Z j d
    ·exact f k D y j d
  have u:∀v,Span n K v↔Span n m v:=λv=>by
   rw[o,show rows.length=ii s by omega,VI z i4,B,VH R i4 J,A,VG G q Z,hS]
  have N:xR (Span n m) c:=⟨aC K b,(u _).1 (Span.row (by rw[o];exact uy z i4) (mem_row)),λj d=>by rw[keep b q j d,f9 rfl],by rw[q3 b q,f9 i0,l];decide⟩
  have S:eU b c (jL b c (jd rows b at_)) rows.length=K:=by rw[o,B,A]
  rw[S];refine⟨by rw[o];exact uy z i4,i4,i4,u,by rw[Hn,f9 N,M],⟨λi=>if i<b then p i else c,λi E=>?_,λi E k F=>?_,λi E j d=>?_,λi j al d=>?_⟩,λk D y j d=>?_⟩
  ·dsimp only;split
   ·have:=Q i pt;omega
   ·omega
  ·dsimp only;by_cases hit:i<b
   ·rw[f9 hit,keep k i4 _ (Q i hit)];by_cases P:k<b
    ·rw[g0 i4,I k P];exact p2 i hit k i4
    ·rw[g0 (show¬k=i by omega)];split
     ·rfl
     ·exact L k i4 i4 _ (Q i hit)
   ·have O:i=b:=i4
    subst O;rw[g0 hit,q3 k i4];by_cases H:k=i
    ·rw[f9 H,f9 H];exact l
    ·rw[g0 H,g0 H,l,Gf.mul_one];exact lm _
  ·dsimp only at d;by_cases hit:i<b
   ·rw[f9 hit]at d;have:=Q i hit;rw[keep i i4 j i4,g0 i4,I i hit];exact p3 i hit j d
   ·have O:i=b:=i4
    subst O;rw[g0 hit]at d;rw[keep i i4 j d,f9 rfl]
  ·dsimp only;rw[f9 (show i<b by omega)];split
   ·exact p4 i j al pt
   ·exact Q i i4
  ·rcases zk.1 d with h|rfl
   ·rw[keep k i4 j h,g0 i4];exact L k i4 i4 j h
   ·rw[q3 k i4,g0 i4,l,Gf.mul_one];exact lm _
theorem EI(a:aV n m):∀c,c<=n->Way n m c (bD m c).1 (bD m c).2
 |0,_=>VJ a
 |c+1,h=>by rw[bD];exact Zc a (EI a c i4) i4
theorem kb:∀c,bD [] c=(0,[])
 |0=>rfl
 |c+1=>by rw[bD,kb c];rfl
theorem lA(a:aV n m):bY m=leads (Span n m) n:=by
 rw[<-(EI a n (qm _)).cnt,bY];cases m with
 |nil=>rw[kb,kb]
 |cons x t=>rw[eE,bE i9];rw[show((x::t)[0]).length=n from a _ i9]
end
section
variable {n:Nat} {m m':aI}
theorem Tk{S b:Row->Prop}(h:∀v,S v->b v)(n:Nat):leads S n<=leads b n:=by refine List.countP_mono_left λj _ a=>?_;simp only[decide_eq_true_eq]at a⊢;obtain⟨v,d,c⟩:=a;exact⟨v,h v d,c⟩
theorem oH(a:aV n m):bY m<=n:=by rw[lA a];have:=List.countP_le_length (p:=λj=>decide (xR (Span n m) j)) (l:=qz n);simpa[leads]using this
theorem Ke(b:aV n m)(a:aV n m')(h:∀r∈m,r∈m'):bY m<=bY m':=by rw[lA b,lA a];exact Tk (λv=>Span.mono h) n
theorem VK{P Q:Nat->Bool}(l:List Nat)(d:l.Nodup)(g:∀a∈l,P a=eH->Q a=eH)(e:∀a∈l,∀b∈l,Q a=eH->P a=eL->Q b=eH->P b=eL->a=b):l.countP Q<=l.countP P+1:=by
 induction l with
 |nil=>simp
 |cons x t ih=>
  rw[List.nodup_cons]at d;have i:=ih d.2 (λa c=>g a n7) λa c b f=>e a n7 b qa;simp only[vA];cases hQ:Q x with
  |false=>
   have:(if P x=eH then 1 else 0)>=0:=i4
   simp;omega
  |true=>
   cases hP:P x with
   |true=>simp;omega
   |false=>
    have:t.countP Q<=t.countP P:=by
     refine List.countP_mono_left λa c h=>?_;cases hpa:P a with
     |true=>rfl
     |false=>
      have:=e x i9 a n7 hQ hP h hpa;subst this;exact absurd c d.1
    simp;omega
theorem Kf(b:aV n m){r:Row}(i:ii r=n){v:Row}(l:Span n (m++[r]) v):∃(c:UInt8) (u:Row),Span n m u/\v=cO c r u:=by
 have o:aV n (m++[r]):=λx f=>by
  rcases qy.1 f with h|h
  ·exact b x h
  ·rw[qp.1 h];exact i
 induction l with
 |zero=>exact⟨0,aM n,.zero,(fG (n:=n) (by rw[bV (by simp[aM,i])];simp[aM]) k8 λj _=>by rw[cH (by simp[aM,i]),cE,Gf.zero_mul];rfl).symm⟩
 |add d x w f hw ih=>
  obtain⟨c,u,e,rfl⟩:=ih;have a:=e.len b;rcases qy.1 f with h|h
  ·have k:=b x h;refine⟨c,cO d x u,.add d x u h e,fG (n:=n) (by rw[bV lc,bV];exact a) (by rw[bV lc,bV];exact a) λj _=>?_⟩;rw[cH lc,cH i4,cH lc,cH i4]
   ac_rfl
  ·have g:=qp.1 h;subst g;refine⟨c^^^d,u,e,fG (n:=n) (by rw[bV lc,bV];exact a) (by rw[bV];exact a) λj _=>?_⟩;rw[cH lc,cH i4,cH i4,Gf.Ry]
   ac_rfl
theorem mw(b:aV n m){r:Row}(c:ii r=n):aV n (m++[r]):=λx a=>by
 rcases qy.1 a with h|h
 ·exact b x h
 ·rw[qp.1 h];exact c
theorem VL(f:aV n m){r:Row}(G:ii r=n):bY m<=bY (m++[r])/\bY (m++[r])<=bY m+1:=by
 have p:=mw f G;refine⟨Ke f p λx t=>sL,?_⟩;rw[lA f,lA p];refine VK _ List.nodup_range (λa _ H=>?_) (λa _ b _ F o A k=>?_)
 ·simp only[decide_eq_true_eq]at H⊢;obtain⟨v,K,I⟩:=H;exact⟨v,Span.mono (λx t=>sL) K,I⟩
 ·simp only[decide_eq_true_eq,decide_eq_false_iff_not]at F o A k;have l:∀a b,xR (Span n (m++[r])) a->¬xR (Span n m) a->xR (Span n (m++[r])) b->¬xR (Span n m) b->¬a<b:=by
   rintro a b ⟨v,M,N,D⟩ o ⟨w,L,h,q⟩ k B;obtain⟨c,u,J,rfl⟩:=Kf f G M;obtain⟨d,s,g,rfl⟩:=Kf f G L;have l1:=J.len f;have l2:=g.len f;have O:d≠0:=by
    rintro rfl;apply k;refine⟨s,g,λi E=>?_,?_⟩
    ·have:=h i E;rw[cH i4,Gf.zero_mul,zX]at this;exact this
    ·rw[cH i4,Gf.zero_mul,zX]at q;exact q
   apply o;refine⟨cO (Gf.mul c (Gf.inv d)) s u,g.comb f J _,?_⟩;have e:∀j,aJ (cO (Gf.mul c (Gf.inv d)) s u) j=aJ (cO c r u) j^^^Gf.mul (Gf.mul c (Gf.inv d)) (aJ (cO d r s) j):=λj=>by
    rw[cH i4,cH i4,cH i4,Gf.jS,<-Gf.mul_assoc (Gf.mul c (Gf.inv d)) d,Gf.mul_assoc c (Gf.inv d) d,Gf.mul_comm (Gf.inv d) d,Gf.Jf O,Gf.mul_one];have:∀x y z:UInt8,x^^^y=x^^^z^^^(y^^^z):=λx y z=>by
     have:x^^^z^^^(y^^^z)=x^^^y^^^(z^^^z):=by ac_rfl
     rw[this,lm,zX]
    exact this _ _ _
   refine⟨λi E=>?_,?_⟩
   ·rw[e,N i E,h i i4,Gf.mul_zero];rfl
   ·rw[e,h a B,Gf.mul_zero,zX];exact D
  have K:=l a b F o A k;have I:=l b a A k F o;omega
theorem oI(m:aI)(h:aV n m):bY m<=ii m:=by
 have a:∀k,k<=ii m->bY (m.take k)<=k:=by
  intro k
  induction k with
  |zero=>intro _;simp[bY,eE,aC,bD]
  |succ k ih=>
   intro f;have c:aV n (m.take k):=λx b=>h x (zA b);have e:=ih i4;rw[zN i4];have d:=(VL c (h _ (qf (show k<ii m by omega)))).2;omega
 have:=a m.length (qm _)
 rwa [qg (qm _)]at this
end
def EJ(p:Int×Int×Int)(seed:Int)(a:aB):Nat:=bY (ga p seed a)
def md(p:Int×Int×Int)(seed:Int)(a:aB):Bool:=bS p&&((EJ p seed a:Int)==bX p)
def gD(p:Int×Int×Int):aB:=upto (max 0 (min p.1 16)).toNat
theorem pv{p:Int×Int×Int}(h:bS p=eH):bX p=p.1+p.2.1:=by rw[bX,f9 h]
theorem CV(p:Int×Int×Int)(seed:Int)(b:aB):aV (bX p).toNat (ga p seed b):=by
 intro r a;unfold ga at a;split at a
 ·rename_i c;have:=(cg p).1 c;rcases qy.1 a with h|h
  ·obtain⟨x,_,rfl⟩:=qx.1 h;rw[tk,pv c];omega
  ·obtain⟨x,_,rfl⟩:=qx.1 h;exact MI _ _ _
 ·cases a
theorem Zd(p:Int×Int×Int)(seed:Int)(a:aB):ii (ga p seed a)<=4+ii a:=by
 unfold ga;split
 ·rename_i b;have:=(cg p).1 b;have c:=List.length_filter_le ct a;simp only[qt,bU,qu,zC];omega
 ·simp
theorem Ho(K H:Nat):aV (K+H) (bU K H):=λr a=>by
 obtain⟨x,_,rfl⟩:=qx.1 a;exact tk _ _ _
def eN(a b:aI):aI:=ze (·++·) a b
def kA(n:Nat)(m:aI):aI:=m.map (List.take n)
theorem FR{r:Row}{n j:Nat}(h:j<n):aJ (r.take n) j=aJ r j:=by simp only[aJ,qd,vm];rw[f9 h]
theorem MP(r:Row)(n j:Nat):aJ (r.drop n) j=aJ r (n+j):=by simp only[aJ,qd,wL]
theorem sK(n:Nat)(m:aI)(i:Nat):aC (kA n m) i=(aC m i).take n:=by
 simp only[aC,kA,qd,qL];cases m[i]? with
 |none=>simp
 |some r=>rfl
theorem Jg(n:Nat)(m:aI):ii (kA n m)=ii m:=by simp[kA]
theorem Tl{n a bw:Nat}(m:aI)(h:bw<n):iR (kA n m) a bw=iR m a bw:=by unfold iR;rw[Jg];congr 1;funext i;rw[sK,FR h]
theorem Jh(n:Nat)(m:aI)(i:Nat)(r:Row):kA n (m.set i r)=(kA n m).set i (r.take n):=by simp[kA,List.map_set]
theorem Ze(n:Nat)(m:aI)(i j:Nat):kA n (jd m i j)=jd (kA n m) i j:=by rw[jd,Jh,Jh,jd,sK,sK]
theorem VM(n:Nat)(c:UInt8)(r:Row):(scaleB c r).take n=scaleB c (r.take n):=by simp[scaleB,List.map_take]
theorem acy(n:Nat)(c:UInt8)(a t:Row):(cO c a t).take n=cO c (a.take n) (t.take n):=by simp[cO,List.take_zipWith]
theorem Zf{n bw:Nat}(h:bw<n)(t:Nat)(m:aI):kA n (jL t bw m)=jL t bw (kA n m):=by rw[jL,Jh,VM,jL,sK,FR h]
theorem Zg{n bw:Nat}(h:bw<n)(t k:Nat)(m:aI):kA n (eU t bw m k)=eU t bw (kA n m) k:=by
 apply zt;intro i;simp only[kA,eU,qL,vy];cases m[i]? with
 |none=>rfl
 |some r=>
  simp only[qQ];congr 1;have:=sK n m t;rw[kA]at this;rw[this,FR h];split
  ·exact acy _ _ _ _
  ·rfl
theorem Zh{n bw:Nat}(h:bw<n)(s:Nat×aI):((je s bw).1,kA n (je s bw).2)=je (s.1,kA n s.2) bw:=by
 unfold je;dsimp only;rw[Tl _ h];cases iR s.2 s.1 bw with
 |none=>rfl
 |some i=>dsimp only;rw[Zg h,Zf h,Ze,Jg]
theorem Hp(n:Nat)(m:aI):∀c,c<=n->((bD m c).1,kA n (bD m c).2)=bD (kA n m) c
 |0,_=>rfl
 |c+1,h=>by
  have a:=Hp n m c i4;rw[bD,bD,Zh (show c<n by omega),a]
theorem mP{a b:aI}(h:ii a=ii b):ii (eN a b)=ii a:=by simp[eN,h]
theorem EK{a b:aI}(h:ii a=ii b){i:Nat}(c:i<ii a):aC (eN a b) i=aC a i++aC b i:=by rw[bE (by rw[mP h];exact c),bE c,bE i4];simp[eN]
theorem nM{n w:Nat}{a b:aI}(h:ii a=ii b)(e:aV n a)(d:aV w b):aV (n+w) (eN a b):=λr f=>by
 obtain⟨i,c,rfl⟩:=eW f;rw[mP h]at c;rw[EK h c,qt,cC e c,cC d]
theorem acz{n:Nat}{a b:aI}(h:ii a=ii b)(e:aV n a):kA n (eN a b)=a:=by apply wo (by rw[Jg,mP h]);intro i d c;have:=sK n (eN a b) i;rw[bE d,EK h c,List.take_left' (cC e c),bE c]at this;exact this
theorem Zi{n:Nat}{a:aI}(b:aV n a):(bD a n).1=bY a:=by
 rw[bY];cases a with
 |nil=>rw[kb,kb]
 |cons x t=>rw[eE,bE i9];rw[show((x::t)[0]).length=n from b _ i9]
theorem FS{n:Nat}{a b:aI}(h:ii a=ii b)(c:aV n a):(bD (eN a b) n).1=bY a:=by have:=congrArg qq (Hp n (eN a b) n (qm _));rw[acz h c]at this;rw[<-Zi c];exact this
def CW(w:Nat)(r:Row)(X:aI):Nat->Row
 |0=>aM w
 |k+1=>cO (aJ r k) (aC X k) (CW w r X k)
theorem nN{n w:Nat}{X:aI}(b:aV w X)(c:ii X=n)(r:Row):∀k,k<=n->ii (CW w r X k)=w
 |0,_=>by simp[CW,aM]
 |k+1,h=>by
  have a:=nN b c r k i4;rw[CW,bV (by rw[cC b,a])];exact a
theorem kB{n w:Nat}{X:aI}(a:aV w X)(b:ii X=n)(r:Row)(j:Nat):∀k,k<=n->aJ (CW w r X k) j=bT (λi=>aJ r i) (λi=>aJ (aC X i) j) k
 |0,_=>by rw[CW,cE];rfl
 |k+1,h=>by
  have c:=kB a b r j k i4;rw[CW,cH (by rw[cC a,nN a b r k i4]),c];rfl
def iz(n w:Nat)(a b X:aI):Prop:=ii X=n/\aV w X/\∀i,i<ii a->CW w (aC a i) X n=aC b i
theorem Zj{m a:aI}(d:ii m=ii a)(h:∀i,i<ii m->aC m i=aC a i):m=a:=by
 apply wo d;intro i b c;have:=h i b
 rwa [bE b,bE c]at this
def tu(n:Nat)(X:aI)(k:Nat)(v:Row):UInt8:=aJ v (n+k)^^^bT (λi=>aJ v i) (λi=>aJ (aC X i) k) n
theorem gw{f f' g a:Nat->UInt8}:∀k,(∀i,i<k->f i=f' i)->(∀i,i<k->g i=a i)->bT f g k=bT f' a k
 |0,_,_=>rfl
 |k+1,h1,h2=>by rw[bT,bT,gw k (λi b=>h1 i i4) λi b=>h2 i i4,h1 k i4,h2 k i4]
theorem RD(n:Nat)(X:aI)(k:Nat)(c:UInt8)(a t:Row)(h:ii a=ii t:=by omega):tu n X k (cO c a t)=tu n X k t^^^Gf.mul c (tu n X k a):=by unfold tu;rw[cH h];have:bT (λi=>aJ (cO c a t) i) (λi=>aJ (aC X i) k) n=bT (λi=>aJ t i^^^Gf.mul c (aJ a i)) (λi=>aJ (aC X i) k) n:=gw n (λi _=>cH h i) λ_ _=>rfl;rw[this,EH,Gf.jS];ac_rfl
theorem RE{a b:Row}{n:Nat}(c:ii a=n)(k:Nat):aJ (a++b) (n+k)=aJ b k:=by simp only[aJ,qd];rw[qh i4,c,zn]
theorem MQ{a b:Row}{n j:Nat}(d:ii a=n)(c:j<n):aJ (a++b) j=aJ a j:=by simp only[aJ,qd];rw[ql i4]
theorem oJ{a b:UInt8}:a^^^b=0↔a=b:=by
 constructor
 ·intro h;have:=congrArg (·^^^b) h;simp only[wz]at this
  rwa [pu]at this
 ·rintro rfl;exact lm _
theorem Hq{n w:Nat}{a b X:aI}(h:ii a=ii b)(e:aV n a)(o:aV w b)(g:ii X=n)(l:aV w X):iz n w a b X↔∀k,k<w->∀v,Span (n+w) (eN a b) v->tu n X k v=0:=by
 have f:=nM h e o;constructor
 ·intro u k p v s;refine Span.lin f (tu n X k) ?_ (λc a t z y=>RD n X k c a t) (λr x=>?_) s
  ·unfold tu;rw[cE,gb _ _ n λi _=>cE _ _];rfl
  ·obtain⟨i,d,rfl⟩:=eW x;rw[mP h]at d;rw[EK h d];unfold tu;rw[RE (cC e d),<-u.2.2 i d,kB l g _ k n (qm _),oJ];exact gw n (λj m=>(MQ (cC e d) m).symm) λ_ _=>rfl
 ·intro q;refine⟨g,l,λi d=>fG (n:=w) (nN l g _ n (qm _)) (cC o) λk p=>?_⟩;have:=q k p _ (Span.row f (mem_row (show i<ii (eN a b) by rw[mP h];exact d)));rw[EK h d]at this;unfold tu at this;rw[RE (cC e d),oJ]at this;rw[this,kB l g _ k n (qm _)];exact gw n (λj m=>(MQ (cC e d) m).symm) λ_ _=>rfl
theorem aen{n:Nat}{p:Nat->Nat}(c:∀i,i<n->p i<n)(b:∀i j,i<j->j<n->p i<p j):∀i,i<n->p i=i:=by
 have d:∀i,i<n->i<=p i:=by
  intro i
  induction i with
  |zero=>intro _;omega
  |succ i ih=>intro a;have:=ih i4;have:=b i (i+1) i4 a;omega
 have up:∀k i,i+k+1=n->p i<=i:=by
  intro k
  induction k with
  |zero=>intro i a;have:=c i i4;omega
  |succ k ih=>intro i a;have:=ih (i+1) i4;have:=b i (i+1) i4 i4;omega
 intro i a;have:=d i a;have:=up (n-1-i) i i4;omega
def gc(n:Nat)(a b:aI):aI:=(((bD (eN a b) n).2).take n).map (List.drop n)
def lB(n:Nat)(a b:aI):Prop:=∀r∈((bD (eN a b) n).2).drop n,r=aM r.length
section
variable {n w:Nat} {a b:aI}
theorem sM(h:ii a=ii b)(f:aV n a)(g:aV w b)(j:bY a=n):ii (gc n a b)=n/\aV w (gc n a b):=by have d:=nM h f g;have e:=iF d n;have h3:=oI a f;refine⟨by rw[gc,qu,qO,e.2,mP h];omega,λr c=>?_⟩;obtain⟨x,i,rfl⟩:=qx.1 c;rw[za,e.1 x (zA i)];omega
theorem RF(h:ii a=ii b)(d:aV n a)(e:bY a=n){i:Nat}(c:i<n):aC (gc n a b) i=(aC (bD (eN a b) n).2 i).drop n:=by
 simp only[aC,gc,qd,qL,vm];rw[f9 c]
 cases(bD (eN a b) n).2[i]? with
 |none=>simp
 |some r=>rfl
theorem MR(h:ii a=ii b)(e:aV n a)(o:aV w b)(r:bY a=n):
  (∀v,Span (n+w) (bD (eN a b) n).2 v↔Span (n+w) (eN a b) v)/\(bD (eN a b) n).2.length=ii a/\(∀i,i<n->∀k,k<ii a->aJ (aC (bD (eN a b) n).2 k) i=if k=i then 1 else 0):=by
 have c:=nM h e o;have W:=EI c n i4;have m:(bD (eN a b) n).1=n:=by rw[FS h e,r]
 obtain⟨p,g,d,l,f⟩:=W.piv;rw[m]at g d l f;have hid:=aen g f;have q:(bD (eN a b) n).2.length=ii a:=by rw[W.len,mP h]
 refine⟨W.span,q,λi j k s=>?_⟩;have:=d i j k i4
 rwa [hid i j]at this
theorem MS{X:aI}{r:Row}{i k:Nat}(b:i<n)(c:∀j,j<n->aJ r j=if i=j then 1 else 0):tu n X k r=aJ r (n+k)^^^aJ (aC X i) k:=by unfold tu;rw[EG _ _ i n b λj a=>c j a]
theorem RG{X:aI}{r:Row}{k:Nat}(a:∀j,j<n->aJ r j=0):tu n X k r=aJ r (n+k):=by unfold tu;rw[gb _ _ n a,zX]
theorem sg(h:ii a=ii b)(l:aV n a)(o:aV w b)(x:bY a=n){X:aI}(f:iz n w a b X):X=gc n a b/\lB n a b:=by
 have u:=nM h l o;have s:=iF u n;obtain⟨m,D,v⟩:=MR h l o x;have A:=oI a l;have z:=(Hq h l o f.1 f.2.1).1 f;obtain⟨y,s2⟩:=sM h l o x;constructor
 ·refine Zj (by rw[f.1,y]) λi d=>fG (n:=w) (cC f.2.1 d) (cC s2 (by rw[y];rw[f.1]at d;exact d)) λk B=>?_;rw[f.1]at d;have h3:=z k B _ ((m _).1 (Span.row s.1 (mem_row (show i<(bD (eN a b) n).2.length by omega))));rw[MS d λj p=>v j p i i4]at h3;rw[RF h l x d,MP];exact(oJ.1 h3).symm
 ·intro r t;obtain⟨i,d,rfl⟩:=qD t;rw[za]at d;rw[wu];have g:n+i<(bD (eN a b) n).2.length:=i4
  have e:=bE g;have c:=cC s.1 g;rw[<-e,c];refine fG (n:=n+w) c k8 λj p=>?_;rw[cE];by_cases q:j<n
  ·rw[v j q (n+i) i4,g0 i4]
  ·obtain⟨k,rfl⟩:∃k,j=n+k:=⟨j-n,i4⟩
   have h3:=z k i4 _ ((m _).1 (Span.row s.1 (mem_row g)))
   rwa [RG λj p=>by rw[v j p (n+i) i4,g0 i4]]at h3
theorem sh(h:ii a=ii b)(e:aV n a)(g:aV w b)(q:bY a=n)(D:lB n a b):iz n w a b (gc n a b):=by
 have p:=nM h e g;have s:=iF p n;obtain⟨l,E,u⟩:=MR h e g q;have A:=oI a e;obtain⟨y,s2⟩:=sM h e g q;refine(Hq h e g y s2).2 λk G v z=>?_;refine Span.lin s.1 (tu n (gc n a b) k) ?_ (λc x t F s=>RD n _ k c x t) (λr o=>?_) ((l v).2 z)
 ·unfold tu;rw[cE,gb _ _ n λi _=>cE _ _];rfl
 ·obtain⟨i,B,rfl⟩:=eW o;by_cases f:i<n
  ·rw[MS f λj m=>u j m i i4,RF h e q f,MP];exact lm _
  ·rw[RG λj m=>by rw[u j m i i4,g0 i4]];have:aC (bD (eN a b) n).2 i∈(bD (eN a b) n).2.drop n:=by
    rw[bE B];obtain⟨d,rfl⟩:∃d,i=n+d:=⟨i-n,i4⟩
    rw[<-wu (h:=by rw[za];omega)];exact qf _
   rw[D _ this,cE]
end
def MT(l:aB):Prop:=∀a b,a<ii l->b<ii l->kS l a=kS l b->a=b
theorem EL{l:aB}{i:Nat}(h:i<ii l):kS l i=l[i]:=by rw[kS,qd,qc h];rfl
theorem Zk{l:aB}{i j k:Nat}(d:i<ii l)(c:j<ii l):kS (pP l i j) k=if k=j then kS l i else if k=i then kS l j else kS l k:=by
 simp only[kS,pP,qd,qU,zc];by_cases a:j=k
 ·subst a;simp[c]
 ·by_cases b:i=k
  ·subst b;simp[a,d];omega
  ·simp[a,b];omega
theorem swap_inj{l:aB}{i j:Nat}(p:i<ii l)(n:j<ii l)(h:MT l):MT (pP l i j):=by
 intro a b g m o;rw[MG]at g m;have c:∀k,k<ii l->∃σ,σ<ii l/\kS (pP l i j) k=kS l σ/\(σ=if k=j then i else if k=i then j else k):=λk u=>by
  rw[Zk p n];by_cases f:k=j
  ·rw[f9 f,f9 f];exact⟨i,p,i0,i0⟩
  ·rw[g0 f,g0 f];by_cases e:k=i
   ·rw[f9 e,f9 e];exact⟨j,n,i0,i0⟩
   ·rw[g0 e,g0 e];exact⟨k,u,i0,i0⟩
 obtain⟨s,v,w,q⟩:=c a g;obtain⟨t,r,e2,d⟩:=c b m;rw[w,e2]at o;have:=h s t v r o;subst this;rw[q]at d;split at d<;>split at d<;>(try split at d)<;>(try split at d)<;>omega
theorem VN{l:aB}(h:MT l):l.Nodup:=by rw[List.nodup_iff_pairwise_ne,zp];intro i j b a d c;have:=h i j b a (by rw[EL b,EL a];exact c);omega
theorem Zl(n:Nat):MT (upto n):=by intro a b e c d;rw[gX]at e c;rw[EL (by rw[gX];exact e),EL (by rw[gX];exact c)]at d;simp[upto]at d;omega
theorem MU(n:Nat)(s:Int):∀k,k<=n->n<=64->MT (gB n s (upto n) k).2
 |0,_,_=>Zl n
 |k+1,hk,hn=>by
  have a:=te n s (upto n) k;rw[gX]at a;have:=td (gB n s (upto n) k).1 ((n-k:Nat):Int);exact swap_inj i4 i4 (MU n s k i4 hn)
theorem Tm(s:Int)(n k:Nat)(b:k<=n)(a:n<=64):(Ez s n k).Nodup:=by have h:=(VN (MU n s k b a)).sublist (List.take_sublist k _);exact(wX _ _).nodup_iff.2 h
theorem Hr{n:Nat}(b:1<=n)(a:n<=20)(seed id:Int):(eT n seed id).Nodup:=Tm _ _ _ (th _ n b a) i4
theorem PD(n:Nat)(seed id:Int):(eT n seed id).Pairwise (·<=·):=by have:=yA (le:=λx y:Int=>decide (x<=y)) (by intro a b c;simp;omega) (by intro a b;simp;omega) ((gB n (BX (BX (CK seed id))) (upto n) (ED (BX (CK seed id)) n)).2.take (ED (BX (CK seed id)) n));exact this.imp i9
theorem RH{r:Row}{i j:Nat}{x:UInt8}(a:i<ii r):aJ (r.set i x) j=if j=i then x else aJ r j:=by
 simp only[aJ,qd,qU];by_cases h:i=j
 ·subst h;simp[a]
 ·simp[h];intro e;exact absurd e.symm h
theorem VO(n:Nat)(l:aB)(c:Int):iE n (l++[c])=(iE n l).set c.toNat 1:=by rw[iE,zB];rfl
theorem FT{n:Nat}:∀(l:aB) (_:∀x∈l,0<=x/\x<(n:Int)) (j:Nat),aJ (iE n l) j=if(j:Int)∈l then 1 else 0:=by
 intro l;have d:∀k,k<=ii l->(∀x∈l,0<=x/\x<(n:Int))->∀j:Nat,aJ (iE n (l.take k)) j=if(j:Int)∈l.take k then 1 else 0:=by
  intro k
  induction k with
  |zero=>intro _ _ j;simp[iE];exact cE n j
  |succ k ih=>
   intro f b j;have g:=b _ (qf (show k<ii l by omega));rw[zN i4,VO,RH (by rw[tj];omega),ih i4 b];have a:(j:Int)∈l.take k++[l[k]]↔(j:Int)∈l.take k∨(j:Int)=l[k]:=by rw[qy,qp]
   by_cases h:j=l[k].toNat
   ·rw[f9 h,f9 (a.2 (.inr i4))]
   ·rw[g0 h];by_cases c:(j:Int)∈l.take k
    ·rw[f9 c,f9 (a.2 (.inl c))]
    ·rw[g0 c,g0 λe=>(a.1 e).elim c λh3=>h i4]
 intro b j;have:=d l.length (qm _) b j
 rwa [qg (qm _)]at this
theorem MV{f f' g:Nat->UInt8}{c:Nat}(d:f c=0)(a:∀i,f' i=if i=c then 1 else f i):∀k,bT f' g k=bT f g k^^^if c<k then g c else 0
 |0=>by simp[bT]
 |k+1=>by
  rw[bT,bT,MV d a k,a k];by_cases b:k=c
  ·subst b;rw[f9 i0,g0 i4,f9 i4,Gf.one_mul,d,Gf.zero_mul]
  ·rw[g0 b];by_cases h:c<k
   ·rw[f9 h,f9 i4];ac_rfl
   ·rw[g0 h,g0 i4];simp
def kC(w:Nat)(X:aI)(l:aB):Row:=l.foldl (λs c=>cO 1 (aC X c.toNat) s) (aM w)
theorem FU(w:Nat)(X:aI)(l:aB)(c:Int):kC w X (l++[c])=cO 1 (aC X c.toNat) (kC w X l):=by rw[kC,zB];rfl
theorem tv{n w:Nat}{X:aI}(b:aV w X)(c:ii X=n){l:aB}(a:∀x∈l,0<=x/\x<(n:Int)):∀k,k<=ii l->ii (kC w X (l.take k))=w:=by
 intro k
 induction k with
 |zero=>intro _;simp[kC,aM]
 |succ k ih=>
  intro e;have d:=a _ (qf (show k<ii l by omega));rw[zN i4,FU,bV (by rw[cC b,ih i4])];exact ih i4
theorem RI{n w:Nat}{X:aI}(b:aV w X)(c:ii X=n){l:aB}(a:∀x∈l,0<=x/\x<(n:Int)):ii (kC w X l)=w:=by
 have:=tv b c a l.length (qm _)
 rwa [qg (qm _)]at this
def oK(K H w:Nat)(d:Row):aI:=qi H (aM w)++(qz K).map (Vr d w)
def gP(p:Int×Int×Int)(seed:Int)(d:Row):aI:=gc (bX p).toNat (ga p seed (gD p)) (oK p.1.toNat p.2.1.toNat p.2.2.toNat d)
structure dH (p:Int×Int×Int) (seed:Int) (d:Row) (K H w n:Nat):Prop where
 may:bS p=eH
 full:md p seed (gD p)=eH
 k:p.1=K
 h:p.2.1=H
 s:p.2.2=w
 n:n=K+H
 k1:1<=K
 k2:K<=16
 h1:1<=H
 h2:H<=4
 w1:1<=w
 w2:w<=24
 len:ii d=K*w
theorem Tn{p:Int×Int×Int}{seed:Int}{d:Row}(b:bS p=eH)(e:md p seed (gD p)=eH)(a:(ii d:Int)=p.1*p.2.2):∃K H w n,dH p seed d K H w n:=by
 have:=(cg p).1 b;refine⟨p.1.toNat,p.2.1.toNat,p.2.2.toNat,p.1.toNat+p.2.1.toNat,b,e,i4,i4,i4,i0,i4,i4,i4,i4,i4,i4,?_⟩;have c:p.1=(p.1.toNat:Int):=i4
 have e2:p.2.2=(p.2.2.toNat:Int):=i4
 rw[c,e2,<-Int.natCast_mul]at a;exact Int.ofNat.inj a
section
variable {p:Int×Int×Int} {seed:Int} {d:Row} {K H w n:Nat}
theorem dH.cS(B:dH p seed d K H w n):bX p=n:=by rw[pv B.may,B.k,B.h,B.n];rfl
theorem dH.EM(B:dH p seed d K H w n):(bX p).toNat=n:=by rw[B.cS];rfl
theorem To(a:p.1=(K:Int))(h:K<=16):gD p=upto K:=by rw[gD];congr 1;omega
theorem PE(h:K<=16):(upto K).filter ct=upto K:=by rw[List.filter_eq_self];intro x b;simp[upto]at b;obtain⟨a,c,rfl⟩:=b;simp[ct];omega
theorem dH.Vq(B:dH p seed d K H w n):ga p seed (gD p)=bU K H++(qz K).map λi:Nat=>CL n seed (i:Int):=by rw[ga,f9 B.may,To B.k B.k2,PE B.k2,B.k,B.h,B.EM,qk,qk,upto,List.map_map];rfl
theorem dH.VP(B:dH p seed d K H w n):ii (ga p seed (gD p))=n:=by rw[B.Vq,qt,qu,zC,bU,qu,zC,B.n];omega
theorem dH.RJ(B:dH p seed d K H w n):aV n (ga p seed (gD p)):=by
 have:=CV p seed (gD p)
 rwa [B.EM]at this
theorem dH.MW(B:dH p seed d K H w n):bY (ga p seed (gD p))=n:=by have h:=B.full;rw[md,B.may,B.cS,EJ]at h;simp at h;exact Int.ofNat.inj h
theorem CX(K H w:Nat)(d:Row):ii (oK K H w d)=K+H:=by simp[oK];omega
theorem Hs(b:ii d=K*w):aV w (oK K H w d):=λr c=>by
 rcases qy.1 c with h|h
 ·rw[(List.mem_replicate.1 h).2];simp[aM]
 ·obtain⟨i,a,rfl⟩:=qx.1 h;rw[qC]at a;exact acs (by rw[b];exact zK w a)
theorem dH.CY(B:dH p seed d K H w n):gP p seed d=gc n (ga p seed (gD p)) (oK K H w d):=by rw[gP,B.EM,B.k,B.h,B.s];rfl
theorem dH.lens(B:dH p seed d K H w n):ii (ga p seed (gD p))=ii (oK K H w d):=by rw[B.VP,CX,B.n]
theorem dH.Ao(B:dH p seed d K H w n):ii (gP p seed d)=n/\aV w (gP p seed d):=by rw[B.CY];exact sM B.lens B.RJ (Hs B.len) B.MW
theorem dH.n1(B:dH p seed d K H w n):1<=n:=by have:=B.n;have:=B.k1;omega
theorem dH.n2(B:dH p seed d K H w n):n<=20:=by have:=B.n;have:=B.k2;have:=B.h2;omega
theorem dH.aeo(B:dH p seed d K H w n)(id:Int):ii (kC w (gP p seed d) (eT n seed id))=w:=
 RI B.Ao.2 B.Ao.1 λ_ a=>nT B.n1 B.n2 a
end
end
theorem PF{α:Type}{c k:Nat}{f:α->aR}:∀{rs:List Sl} {ll:List (List α)} (b:List Sl) (a:List (List α)),ii rs=ii ll->bn c k f (rs++b) (ll++a)=bn c k f rs ll++bn c k f b a:=by intro rs ll b a h;unfold bn;exact yF h
theorem aa.Zm{B:av}{a h:f8}{X:HP}:∀{L M:List HP},aa B a h (L++X::M)->aa B a h (L++M):=λ{L M} H=>by
 have:=H.del L.length
 rwa [List.eraseIdx_append_of_length_le (qm _),qW,List.eraseIdx_cons_zero]at this
variable {h':f8} {e2:Nat} {s2:Sl} {ll:List (List α)}
section
variable {C:Ctx} {l2:List (List α)}
theorem aa.acA(E:C.Ok)(H:aa B h0 h (dc e s e2 k f ll::dc e s2 e2 k f l2::As))(D:bI C.toAi t e 1 [.slice ez 0 0] 24)(v:∃i e2,C.T.get t2=dB i/\i.cz=.slice e2)(w:ii ll+ii l2<=2^32){ty:Nat}{K:Sl->f8->Prop}
  (F:∀d h',aa B h0 h' (dc e d e2 k f (ll++l2)::As)->K d h'):
  bz C.P (zD #[t,t2] ty #[.slice s.ptr s.len s.cap,.slice s2.ptr s2.len s2.cap]) (.one (.sc .slc)) h K:=by
 obtain⟨rs,n,o⟩:=H.rZ;obtain⟨c,j⟩:∃c,c=bn e2 k f rs ll:=⟨_,rfl⟩
 rw[<-j]at o;have u:aa B h0 h (dc e s2 e2 k f l2::(As++(ae e s 1 aX rs::c))):=o.front;obtain⟨a,l,p⟩:=u.rZ;obtain⟨L2,g⟩:∃L2,L2=bn e2 k f a l2:=⟨_,rfl⟩
 rw[<-g]at p;have r:=p.front;rw[qn]at r;have A:=r.front;have q:aa B h0 h (ae e s 1 aX rs::(c++(ae e s2 1 aX a::(L2++As)))):=by
  have y:(ae e s 1 aX rs::c++(ae e s2 1 aX a::L2))++As=ae e s 1 aX rs::(c++(ae e s2 1 aX a::(L2++As))):=i9
  rw[<-y];exact A
 have x:Seq h (λb=>b<h.size) s2 1 aX a:=q.seq (ii c+1) (by rw[qo,qh (qm _),qW];rfl) λ_=>rfl;refine q.append E 0 i0 D v i0 i5 (λ_=>rfl) x jb i4 λd h' m=>F d h' ?_;have m:aa B h0 h' ((ae e d 1 aX (rs++a)::c)++(ae e s2 1 aX a::(L2++As))):=m;have z:=aa.Zm m;refine aa.Ak (rs:=rs++a) (by simp[n,l]) ?_;rw[PF a l2 n,<-j,<-g];have G:(ae e d 1 aX (rs++a)::(c++L2))++As=(ae e d 1 aX (rs++a)::c)++(L2++As):=i9
 rw[G];exact z
end
end Go.Qw
