/- Lemmas for the proof of the law; no condition. -/
import Derived.Test.YtdibhfbogjngkaaGreatDoorVcA
import Derived.Sort.Grow
import Derived.Lib.SlicesCompact
import Derived.Lib.RowBridge
set_option linter.unusedVariables false
set_option linter.unusedSimpArgs false
open Nat renaming lt_trichotomy -> yz, min_eq_left -> w4
open Array renaming ext' -> yD, getElem?_eq_some_iff -> yJ, getElem?_modify -> yk, range -> xg, toList_map -> vR
open List renaming filter_cons_of_pos -> y8, getElem?_cons_zero -> yy, getElem?_mapIdx -> vl, getElem?_take -> vd, pairwise_mergeSort -> yB, range -> qy, replicate -> qh, set_comm -> vw, set_eq_take_append_cons_drop -> yc, take_zero -> vJ, zipWith -> zi
open Go.Value renaming int -> xq
open Go.IntKind renaming bits -> qk, i64 -> xx, signed -> y7, u32 -> xz, u64 -> xA, u8 -> xy, wrap -> qc
open Go.Builtin renaming append_ -> qt, clear_ -> yK, copy_ -> yp, firstCells -> wH, nextslicecap -> vk, zeroCells -> yx
open Go.Instr renaming alloc -> qL, box -> qM, buildSlice -> qq, fill -> wB, makeSlice -> qF, storeAt -> qf
open Int renaming fdiv -> qX, fdiv_eq_ediv_of_nonneg -> yN, tmod -> wi
open Option renaming some -> zR
open UInt8 renaming lt_iff_toNat_lt -> zW, ofNat -> yH
open Prod renaming fst -> qH
open BitVec renaming ofInt -> qD, ofNat_toNat -> vD, setWidth_eq -> vE
set_option maxRecDepth 100000
open Option renaming some -> dB, none -> eH
open Bool renaming true -> eL, false -> eR
open Go renaming Value -> eS, Addr -> eX
open Go.Vc renaming cellOf -> f7, Heap -> f8
open List renaming length -> ii
namespace Go.Vc
open Go
section
variable {A B:Prop}
theorem ai{p:Prop}[Decidable p](a:p->A)(b:¬p->B):Br (decide p) A B:=by
 by_cases h:p
 ·rw[g9 h];exact a h
 ·rw[hU h];exact b h
theorem cy{a b:Int}(d:a=b->A)(c:a≠b->B):Br (a==b) A B:=by
 by_cases h:a=b
 ·rw[beq_iff_eq.2 h];exact d h
 ·rw[beq_eq_false_iff_ne.2 h];exact c h
theorem cb{a b:Int}(d:a≠b->A)(c:a=b->B):Br (a !=b) A B:=by
 by_cases h:a=b
 ·rw[show(a !=b)=eR by simp[h]];exact c h
 ·rw[show(a !=b)=eL by simp[h]];exact d h
theorem bC{b:Bool}(a:b=eL->A)(c:b=eR->B):Br b A B:=by
 cases b
 ·exact c i0
 ·exact a i0
theorem bo{b:Bool}(a:b=eR->A)(c:b=eL->B):Br (!b) A B:=by
 cases b
 ·exact a i0
 ·exact c i0
theorem GS{b:Bool}(h:b=eL)(a:A):Br b A B:=by subst h;exact a
theorem Af{b:Bool}(h:b=eR)(a:B):Br b A B:=by subst h;exact a
end
theorem bj{σ:Type}{rest:σ->f8->Prop}{B:(σ->f8->Prop)->Prop}(h:B rest):bm rest B:=⟨rest,λ_ _ x=>x,h⟩
theorem bX{σ:Type}{rest:σ->f8->Prop}{B:(σ->f8->Prop)->Prop}(R:σ->f8->Prop)(b:B R)(a:∀s h,R s h->rest s h):bm rest B:=⟨R,a,b⟩
theorem aA{σ:Type}{B:σ->(σ->f8->Prop)->f8->Prop}{s:σ}{h:f8}{τ:Type}(V:τ->σ)(I:τ->f8->Prop)(μ:τ->Nat)(t0:τ)(b:s=V t0)(d:I t0 h)
  (e:∀t h,I t h->B (V t) (λc h'=>∃a,c=V a/\I a h'/\μ a<μ t) h):aL B s h:=⟨τ,V,I,μ,t0,b,d,e⟩
abbrev aD:=Nat->Prop
def be(p:aD)(h h':f8):Prop:=h.size<=h'.size/\∀b,b<h.size->p b->h'[b]?=h[b]?
def Sl.on(s:Sl)(b:Nat):Prop:=∃o,s.ptr=dB ⟨b,o,eH⟩
section
variable {p q:aD} {h h' h'':f8}
theorem be.refl(p:aD)(h:f8):be p h h:=⟨qm _,λ_ _ _=>rfl⟩
theorem be.trans(a:be p h h')(b:be p h' h''):be p h h'':=⟨zf a.1 b.1,λk c d=>(b.2 k (qW c a.1) d).trans (a.2 k c d)⟩
theorem be.then(a:be p h h')(b:be q h' h'')(e:∀k,k<h.size->p k->q k):be p h h'':=⟨zf a.1 b.1,λk c d=>(b.2 k (qW c a.1) (e k c d)).trans (a.2 k c d)⟩
theorem be.mono(a:be p h h')(d:∀b,b<h.size->q b->p b):be q h h':=⟨a.1,λk c e=>a.2 k c (d k c e)⟩
theorem be.push(p:aD)(h:f8)(o:Obj):be p h (h.push o):=⟨i9,λb a _=>by rw[Array.getElem?_push,g0 i4]⟩
theorem vM{a:eX}{v:eS}(b:f7 h a=dB v):a.block<h.size:=by
 unfold f7 at b;cases hb:h[a.block]? with
 |none=>rw[hb]at b;cases b
 |some o=>exact(yJ.1 hb).1
theorem lt_of_block{b:Nat}{o:Obj}(a:h[b]?=dB o):b<h.size:=(yJ.1 a).1
theorem be.cell(a:be p h h'){x:eX}{v:eS}(c:p x.block)(b:f7 h x=dB v):f7 h' x=dB v:=by have:=a.2 _ (vM b) c;unfold f7 at*;rw[this];exact b
theorem be.block(a:be p h h'){b:Nat}{o:Obj}(d:p b)(c:h[b]?=dB o):h'[b]?=dB o:=by rw[a.2 b (lt_of_block c) d];exact c
theorem be.cells(a:be p h h'){x:eX}(b:p x.block):∀{vs:bg} {i:Nat},aq h x i vs->aq h' x i vs
 |[],_,_=>trivial
 |v::r,i,hc=>⟨a.cell (by unfold Addr.add;split<;>exact b) hc.1,be.cells a b hc.2⟩
end
theorem add_eq(b o n:Nat):(⟨b,o,eH⟩:eX).add n=⟨b,o+n,eH⟩:=by
 unfold Addr.add;split
 ·rename_i h;subst h;rfl
 ·rfl
theorem add_zero(a:eX):a.add 0=a:=rfl
theorem Eo{h:f8}{b o:Nat}{c:Array eS}{e:TypeId}{f:Nat×Nat}(a:h[b]?=dB (.cells c e f)):f7 h ⟨b,o,eH⟩=c[o]?:=by unfold f7;rw[a];rfl
theorem aeb{h:f8}{b o:Nat}{c:Array eS}{e:TypeId}(a:h[b]?=dB (.cells c e (0,0))):Yr h ⟨b,o,eH⟩=eR:=by unfold Yr;rw[a];simp
structure Seq {α:Type} (h:f8) (p:aD) (s:Sl) (k:Nat) (f:α->bg) (l:List α):Prop where
 len:s.len=ii l
 elem:∀i x,l[i]?=dB x->∃b o,s.ptr=dB ⟨b,o,eH⟩/\p b/\aq h ⟨b,o+i*k,eH⟩ 0 (f x)
section
variable {α:Type} {h h':f8} {p q:aD} {s:Sl} {k:Nat} {f:α->bg} {l:List α}
theorem Seq.aj(a:Seq h p s k f l)(g:be p h h'):Seq h' p s k f l:=⟨a.len,λi x d=>by
 obtain⟨b,o,e,c,h3⟩:=a.elem i x d;exact⟨b,o,e,c,g.cells c h3⟩⟩
theorem Seq.mono(a:Seq h p s k f l)(g:∀b,p b->q b):Seq h q s k f l:=⟨a.len,λi x c=>by
 obtain⟨b,o,e,d,h3⟩:=a.elem i x c;exact⟨b,o,e,g b d,h3⟩⟩
theorem Seq.nil(h:f8)(p:aD)(c:Nat)(a:aO)(k:Nat)(f:α->bg):Seq h p ⟨a,0,c⟩ k f []:=⟨i0,λi x b=>by simp at b⟩
theorem Seq.bH{X:Type}{g:X->eS}(c:Seq h p s 1 f l){i:Int}(n:Nat)(d:i=n)(j:n<ii l)(x:X)(e:f l[n]=[g x]){K:X->Prop}(k:K x):
  ∃a:eX,(s.ptr=dB a/\0<=i/\i<((s.len:Nat):Int))/\∃x:X,f7 h (a.add (i.toNat*1))=dB (g x)/\K x:=by
 subst d;obtain⟨b,o,m,_,h3⟩:=c.elem n l[n] (qd j);refine⟨_,⟨m,i4,by rw[c.len];omega⟩,x,?_,k⟩;rw[e]at h3;have:=h3.1;rw[add_eq,wN]at this;rw[add_eq];simpa using this
theorem Seq.eu{X:Type}{g:X->bg}(c:Seq h p s k f l){i:Int}(n:Nat)(d:i=n)(j:n<ii l)(x:X)(e:f l[n]=g x){K:X->Prop}(m:K x):
  ∃a:eX,(s.ptr=dB a/\0<=i/\i<((s.len:Nat):Int))/\∃x:X,aq h (a.add (i.toNat*k)) 0 (g x)/\K x:=by
 subst d;obtain⟨b,o,q,_,h3⟩:=c.elem n l[n] (qd j);refine⟨_,⟨q,i4,by rw[c.len];omega⟩,x,?_,m⟩;rw[add_eq];rw[e]at h3;simpa using h3
end
def av(n:Int):bg:=[xq xx n]
def aF(n:UInt8):bg:=[xq xy n.toNat]
def fi(b:Bool):bg:=[.bool b]
def bw(s:Sl):bg:=[.slice s.ptr s.len s.cap]
structure iD {α:Type} (h:f8) (p:aD) (s:Sl) (k:Nat) (f:α->bg) (ll:List (List α)) (rs:List Sl):Prop where
 top:Seq h p s 1 bw rs
 len:ii rs=ii ll
 row:∀(i:Nat) (r:Sl) (l:List α),rs[i]?=dB r->ll[i]?=dB l->Seq h p r k f l
section
variable {α:Type} {h h':f8} {p q:aD} {s:Sl} {k:Nat} {f:α->bg} {ll:List (List α)} {rs:List Sl}
theorem iD.aj(a:iD h p s k f ll rs)(b:be p h h'):iD h' p s k f ll rs:=⟨a.top.aj b,a.len,λi r l d c=>(a.row i r l d c).aj b⟩
theorem iD.mono(a:iD h p s k f ll rs)(c:∀b,p b->q b):iD h q s k f ll rs:=⟨a.top.mono c,a.len,λi r l e d=>(a.row i r l e d).mono c⟩
theorem iD.SX(a:iD h p s k f ll rs):s.len=ii ll:=by rw[a.top.len,a.len]
theorem iD.get(c:iD h p s k f ll rs){i:Int}(n:Nat)(g:i=n)(e:n<ii ll){K:Sl->Prop}(j:∀r,Seq h p r k f ll[n]->rs[n]?=dB r->K r):
  ∃a:eX,(s.ptr=dB a/\0<=i/\i<((s.len:Nat):Int))/\∃x:Sl,f7 h (a.add (i.toNat*1))=dB (.slice x.ptr x.len x.cap)/\K x:=by
 have b:n<ii rs:=by rw[c.len];exact e
 have d:rs[n]?=dB rs[n]:=qd b;exact c.top.bH n g b rs[n] i0 (j _ (c.row n _ _ d (qd e)) d)
end
structure Own {α:Type} (h:f8) (e:TypeId) (s:Sl) (k:Nat) (f:α->bg) (l:List α):Prop where
 len:s.len=ii l
 head:(s.ptr=eH/\s.cap=0/\l=[])∨∃b rest,s.ptr=dB ⟨b,0,eH⟩/\h[b]?=dB (.cells (l.flatMap f++rest).toArray e (0,0))/\rest.length=(s.cap-s.len)*k/\s.len<=s.cap
theorem dL{α:Type}{k:Nat}{f:α->bg}(a:∀x,ii (f x)=k):∀(l:List α),ii (l.flatMap f)=ii l*k
 |[]=>i9
 |x::r=>by rw[zk,qx,a,dL a r,zn,zT];omega
theorem La{α:Type}{k:Nat}{f:α->bg}(a:∀x,ii (f x)=k):∀(l:List α) (i:Nat) (x:α),l[i]?=dB x->∃pre post,l.flatMap f=pre++f x++post/\pre.length=i*k
 |y::r,0,x,h=>by simp at h;subst h;exact⟨[],r.flatMap f,i9,i9⟩
 |y::r,i+1,x,h=>by
  obtain⟨pre,post,c,b⟩:=La a r i x j5;exact⟨f y++pre,post,o4,by rw[qx,a,b,zT];omega⟩
theorem Cy{h:f8}{b o:Nat}{e:TypeId}{fr:Nat×Nat}:∀{vs pre post:bg} {i:Nat},h[b]?=dB (.cells (pre++vs++post).toArray e fr)->ii pre=o+i->aq h ⟨b,o,eH⟩ i vs
 |[],_,_,_,_,_=>trivial
 |v::r,pre,post,i,hb,hl=>by
  refine⟨?_,Cy (pre:=pre++[v]) (post:=post) (by simpa using hb) i7⟩;rw[add_eq,Eo hb,<-hl];simp
def kf(h:f8)(b:Nat)(o:Obj):f8:=h.setIfInBounds b o
theorem iR{h:f8}{b c:Nat}{o x:Obj}(a:h[b]?=dB x):(kf h b o)[c]?=if b=c then dB o else h[c]?:=by
 unfold kf;rw[Array.getElem?_setIfInBounds];split
 ·rename_i e;subst e;rw[f9 (lt_of_block a)]
 ·rfl
theorem aaM{h:f8}{b o:Nat}{c:Array eS}{e:TypeId}{f:Nat×Nat}{v:eS}(a:h[b]?=dB (.cells c e f)):Ys h ⟨b,o,eH⟩ v=kf h b (.cells (c.setIfInBounds o v) e f):=by
 apply yL;intro i;rw[iR a];simp only[Ys,yk];split
 ·rename_i d;subst d;rw[a];rfl
 ·rfl
theorem aaN(h:f8)(b:Nat)(o a:Obj):kf (kf h b o) b a=kf h b a:=by unfold kf;simp
theorem be.kf{p:aD}{h:f8}{b:Nat}{o x:Obj}(a:h[b]?=dB x)(d:¬p b):be p h (kf h b o):=⟨by simp[Go.Vc.kf],λc _ f=>by
 rw[iR a,g0 λe=>d (by rw[e];exact f)]⟩
theorem fC{P:Program}{b o:Nat}{e:TypeId}{K:Unit->f8->Prop}:∀{vs pre old post:bg} {i:Nat} {h:f8},h[b]?=dB (.cells (pre++old++post).toArray e (0,0))->ii old=ii vs->ii pre=o+i->
  (∀v∈vs,v.oneCell'=eL)->K () (kf h b (.cells (pre++vs++post).toArray e (0,0)))->ag P (storeCells ⟨b,o,eH⟩ vs i) h K
 |[],pre,old,post,i,h,hb,hl,hp,hv,hk=>by
  have:old=[]:=za (by simpa using hl);subst this;refine ag.pure' ?_;have f:kf h b (.cells (pre++[]++post).toArray e (0,0))=h:=by
   apply yL;intro c;rw[iR hb];split
   ·rename_i d;subst d;exact hb.symm
   ·rfl
  rw[f]at hk;exact hk
 |v::r,pre,old,post,i,h,hb,hl,hp,hv,hk=>by
  cases old with
  |nil=>simp at hl
  |cons u old=>
   simp only[storeCells];refine ag.bind ?_;rw[add_eq];have d:f7 h ⟨b,o+i,eH⟩=dB u:=by rw[Eo hb,<-hp];simp
   refine ag.ahZ (hv v i9) d (aeb hb) ?_;rw[aaM hb];have a:(pre++(u::old)++post).toArray.setIfInBounds (o+i) v=((pre++[v])++old++post).toArray:=by rw[<-hp];apply yD;simp
   rw[a];refine fC (e:=e) (pre:=pre++[v]) (old:=old) (post:=post) ?_ (by simpa using hl) i7 (λx g=>hv x o5) ?_
   ·rw[iR hb,f9 rfl]
   ·rw[aaN];simpa using hk
theorem OO{P:Program}{h:f8}{a:eX}{vs:bg}{n:Nat}{K:Array eS->f8->Prop}(e:ii vs=n)(b:aq h a 0 vs)(c:K vs.toArray h):ag P (loadCells a n) h K:=λw d=>by
 subst d;refine⟨vs.toArray,w,?_,dE.refl w,c⟩;have:=run_loadCells (P:=P) (w:=w) (a:=a) vs 0 #[] b;rw[e]at this;unfold loadCells;rw[this];simp
section
variable {α:Type} {h h':f8} {p:aD} {e:TypeId} {s:Sl} {k:Nat} {f:α->bg} {l:List α}
theorem Own.lt(c:Own h e s k f l){b:Nat}(a:s.on b):b<h.size:=by
 rcases c.head with⟨h1,_,_⟩|⟨b',rest,h1,h2,_,_⟩
 ·obtain⟨o,h0⟩:=a;rw[h1]at h0;cases h0
 ·obtain⟨o,h0⟩:=a;rw[h1]at h0;cases h0;exact lt_of_block h2
theorem Own.aj(c:Own h e s k f l)(d:be p h h')(a:∀b,s.on b->p b):Own h' e s k f l:=⟨c.len,by
 rcases c.head with h1|⟨b,rest,h1,h2,h3,h4⟩
 ·exact .inl h1
 ·exact .inr ⟨b,rest,h1,d.block (a b ⟨0,h1⟩) h2,h3,h4⟩⟩
theorem Own.seq(c:Own h e s k f l)(j:∀x,ii (f x)=k)(a:∀b,s.on b->p b):Seq h p s k f l:=⟨c.len,λi x d=>by
 rcases c.head with⟨_,_,h1⟩|⟨b,rest,h1,h2,h3,h4⟩
 ·subst h1;simp at d
 ·obtain⟨pre,post,g,m⟩:=La j l i x d;refine⟨b,0,h1,a b ⟨0,h1⟩,Cy (e:=e) (fr:=(0,0)) (pre:=pre) (post:=post++rest) ?_ i4⟩;rw[h2,g];simp⟩
theorem Own.nil(h:f8)(e:TypeId)(k:Nat)(f:α->bg):Own h e ⟨eH,0,0⟩ k f []:=⟨i0,.inl ⟨i0,i0,i0⟩⟩
theorem Own.cap(a:Own h e s k f l):s.len<=s.cap:=by
 rcases a.head with⟨h1,h2,h3⟩|⟨b,rest,h1,h2,h3,h4⟩
 ·have:=a.len;rw[h3]at this;simp at this;omega
 ·exact h4
end
theorem ag.always{α:Type}{P:Program}{s:Sem α}{v:α}{h:f8}{K:α->f8->Prop}(c:aN P s v)(b:K v h):ag P s h K:=λw a=>⟨v,w,c w,dE.refl w,by rw[a];exact b⟩
structure bY (C:Di) (t e k:Nat) (z:bg) (by_:Nat):Prop where
 ex:∃i j,C.T.get t=dB i/\i.cZ=.slice e/\C.T.get e=dB j/\j.size=k/\j.zero=z/\j.bytes=by_
section
variable {C:Ctx} {t e k:Nat} {z:bg} {by_:Nat}
theorem bY.under(d:bY C.toDi t e k z by_)(a:C.Ok):C.P.underlying t=dB (.slice e):=by obtain⟨i,j,c,b,_⟩:=d.ex;have:=a.cZ c;rw[b]at this;exact jN this
theorem bY.size(d:bY C.toDi t e k z by_)(a:C.Ok):aN C.P (sizeOf e) k:=by obtain⟨i,j,_,_,c,b,_⟩:=d.ex;rw[<-b];exact ee a.toOk c
theorem bY.info(p:bY C.toDi t e k z by_)(c:C.Ok):∃f,C.P.info? e=dB f/\f.size=k/\f.bytes=by_/\∃a,f.zero=dB a/\a.cells=z.toArray:=by obtain⟨i,j,_,_,o,l,h3,n⟩:=p.ex;obtain⟨f,m,d,h,a,b,g⟩:=c.info o;exact⟨f,m,d.trans l,h.trans n,a,b,by apply yD;rw[g,h3]⟩
end
def jd(z:bg):Nat->bg
 |0=>[]
 |n+1=>z++jd z n
theorem pd(z:bg):∀n,ii (jd z n)=n*ii z
 |0=>by simp[jd]
 |n+1=>by rw[jd,qx,pd z n,zT];omega
theorem SY(z:bg):∀(n i:Nat),i<n*ii z->(jd z n)[i]?=z[i%ii z]?
 |0,i,h=>m8
 |n+1,i,h=>by
  have b:0<ii z:=Nat.pos_of_ne_zero λe=>by rw[e]at h;simp at h
  rw[jd];by_cases a:i<ii z
  ·rw[qo a,Nat.mod_eq_of_lt a]
  ·rw[qj i4,SY z n (i-ii z) (by rw[zT]at h;omega)];congr 1
   conv=>rhs;rw[show i=(i-ii z)+ii z by omega,Nat.add_mod_right]
theorem SZ(z:bg)(n m:Nat)(c:m=n*ii z):((xg m).map λi=>z.toArray[i%z.toArray.size]!)=(jd z n).toArray:=by
 apply yL;intro i;subst c;simp only[Array.getElem?_map,Array.getElem?_range,zV];by_cases a:i<n*ii z
 ·rw[SY z n i a];have b:0<ii z:=Nat.pos_of_ne_zero λe=>by rw[e]at a;simp at a
  have:=vj i b;simp[a,this]
 ·rw[qQ (by rw[pd];omega)];simp[a]
theorem GU(z:bg)(n:Nat):yx z.toArray n=(jd z n).toArray:=SZ z n _ i9
theorem XD(a:Nat):∀(r c:Nat),Builtin.growBy a r c<=(c+768)*2^r
 |0,c=>by simp[Builtin.growBy]
 |r+1,c=>by
  unfold Builtin.growBy;split
  ·exact zf (Nat.le_add_right c 768) (Nat.le_mul_of_pos_right _ (Nat.two_pow_pos _))
  ·refine zf (XD a r _) ?_;rw[Nat.pow_succ,Nat.mul_comm (2^r) 2,<-Nat.mul_assoc];exact zH _ i4
theorem ajH(o n:Nat)(h:o<n):(o+768)*2^4<=16*n+16*768:=i4
theorem XE(a b:Nat)(h:b<a:=by omega):vk a b<=16*a+16*768:=by
 unfold vk;split
 ·omega
 ·split
  ·omega
  ·exact zf (XD a 4 b) (ajH _ _ h)
section
variable {C:Ctx} {t t2 e k:Nat} {z:bg} {by_:Nat} {α:Type} {h:f8} {p:aD} {s v:Sl} {f:α->bg} {l l2:List α}
theorem gP{P:Program}{K:Array eS->f8->Prop}(w:∀x,ii (f x)=k)(g:Seq h p v k f l)(q:K (l.flatMap f).toArray h):
  ag P (wH k v.len (.slice v.ptr v.len v.cap)) h K:=by
 cases hp:v.ptr with
 |none=>
  have:l=[]:=by
   cases l with
   |nil=>rfl
   |cons x r=>obtain⟨b,o,c,_⟩:=g.elem 0 x i9;rw[hp]at c;cases c
  subst this;exact ag.pure' q
 |some a=>
  refine OO (by rw[dL w,<-g.len]) ?_ q;cases l with
  |nil=>trivial
  |cons t r0=>
   obtain⟨b,o,c,_,_⟩:=g.elem 0 t i9;rw[hp]at c;cases c;have j:∀(r:List α) (n:Nat),(∀i x,r[i]?=dB x->aq h ⟨b,o+(n+i)*k,eH⟩ 0 (f x))->aq h ⟨b,o,eH⟩ (n*k) (r.flatMap f):=by
    intro r
    induction r with
    |nil=>intro n _;trivial
    |cons x r ih=>
     intro n s;have h0:=s 0 x i9;have e:=ih (n+1) (λi y A=>by have:=s (i+1) y (by simpa using A);rw[show n+1+i=n+(i+1)by omega];exact this);rw[zk];have app:∀(us vs:bg) (i:Nat),aq h ⟨b,o,eH⟩ i us->aq h ⟨b,o,eH⟩ (i+ii us) vs->aq h ⟨b,o,eH⟩ i (us++vs):=by
      intro us
      induction us with
      |nil=>intro vs i _ e;simpa using e
      |cons u us ih=>intro vs i c e;exact⟨c.1,ih vs (i+1) c.2 (by rw[show i+1+ii us=i+(ii us+1)by omega];exact e)⟩
     refine app _ _ _ ?_ (by rw[w,<-zT];exact e);have d:∀(us:bg) (i m:Nat),aq h ⟨b,o+m,eH⟩ i us->aq h ⟨b,o,eH⟩ (m+i) us:=by
      intro us
      induction us with
      |nil=>intros;trivial
      |cons u us ih=>
       intro i m c;refine⟨?_,ih (i+1) m c.2⟩;have:=c.1;rw[add_eq]at this⊢;rw[<-wX];exact this
     have:=d (f x) 0 ((n+0)*k) h0;simpa using this
   have:=j (t::r0) 0 (λi x z=>by
    obtain⟨D,B,c,_,h3⟩:=g.elem i x z;rw[hp]at c;cases c;simpa using h3)
   simpa using this
theorem YB(A:C.Ok)(Q:bY C.toDi t e k z by_)(X:∃i e2,C.T.get t2=dB i/\i.cZ=.slice e2)(hz:ii z=k)(J:0<by_/\by_<=128)(m:∀x,ii (f x)=k)
  (w:Own h e s k f l) (B:Seq h p v k f l2) (u:∀x,∀c∈f x,c.oneCell'=eL) (ab:ii l+ii l2<=2^32) {ty:Nat} {K:Sl->f8->Prop}
  (F:∀I h',Own h' e I k f (l++l2)->be (λb=>¬s.on b) h h'->(∀b,I.on b->s.on b∨h.size<=b)->K I h'):
  aB C.P (qt #[t,t2] ty #[.slice s.ptr s.len s.cap,.slice v.ptr v.len v.cap]) (.one (.sc .slc)) h K:=by
 obtain⟨i2,e2,g1,U⟩:=X;have N:C.P.underlying t2=dB (.slice e2):=by have:=A.cZ g1;rw[U]at this;exact jN this
 obtain⟨D,y,x2,x3,Y,x4,x5⟩:=Q.info A;unfold aB qt;simp only[zV,yy,qw];refine ag.bind (ag.always (aW (Q.under A)) ?_);refine ag.bind (ag.always (Q.size A) ?_);refine ag.bind (ag.always (aW N) ?_);refine ag.bind (ag.pure' ?_);simp only[zj,if_false,ye,if_true];refine ag.bind (ag.pure' ?_);have q:=w.len;have O:=B.len;by_cases g:s.len+v.len<=s.cap
 ·rw[f9 g];refine ag.bind (gP m B ?_);rcases w.head with⟨p1,p2,p3⟩|⟨b,rest,p1,p2,p3,p4⟩
  ·rw[p1];have E:l2=[]:=za i4;subst E;refine ag.pure' ⟨⟨eH,s.len+v.len,s.cap⟩,i0,F _ _ ⟨?_,.inl ⟨i0,p2,by simp[p3]⟩⟩ (be.refl _ _) ?_⟩
   ·simp;omega
   ·rintro R ⟨o,d⟩;cases d
  ·rw[p1];refine ag.bind ?_;rw[add_eq,wk];have j:=dL m l;have a:=dL m l2;have G:ii (l2.flatMap f)<=ii rest:=by rw[a,p3];exact zH k i4
   refine fC (e:=e) (pre:=l.flatMap f) (old:=rest.take (l2.flatMap f).length) (post:=rest.drop (l2.flatMap f).length) ?_ ?_ ?_ ?_ ?_
   ·rw[qp,qE];exact p2
   ·rw[q8];exact w4 G
   ·rw[j,q];omega
   ·intro c hc;obtain⟨x,_,L⟩:=zP.1 hc;exact u x c L
   ·refine ag.pure' ⟨⟨dB ⟨b,0,eH⟩,s.len+v.len,s.cap⟩,i0,F _ _ ⟨?_,.inr ⟨b,rest.drop (l2.flatMap f).length,i0,?_,?_,g⟩⟩ ?_ ?_⟩
    ·simp;omega
    ·rw[iR p2,f9 rfl];simp
    ·rw[ze,p3,a,<-Nat.sub_mul];show(s.cap-s.len-ii l2)*k=(s.cap-(s.len+v.len))*k;congr 1;omega
    ·exact be.kf p2 (λW=>W ⟨0,p1⟩)
    ·rintro R ⟨o,d⟩;cases d;exact .inl ⟨0,p1⟩
 ·rw[g0 g];have r:Seq h (λ_=>True) s k f l:=w.seq m λ_ _=>trivial;have S:=w.cap;refine ag.bind (ag.always (dw y) ?_);rw[g0 λhh=>by rcases hh.2 with h|h<;>first|exact h|(rw[x3]at h;omega)];refine ag.bind (ag.always (dw y) ?_);have ad:=XE (s.len+v.len) s.cap;rw[g0 (by
   have:vk (s.len+v.len) s.cap*D.bytes<=(16*2^32+16*768)*128:=wq i4 (by rw[x3];exact J.2);omega)]
  refine ag.bind (ag.OK ⟨λV=>(by cases V),λ_ Z=>?_⟩);refine ag.bind (ag.always (dw y) ?_);refine ag.bind (ag.KU ?_);refine ag.bind (gP m r ?_);refine ag.bind (gP m B ?_);have M:aN C.P (zeroValue e) Y:=(dw y).bind (by rw[x4];exact .pure);refine ag.bind (ag.always M ?_);rw[x5,GU];unfold newRow;refine ag.bind (ag.bind (ag.sN (ag.pure' (ag.pure' ?_))));generalize H:Question.cut (Question.appendCap (s.len+v.len) s.cap e) Z=cc;have n:s.len+v.len<=cc:=by rw[<-H];simp only[Question.cut];omega
  refine⟨⟨dB ⟨h.size,0,eH⟩,s.len+v.len,cc⟩,i0,F _ _ ⟨?_,.inr ⟨h.size,jd z (cc-(s.len+v.len)),i0,?_,?_,n⟩⟩ (be.push _ _ _) ?_⟩
  ·simp;omega
  ·simp
  ·rw[pd,hz]
  ·rintro R ⟨o,d⟩;cases d;exact .inr (qm _)
end
structure cx (h:f8) (a:eX) (e:TypeId) (cs:bg):Prop where
 off:a.off=0
 spot:a.spot=eH
 fY:h[a.block]?=dB (.cells cs.toArray e (0,0))
section
variable {h h':f8} {a:eX} {e:TypeId} {cs:bg} {p:aD}
theorem cx.addr(c:cx h a e cs):a=⟨a.block,0,eH⟩:=by
 obtain⟨b,o,s⟩:=a;have:=c.off;have:=c.spot
 simp_all
theorem cx.aj(b:cx h a e cs)(c:be p h h')(d:p a.block):cx h' a e cs:=⟨b.off,b.spot,c.block d b.fY⟩
theorem cx.lt(b:cx h a e cs):a.block<h.size:=lt_of_block b.fY
theorem cx.cell(b:cx h a e cs){j:Nat}{v:eS}(c:cs[j]?=dB v):f7 h (a.add j)=dB v:=by rw[b.addr,add_eq,Eo b.fY];simpa using c
theorem cx.cell0(b:cx h a e cs){v:eS}(c:cs[0]?=dB v):f7 h a=dB v:=b.cell (j:=0) c
theorem cx.cells(d:cx h a e cs)(j:Nat)(vs:bg)(c:(cs.drop j).take vs.length=vs):aq h (a.add j) 0 vs:=by
 rw[d.addr,add_eq,wk];have b:ii vs<=ii (cs.drop j):=by have:=congrArg List.length c;rw[q8]at this;omega
 rcases Nat.lt_or_ge cs.length j with hj|hj
 ·rw[ze]at b;have:vs=[]:=za i4;subst this;trivial
 ·refine Cy (e:=e) (fr:=(0,0)) (pre:=cs.take j) (post:=(cs.drop j).drop vs.length) ?_ i7;have:cs.take j++vs++(cs.drop j).drop vs.length=cs:=by
   conv=>lhs;rw[qp];arg 2;arg 1;rw[<-c]
   rw[qE,qE]
  rw[this];exact d.fY
theorem cx.aU(b:cx h a e cs)(vs:bg)(c:cs.take vs.length=vs):aq h a 0 vs:=b.cells 0 vs c
end
section
variable {C:Ctx} {t:Nat} {i:TI} {h:f8}
theorem BF(c:C.Ok)(d:C.T.get t=dB i){K:eX->f8->Prop}(e:∀a h',a.block=h.size->cx h' a t i.zero->be (λ_=>True) h h'->h'.size=h.size+1->K a h'):
  aS C.P (qL t eL (.tuple #[])) h K:=by
 obtain⟨z,f,b⟩:=tz c.toOk d;unfold aS qL;refine ag.bind (ag.always f ?_);refine ag.bind (ag.bind (ag.bind (ag.sN (ag.pure' (ag.pure' (ag.pure' ?_))))));refine⟨⟨h.size,0,eH⟩,i0,e _ _ i0 ⟨i0,i0,?_⟩ (be.push _ _ _) i9⟩;rw[<-b];simp
theorem XF{v:eS}{P:Program}{K:eX->f8->Prop}(b:∀a h',a.block=h.size->cx h' a t v.cells.toList->be (λ_=>True) h h'->h'.size=h.size+1->K a h'):
  aS P (qM t v) h K:=by
 unfold aS qM;refine ag.bind (ag.bind (ag.bind (ag.sN (ag.pure' (ag.pure' (ag.pure' ?_))))));refine⟨⟨h.size,0,eH⟩,i0,b _ _ i0 ⟨i0,i0,?_⟩ (be.push _ _ _) i9⟩;simp
theorem run_store(m:C.Ok){a:eX}{e:TypeId}{b:bg}(c:cx h a e b)(n:C.T.get t=dB i)(off:Nat){v:eS}(vs:bg)(j:v.cells=vs.toArray)(f:i.size=ii vs)
  (d:vs.all (·.oneCell')=eL) (g:off+ii vs<=ii b) {K:Unit->f8->Prop}
  (k:∀h',cx h' a e (b.take off++vs++b.drop (off+ii vs))->be (·≠a.block) h h'->h'.size=h.size->K () h'):
  ag C.P (qf t (.pointer (dB (a.add off))) v) h K:=by
 have l:=c.addr;unfold qf;refine ag.bind (ag.pure' ?_);unfold storeVar;refine ag.bind (ag.always (ee m.toOk n) ?_);rw[j,f];simp only[yf,ne_eq,not_true,if_false];rw[l,add_eq,wk];refine fC (e:=e) (pre:=b.take off) (old:=(b.drop off).take vs.length) (post:=b.drop (off+ii vs)) ?_ ?_ ?_ ?_ ?_
 ·have:b.take off++(b.drop off).take vs.length++b.drop (off+ii vs)=b:=by rw[<-zI,qp,qE,qE]
  rw[this];exact c.fY
 ·simp;omega
 ·simp;omega
 ·intro x o;have:=q9.1 d x o;exact this
 ·refine k _ ⟨c.off,c.spot,?_⟩ (be.kf c.fY i9) (by simp[kf]);rw[iR c.fY,f9 rfl]
theorem Ep(g:C.Ok){a:eX}{e:TypeId}{d:bg}(m:cx h a e d)(j:C.T.get t=dB i){v:eS}(vs:bg)(k:v.cells=vs.toArray)(c:i.size=ii vs)
  (b:vs.all (·.oneCell')=eL) (f:ii vs<=ii d) {K:Unit->f8->Prop}
  (l:∀h',cx h' a e (vs++d.drop vs.length)->be (·≠a.block) h h'->h'.size=h.size->K () h'):
  ag C.P (qf t (.pointer (dB a)) v) h K:=
 run_store g m j 0 vs k c b i4 (λh' x y z=>l h' o1 y z)
end
section
variable {C:Ctx} {t e k:Nat} {z:bg} {by_:Nat} {α:Type} {h:f8} {p:aD} {s v:Sl} {f:α->bg} {l l2:List α}
theorem GV{a:α}(b:f a=z):∀n,jd z n=(qh n a).flatMap f
 |0=>rfl
 |n+1=>by rw[jd,List.replicate_succ,zk,b,GV b n]
theorem al(x:Int)(c:-9223372036854775808<=x:=by omega)(b:x<=9223372036854775807:=by omega):qc xx x=x:=by
 show(if(eL&&decide (x%2^64>=2^63))=eL then x%2^64-2^64 else x%2^64)=x;by_cases a:x%2^64>=2^63
 ·rw[f9 (by rw[wg];exact g9 a)];omega
 ·rw[g0 (by rw[wg];exactλh=>a (hZ h))];omega
theorem run_make(q:C.Ok)(u:bY C.toDi t e k z by_)(p:0<by_/\by_<=128)(r:α)(A:f r=z)(d:ii z=k){G J:IntKind}{n c:Int}(m b:Nat)(E:n=m)(I:c=b)(o:m<=b)(w:b<=2^32)
  {K:Sl->f8->Prop} (D:∀j h',Own h' e j k f (qh m r)->j.ptr=dB ⟨h.size,0,eH⟩->j.cap=b->be (λ_=>True) h h'->h'.size=h.size+1->K j h'):
  aB C.P (qF t (.int G n) (.int J c)) (.one (.sc .slc)) h K:=by
 subst E;subst I;obtain⟨l,B,x2,x3,F,N,H⟩:=u.info q;unfold aB qF;refine ag.bind (ag.always (aW (u.under q)) ?_);refine ag.bind (ag.pure' ?_);refine ag.bind (ag.pure' ?_);refine ag.bind (ag.always (dw B) ?_);have M:qc xx (m:Int)=m:=al _;have L:qc xx (b:Int)=b:=al _;have O:¬((l.bytes:Int)*(b:Int)>2^48):=by
  rw[x3];have:by_*b<=128*2^32:=wq p.2 w;have:((by_:Int)*(b:Int))<=((128*2^32:Nat):Int):=by exact_mod_cast this
  omega
 simp only[M,L];rw[g0 i7];refine ag.bind (ag.KU ?_);refine ag.bind (ag.always (u.size q) ?_);have s:aN C.P (zeroValue e) F:=(dw B).bind (by rw[N];exact .pure);have fin:∀g:Array eS,(b*k≠0->g=z.toArray)->ag C.P (do
   let a<-newRow e ((xg (b*k)).map (g[·%g.size]!))
   pure (Value.slice (dB a) m b)) h (λv h'=>∃x:(Rt.one (.sc .slc)).den,v=(Rt.one (.sc .slc)).enc x/\K x h'):=by
  intro g y;have i:((xg (b*k)).map (g[·%g.size]!))=(jd z b).toArray:=by
   by_cases h0:b*k=0
   ·rw[h0];have:jd z b=[]:=za (by rw[pd,d,h0]);rw[this];simp
   ·rw[y h0];exact SZ z b _ (by rw[d])
  rw[i];refine ag.bind (ag.bind (ag.sN (ag.pure' (ag.pure' ?_))));refine⟨⟨dB ⟨h.size,0,eH⟩,m,b⟩,i0,D _ _ ⟨i9,.inr ⟨h.size,jd z (b-m),i0,?_,?_,o⟩⟩ i0 i0 (be.push _ _ _) i9⟩
  ·have:jd z b=(qh m r).flatMap f++jd z (b-m):=by rw[GV A,GV A,<-zd,List.replicate_append_replicate];congr 2;omega
   rw[this];simp
  ·rw[pd,d]
 simp only[ql];by_cases h0:b*k=0
 ·rw[f9 h0];exact ag.bind (ag.pure' (fin _ λh=>absurd h0 h))
 ·rw[g0 h0];refine ag.bind (ag.always s ?_);exact ag.bind (ag.pure' (fin _ λ_=>H))
theorem OP(m:C.Ok)(p:bY C.toDi t e k z by_)(g:ii z=k){n:Nat}{parts:Array (Nat×eS)}(l:List α)(u:ii l=n)(w:n*k<=2^20)
  (b:wB (λi=>dB (i*k,k)) (jd z n).toArray parts.toList=dB (l.flatMap f).toArray) {K:Sl->f8->Prop}
  (s:∀j h',Own h' e j k f l->j.ptr=dB ⟨h.size,0,eH⟩->be (λ_=>True) h h'->h'.size=h.size+1->K j h'):
  aB C.P (qq t n parts) (.one (.sc .slc)) h K:=by
 obtain⟨r,A,x2,x3,y,D,B⟩:=p.info m;unfold aB qq;refine ag.bind (ag.always (aW (p.under m)) ?_);refine ag.bind (ag.always (p.size m) ?_);rw[g0 i4];have o:aN C.P (zeroValue e) y:=(dw A).bind (by rw[D];exact .pure);have fin:∀c:Array eS,(n*k≠0->c=z.toArray)->ag C.P (do
   let dB cells:=wB (λi=>dB (i*k,k)) ((xg (n*k)).map (c[·%c.size]!)) parts.toList
    |stuck "buildSlice: a part of the wrong size"
   pure (Value.slice (dB (<-newRow e cells)) n n)) h (λv h'=>∃x:(Rt.one (.sc .slc)).den,v=(Rt.one (.sc .slc)).enc x/\K x h'):=by
  intro c q;have d:((xg (n*k)).map (c[·%c.size]!))=(jd z n).toArray:=by
   by_cases h0:n*k=0
   ·rw[h0];have:jd z n=[]:=za (by rw[pd,g,h0]);rw[this];simp
   ·rw[q h0];exact SZ z n _ (by rw[g])
  rw[d,b];refine ag.bind (ag.bind (ag.sN (ag.pure' (ag.pure' ?_))));refine⟨⟨dB ⟨h.size,0,eH⟩,n,n⟩,i0,s _ _ ⟨u.symm,.inr ⟨h.size,[],i0,i9,i9,qm _⟩⟩ i0 (be.push _ _ _) i9⟩
 by_cases h0:n*k=0
 ·rw[f9 h0];exact ag.bind (ag.pure' (fin _ λh=>absurd h0 h))
 ·rw[g0 h0];refine ag.bind (ag.always o ?_);exact ag.bind (ag.pure' (fin _ λ_=>B))
theorem Own.set{i:TI}(B:C.Ok)(q:Own h e s k f l)(p:∀x,ii (f x)=k)(D:C.T.get t=dB i){x:Int}(n:Nat)(E:x=n)(u:n<ii l){m:eS}(y:α)(z:m.cells=(f y).toArray)(v:i.size=k)
  (o:(f y).all (·.oneCell')=eL) {K:f8->Prop} (A:∀h',Own h' e s k f (l.set n y)->be (λb=>¬s.on b) h h'->h'.size=h.size->K h'):
  ∃a:eX,(s.ptr=dB a/\0<=x/\x<((s.len:Nat):Int))/\ag C.P (qf t (.pointer (dB (a.add (x.toNat*k)))) m) h λ_ h'=>K h':=by
 subst E;rcases q.head with⟨_,_,h3⟩|⟨b,rest,h1,h2,h3,h4⟩
 ·subst h3;simp at u
 ·refine⟨_,⟨h1,i4,by rw[q.len];omega⟩,?_⟩;unfold qf;refine ag.bind (ag.pure' ?_);unfold storeVar;refine ag.bind (ag.always (ee B.toOk D) ?_);rw[z,v];have r:=p y;simp only[yf,r,ne_eq,not_true,if_false];rw[add_eq,wk,ql];have d:l=l.take n++l[n]::l.drop (n+1):=by rw[<-qP u,qE]
  have g:l.set n y=l.take n++y::l.drop (n+1):=yc.trans (f9 u);have j:ii ((l.take n).flatMap f)=n*k:=by rw[dL p,q8,w4 i4]
  refine fC (e:=e) (pre:=(l.take n).flatMap f) (old:=f l[n]) (post:=(l.drop (n+1)).flatMap f++rest) ?_ ?_ ?_ ?_ ?_
  ·have:l.flatMap f++rest=(l.take n).flatMap f++f l[n]++((l.drop (n+1)).flatMap f++rest):=by have w:=congrArg (List.flatMap f) d;rw[zd,zk]at w;rw[w];simp
   rw[<-this];exact h2
  ·rw[p,p]
  ·rw[j];omega
  ·intro c F;have:=q9.1 o c F;exact this
  ·refine A _ ⟨by rw[zh];exact q.len,.inr ⟨b,rest,h1,?_,h3,h4⟩⟩ (be.kf h2 λG=>G ⟨0,h1⟩) (by simp[kf]);rw[iR h2,f9 i0,g];simp
end
def grow(c:Nat->Nat)(n i:Nat):Nat->Nat:=λb=>if b<n then c b else i
theorem gK{c:Nat->Nat}{n i b:Nat}(h:b<n):grow c n i b=c b:=f9 h
theorem sS{c:Nat->Nat}{n i b:Nat}(h:n<=b:=by omega):grow c n i b=i:=g0 i4
structure dQ {α:Type} (h:f8) (c:Nat->Nat) (i:Nat) (e:TypeId) (s:Sl) (k:Nat) (f:α->bg) (l:List α):Prop where
 own:Own h e s k f l
 bD:∀b,s.on b->c b=i
structure li (h:f8) (c:Nat->Nat) (i:Nat) (a:eX) (e:TypeId) (cs:bg):Prop where
 box:cx h a e cs
 bD:c a.block=i
structure ni (h0 h:f8) (c:Nat->Nat):Prop where
 aj:be (λb=>b<h0.size) h0 h
 bD:∀b,b<h0.size->c b=0
section
variable {α:Type} {h h' h0:f8} {c:Nat->Nat} {i j n m:Nat} {e:TypeId} {s:Sl} {k:Nat} {f:α->bg} {l:List α} {a:eX} {cs:bg}
theorem dQ.keep(a:dQ h c j e s k f l)(n:be (λb=>c b≠i) h h')(g:j≠i):dQ h' (grow c h.size m) j e s k f l:=
 ⟨a.own.aj n λb d=>by rw[a.bD b d];exact g,λb d=>by rw[gK (a.own.lt d)];exact a.bD b d⟩
theorem li.keep(d:li h c j a e cs)(g:be (λb=>c b≠i) h h')(f:j≠i):li h' (grow c h.size m) j a e cs:=
 ⟨d.box.aj g (by rw[d.bD];exact f),by rw[gK d.box.lt];exact d.bD⟩
theorem ni.keep(a:ni h0 h c)(f:be (λb=>c b≠i) h h')(e:i≠0):ni h0 h' (grow c h.size m):=
 ⟨a.aj.then f λb d _=>by rw[a.bD b d];exact e.symm,λb d=>by rw[gK (qW d a.aj.1)];exact a.bD b d⟩
theorem ni.refl(h:f8):ni h h (λ_=>0):=⟨be.refl _ _,λ_ _=>rfl⟩
theorem dQ.seq(a:dQ h c j e s k f l)(d:∀x,ii (f x)=k):Seq h (λb=>c b=j) s k f l:=a.own.seq d a.bD
theorem dQ.YC(a:dQ h c j e s k f l)(d:∀x,ii (f x)=k):Seq h (λb=>b<h.size) s k f l:=a.own.seq d λ_ g=>a.own.lt g
theorem dQ.nil(h:f8)(c:Nat->Nat)(i:Nat)(e:TypeId)(k:Nat)(f:α->bg):dQ h c i e ⟨eH,0,0⟩ k f []:=⟨Own.nil h e k f,λb d=>by obtain⟨o,a⟩:=d;cases a⟩
theorem be.bD(a:be (λ_=>True) h h')(c:Nat->Nat)(i:Nat):be (λb=>c b≠i) h h':=a.mono λ_ _ _=>trivial
end
section
variable {α:Type} {C:Ctx} {h h' h0:f8} {c:Nat->Nat} {i:Nat} {e t t2:Nat} {s v:Sl} {k by_:Nat} {f:α->bg} {l l2:List α} {a:eX} {cs z:bg} {p:aD} {ti:TI}
theorem wd(d:C.Ok)(_:ni h0 h c)(i:Nat)(e:C.T.get t=dB ti){K:eX->f8->Prop}(f:∀a h',li h' (grow c h.size i) i a t ti.zero->be (λb=>c b≠i) h h'->K a h'):
  aS C.P (qL t eL (.tuple #[])) h K:=
 BF d e λa h' x y z _=>f a h' ⟨y,by rw[sS]⟩ (z.bD c i)
theorem Ta(P:Program)(_:ni h0 h c)(i:Nat){v:eS}{K:eX->f8->Prop}(d:∀a h',li h' (grow c h.size i) i a t v.cells.toList->be (λb=>c b≠i) h h'->K a h'):
  aS P (qM t v) h K:=
 XF λa h' x y z _=>d a h' ⟨y,by rw[sS]⟩ (z.bD c i)
theorem li.store(o:C.Ok)(g:li h c i a e cs)(p:C.T.get t=dB ti)(off:Nat){v:eS}(vs:bg)(l:v.cells=vs.toArray)(k:ti.size=ii vs)
  (f:vs.all (·.oneCell')=eL) (d:off+ii vs<=ii cs) {K:Unit->f8->Prop}
  (m:∀h',li h' (grow c h.size i) i a e (cs.take off++vs++cs.drop (off+ii vs))->be (λb=>c b≠i) h h'->K () h'):
  ag C.P (qf t (.pointer (dB (a.add off))) v) h K:=
 run_store o g.box p off vs l k f d λh' x y z=>m h' ⟨x,by rw[gK g.box.lt];exact g.bD⟩ (y.mono λb _ j n=>j (by rw[n];exact g.bD))
theorem li.kg(j:C.Ok)(n:li h c i a e cs)(k:C.T.get t=dB ti){v:eS}(vs:bg)(l:v.cells=vs.toArray)(f:ti.size=ii vs)
  (d:vs.all (·.oneCell')=eL) (g:ii vs<=ii cs) {K:Unit->f8->Prop}
  (m:∀h',li h' (grow c h.size i) i a e (vs++cs.drop vs.length)->be (λb=>c b≠i) h h'->K () h'):
  ag C.P (qf t (.pointer (dB a)) v) h K:=
 n.store j k 0 vs l f d i4 (λh' x y=>m h' o1 y)
theorem BG(A:C.Ok)(_:ni h0 h c)(i:Nat)(f:α->bg)(D:bY C.toDi t e k z by_)(d:0<by_/\by_<=128)(j:α)(w:f j=z)(g:ii z=k){u E:IntKind}{n q:Int}(m:Nat)(s:n=m)(B:q=m)(l:m<=2^32)
  {K:Sl->f8->Prop} (r:∀a h',dQ h' (grow c h.size i) i e a k f (qh m j)->be (λb=>c b≠i) h h'->K a h'):
  aB C.P (qF t (.int u n) (.int E q)) (.one (.sc .slc)) h K:=
 run_make A D d j w g m m s B (qm _) l λa h' x y _ z _=>r a h' ⟨x,λb v=>by obtain⟨o,p⟩:=v;rw[y]at p;cases p;rw[sS (qm _)]⟩ (z.bD c i)
theorem Lb(s:C.Ok)(_:ni h0 h c)(i:Nat)(f:α->bg)(u:bY C.toDi t e k z by_)(j:ii z=k){n:Nat}{parts:Array (Nat×eS)}(l:List α)(q:ii l=n)(g:n*k<=2^20)
  (a:wB (λi=>dB (i*k,k)) (jd z n).toArray parts.toList=dB (l.flatMap f).toArray) {K:Sl->f8->Prop}
  (p:∀d h',dQ h' (grow c h.size i) i e d k f l->be (λb=>c b≠i) h h'->K d h'):
  aB C.P (qq t n parts) (.one (.sc .slc)) h K:=
 OP s u j l q g a λd h' x y z _=>p d h' ⟨x,λb r=>by obtain⟨o,m⟩:=r;rw[y]at m;cases m;rw[sS (qm _)]⟩ (z.bD c i)
theorem dQ.append(B:C.Ok)(d:dQ h c i e s k f l)(E:bY C.toDi t e k z by_)(j:∃i e2,C.T.get t2=dB i/\i.cZ=.slice e2)(A:ii z=k)(n:0<by_/\by_<=128)(D:∀x,ii (f x)=k)
  (q:Seq h p v k f l2) (a:∀x,∀c∈f x,c.oneCell'=eL) (o:ii l+ii l2<=2^32) {ty:Nat} {K:Sl->f8->Prop}
  (r:∀g h',dQ h' (grow c h.size i) i e g k f (l++l2)->be (λb=>c b≠i) h h'->K g h'):
  aB C.P (qt #[t,t2] ty #[.slice s.ptr s.len s.cap,.slice v.ptr v.len v.cap]) (.one (.sc .slc)) h K:=
 YB B E j A n D d.own q a o λg h' x y w=>r g h' ⟨x,λb u=>by
  rcases w b u with w|w
  ·rw[gK (d.own.lt w)];exact d.bD b w
  ·exact sS w⟩ (y.mono λb _ m j=>m (d.bD b j))
theorem dQ.set(A:C.Ok)(j:dQ h c i e s k f l)(E:∀x,ii (f x)=k)(B:C.T.get t=dB ti){x:Int}(n:Nat)(D:x=n)(u:n<ii l){d:eS}(y:α)(q:d.cells=(f y).toArray)(o:ti.size=k)
  (g:(f y).all (·.oneCell')=eL) {K:f8->Prop} (r:∀h',dQ h' (grow c h.size i) i e s k f (l.set n y)->be (λb=>c b≠i) h h'->K h'):
  ∃a:eX,(s.ptr=dB a/\0<=x/\x<((s.len:Nat):Int))/\ag C.P (qf t (.pointer (dB (a.add (x.toNat*k)))) d) h λ_ h'=>K h':=
 j.own.set A E B n D u y q o g λh' z w _=>r h' ⟨z,λb p=>by rw[gK (j.own.lt p)];exact j.bD b p⟩ (w.mono λb _ m v=>m (j.bD b v))
end
section
variable {α:Type} {C:Ctx} {h h' h0:f8} {c:Nat->Nat} {i j n m:Nat} {e t:Nat} {s v:Sl} {k by_:Nat} {f:α->bg} {l l2:List α} {z:bg} {p:aD}
theorem grow_grow{c:Nat->Nat}{n m i:Nat}(h:n<=m):grow (grow c n i) m i=grow c n i:=by
 funext b;unfold grow;split
 ·rfl
 ·rw[g0 i4]
theorem be.step(a:be (λb=>c b≠i) h h'){d:f8}(b:be (λb=>grow c h.size i b≠i) h' d):be (λb=>c b≠i) h d:=
 a.then b λx e f=>by rw[gK e];exact f
theorem dQ.push(G:C.Ok)(o:dQ h c i e s k f l)(B:bY C.toDi t e k z by_)(F:ii z=k)(u:0<by_/\by_<=128)(H:∀x,ii (f x)=k)
  (m:∀x,∀c∈f x,c.oneCell'=eL) (x:α) {parts:Array (Nat×eS)} (a:wB (λi=>dB (i*k,k)) (jd z 1).toArray parts.toList=dB ([x].flatMap f).toArray)
  (q:1*k<=2^20) (w:ii l+1<=2^32) {ty:Nat} {K:Sl->f8->Prop}
  (L:∀n h',dQ h' (grow c h.size i) i e n k f (l++[x])->be (λb=>c b≠i) h h'->K n h'):
  aB C.P (qq t 1 parts) (.one (.sc .slc)) h λv j=>aB C.P (qt #[t,t] ty #[.slice s.ptr s.len s.cap,.slice v.ptr v.len v.cap]) (.one (.sc .slc)) j K:=by
 refine OP G B F [x] i0 q a λv j I J A _=>?_;have y:be (λb=>c b≠i) h j:=A.bD c i;have D:dQ j (grow c h.size i) i e s k f l:=⟨o.own.aj A λ_ _=>trivial,λb E=>by rw[gK (o.own.lt E)];exact o.bD b E⟩
 have g:h.size<=j.size:=A.1;obtain⟨N,Q,O,x2,_⟩:=B.ex;refine D.append G B ⟨N,e,O,x2⟩ F u H (I.seq (p:=λ_=>True) H λ_ _=>trivial) m w λn M d r=>?_;rw[grow_grow g]at d;exact L n M d (y.step r)
structure akw (h:f8) (c:Nat->Nat) (top lo:Nat) (e:TypeId) (s:Sl) (k:Nat) (f:α->bg) (ll:List (List α)) (rs:List Sl):Prop where
 own:dQ h c top e s 1 bw rs
 len:ii rs=ii ll
 row:∀(i:Nat) r l,rs[i]?=dB r->ll[i]?=dB l->Seq h (λb=>b<h.size/\lo<=c b/\c b<lo+ii ll) r k f l
theorem kh:∀x,∀c∈bw x,c.oneCell'=eL:=by intro x c a;simp only[bw,qC]at a;subst a;rfl
end
structure akx {α:Type} (h:f8) (r:Nat) (g:α->eS) (kvs:List (Int×α)):Prop where
 ex:∃es clock,h[r]?=dB (.map es clock)/\es.toList.map (λe=>(e.key,e.val))=kvs.map (λp=>(Value.int .i64 p.1,g p.2))
section
variable {α:Type} {P:Program} {h h':f8} {r:Nat} {g:α->eS} {kvs:List (Int×α)}
end
theorem Tb(x n:Int)(b:0<n):x%n=if x.tmod n<0 then x.tmod n+n else x.tmod n:=by
 have e:=vC x b;have d:-n<x.tmod n:=Int.lt_tmod_of_pos x b;have c:=Int.tmod_add_mul_tdiv x n;have a:0<=(if x.tmod n<0 then x.tmod n+n else x.tmod n)/\(if x.tmod n<0 then x.tmod n+n else x.tmod n)<n:=by split<;>omega
 have e2:x=(if x.tmod n<0 then x.tmod n+n else x.tmod n)+n*(if x.tmod n<0 then x.tdiv n-1 else x.tdiv n):=by
  split
  ·rw[Int.mul_sub];omega
  ·omega
 conv=>lhs;rw[e2]
 rw[Int.add_mul_emod_self_left];exact Int.emod_eq_of_lt a.1 a.2
theorem aK{α:Type}(l:List α)(k:Nat)(h:k<ii l:=by omega):l.take (k+1)=l.take k++[l[k]]:=zK h
theorem fD:∀x,∀c∈av x,c.oneCell'=eL:=by intro x c a;simp only[av,qC]at a;subst a;rfl
theorem iM:∀x,∀c∈aF x,c.oneCell'=eL:=by intro x c a;simp only[aF,qC]at a;subst a;rfl
theorem up{h c d:f8}(a:be (λb=>b<h.size) h c)(b:be (λb=>b<c.size) c d):be (λb=>b<h.size) h d:=
 a.then b λ_ e _=>qW e a.1
theorem any{h c:f8}(a:be (λ_=>True) h c):be (λb=>b<h.size) h c:=a.mono λ_ _ _=>trivial
theorem Seq.up{α:Type}{h h':f8}{s:Sl}{k:Nat}{f:α->bg}{l:List α}(c:Seq h (λb=>b<h.size) s k f l)(a:be (λb=>b<h.size) h h'):Seq h' (λb=>b<h'.size) s k f l:=
 (c.aj a).mono λ_ d=>qW d a.1
theorem iD.up{α:Type}{h h':f8}{s:Sl}{k:Nat}{f:α->bg}{l:List (List α)}{rs:List Sl}(c:iD h (λb=>b<h.size) s k f l rs)(a:be (λb=>b<h.size) h h'):iD h' (λb=>b<h'.size) s k f l rs:=
 (c.aj a).mono λ_ d=>qW d a.1
theorem Seq.drop{α:Type}{h:f8}{p:aD}{s:Sl}{w:Nat}{f:α->bg}{l:List α}(c:Seq h p s w f l)(k:Nat)(m:s.len<=s.cap):
  Seq h p ⟨if s.cap=k then s.ptr else s.ptr.map (·.add (k*w)),s.len-k,s.cap-k⟩ w f (l.drop k):=by
 have e:=c.len;refine⟨n5,λi x a=>?_⟩;rw[wJ]at a;obtain⟨b,o,j,d,h3⟩:=c.elem _ x a;have g:=(qn.1 a).1;refine⟨b,o+k*w,?_,d,?_⟩
 ·dsimp only;rw[g0 i4,j,qZ,add_eq]
 ·rw[show o+k*w+i*w=o+(k+i)*w by rw[Nat.add_mul];omega];exact h3
theorem Seq.take{α:Type}{h:f8}{p:aD}{s:Sl}{w:Nat}{f:α->bg}{l:List α}(b:Seq h p s w f l)(k:Nat)(c:k<=ii l):
  Seq h p ⟨s.ptr,k,s.cap⟩ w f (l.take k):=by
 refine⟨i7,λi x a=>?_⟩;rw[vd]at a;split at a
 ·exact b.elem i x a
 ·cases a
theorem getD_lt{α:Type}{l:List α}{d:α}{i:Nat}(h:i<ii l:=by omega):l.getD i d=l[i]:=by rw[qe,qd h];rfl
structure HP where
 p:f8->aD->Prop
 loc:∀{h h':f8} {q:aD},p h q->be q h h'->p h' q
 mono:∀{h:f8} {q q':aD},p h q->(∀b,q b->q' b)->p h q'
def emp:HP:=⟨λ_ _=>True,λ_ _=>trivial,λ_ _=>trivial⟩
def ak{α:Type}(e:TypeId)(s:Sl)(k:Nat)(f:α->bg)(l:List α):HP:=
 ⟨λh q=>Own h e s k f l/\∀b,s.on b->q b,λa d=>⟨a.1.aj d a.2,a.2⟩,λa c=>⟨a.1,λb g=>c b (a.2 b g)⟩⟩
def au(a:eX)(e:TypeId)(b:bg):HP:=
 ⟨λh q=>cx h a e b/\q a.block,λx d=>⟨x.1.aj d x.2,x.2⟩,λx c=>⟨x.1,c _ x.2⟩⟩
def uC{α:Type}(s:Sl)(k:Nat)(f:α->bg)(l:List α):HP:=
 ⟨λh q=>Seq h q s k f l,λa c=>a.aj c,λa b=>a.mono b⟩
def fS{α:Type}(e:TypeId)(s:Sl)(k:Nat)(f:α->bg)(m:List (List α)):HP:=
 ⟨λh q=>∃(rs:List Sl) (j:aD),Own h e s 1 bw rs/\(∀b,s.on b->q b/\¬j b)/\(∀b,j b->q b)/\rs.length=ii m/\∀(i:Nat) r l,rs[i]?=dB r->m[i]?=dB l->Seq h j r k f l,
  λ⟨rs,j,a,b,c,d,e⟩ hp=>⟨rs,j,a.aj hp λx g=>(b x g).1,b,c,d,λi r l o n=>(e i r l o n).aj (hp.mono λx _ g=>c x g)⟩,
  λ⟨rs,j,a,b,c,d,e⟩ hq=>⟨rs,j,a,λx g=>⟨hq x (b x g).1,(b x g).2⟩,λx g=>hq x (c x g),d,e⟩⟩
structure aa (B:aD) (h0 h:f8) (As:List HP):Prop where
 low:∀b,B b->b<h0.size
 aj:be B h0 h
 ex:∃c:Nat->Nat,(∀b,B b->c b=0)/\∀(i:Nat) (A:HP),As[i]?=dB A->A.p h (λb=>b<h.size/\c b=i+1)
abbrev Sp(a h:f8)(As:List HP):Prop:=aa (λb=>b<a.size) a h As
section
variable {B:aD} {h0 h h':f8} {As Bs:List HP} {A A2 D:HP} {c:Nat->Nat} {i j:Nat}
theorem Sp.refl(h:f8):Sp h h []:=⟨λ_ h=>h,be.refl _ _,λ_=>0,λ_ _=>rfl,λi A a=>by simp at a⟩
theorem aa.at(H:aa B h0 h As)(i:Nat)(a:As[i]?=dB A):A.p h (λb=>b<h.size):=by obtain⟨c,_,d⟩:=H.ex;exact A.mono (d i A a) λ_ e=>e.1
theorem aa.fin(H:aa B h0 h As)(i:Nat)(d:As[i]?=dB A):A.p h (λb=>¬B b/\b<h.size):=by obtain⟨c,f,e⟩:=H.ex;exact A.mono (e i A d) λb g=>⟨λa=>by have:=f b a;omega,g.1⟩
theorem Sp.fresh(H:Sp h0 h As)(i:Nat)(a:As[i]?=dB A):A.p h (λb=>h0.size<=b/\b<h.size):=
 A.mono (aa.fin H i a) λb c=>⟨i4,c.2⟩
theorem aa.comp(H:aa B h0 h As)(R:Sp h h' Bs):aa B h0 h' (As++Bs):=by
 obtain⟨k,g,l,q,p⟩:=H;obtain⟨_,e,j,m,o⟩:=R;have c:=g.1;refine⟨k,g.then e λb a _=>qW a c,λb=>if b<h.size then l b else if j b=0 then 0 else As.length+j b,λb a=>?_,λi A d=>?_⟩
 ·dsimp only;rw[f9 (qW (k b a) c)];exact q b a
 ·by_cases n:i<ii As
  ·rw[qo n]at d;refine A.mono (A.loc (p i A d) (e.mono λb _ a=>a.1)) λb a=>⟨qW a.1 e.1,?_⟩
   dsimp only;rw[f9 a.1];exact a.2
  ·rw[qj i4]at d;refine A.mono (o _ A d) λb a=>⟨a.1,?_⟩
   have:¬b<h.size:=λf=>by have:=m b f;omega
   dsimp only;rw[g0 this,g0 i4];omega
theorem aa.up(H:aa B h0 h As)(R:be (λb=>b<h.size) h h'):aa B h0 h' As:=by have:=H.comp (Bs:=[]) ⟨λ_ h=>h,R,λ_=>0,λ_ _=>rfl,λi A a=>by simp at a⟩;simpa using this
theorem Sp.one(R:be (λb=>b<h.size) h h')(d:A.p h' λb=>h.size<=b/\b<h'.size):Sp h h' [A]:=by
 refine⟨λ_ h=>h,R,λb=>if b<h.size then 0 else 1,λb c=>f9 c,λi A2 a=>?_⟩;cases i with
 |succ i=>simp at a
 |zero=>
  simp at a;subst a;exact A.mono d λb c=>⟨c.2,by dsimp only;rw[g0 i4]⟩
theorem Sp.zip(R:be (λb=>b<h.size) h h'):Sp h h' []:=aa.up (Sp.refl h) R
theorem aa.enter(q:aD)(c:Nat->Nat)(f:∀b,q b->b<h.size)(a:∀(i:Nat) (A:HP),As[i]?=dB A->A.p h λb=>q b/\c b=i+1):aa (λb=>b<h.size/\¬q b) h h As:=by
 classical
 refine⟨λb d=>d.1,be.refl _ _,λb=>if q b then c b else 0,λb d=>g0 d.2,λi A e=>A.mono (a i A e) λb d=>⟨f b d.1,?_⟩⟩;dsimp only;rw[f9 d.1];exact d.2
theorem aa.aaO(q:aD)(d:∀b,q b->b<h.size)(a:A.p h q):aa (λb=>b<h.size/\¬q b) h h [A]:=
 .enter q (λ_=>1) d λi A2 c=>by
  cases i with
  |succ i=>simp at c
  |zero=>simp at c;subst c;exact A.mono a λb e=>⟨e,i0⟩
theorem aa.Er(l:∀b,B b->b<h0.size)(f:be B h0 h)(z:∀b,B b->c b=0)(a:∀(i:Nat) (A:HP),As[i]?=dB A->A.p h λb=>b<h.size/\c b=i+1)
  (k:be (λb=>¬(b<h.size/\c b=i+1)) h h') (m:D.p h' λb=>b<h'.size/\((b<h.size/\c b=i+1)∨h.size<=b)):aa B h0 h' (As.set i D):=by
 refine⟨l,f.then k λb _ d n=>by have:=z b d;omega,grow c h.size (i+1),λb d=>?_,λj A e=>?_⟩
 ·rw[gK (qW (l b d) f.1)];exact z b d
 ·rw[q7]at e;split at e
  ·rename_i g;subst g;split at e
   ·injection e with e
    subst e;refine D.mono m λb d=>⟨d.1,?_⟩
    rcases d.2 with h1|h1
    ·rw[gK h1.1];exact h1.2
    ·exact sS h1
   ·cases e
  ·rename_i g;refine A.mono (A.loc (a j A e) (k.mono λb _ d n=>i4)) λb d=>⟨qW d.1 k.1,?_⟩
   rw[gK d.1];exact d.2
theorem aa.step(H:aa B h0 h As)(i:Nat)(e:As[i]?=dB A)(d:∀q:aD,A.p h q->(∀b,q b->b<h.size)->be (λb=>¬q b) h h'/\D.p h' λb=>b<h'.size/\(q b∨h.size<=b)):aa B h0 h' (As.set i D):=by obtain⟨k,p,c,z,a⟩:=H;obtain⟨g,f⟩:=d _ (a i A e) λb j=>j.1;exact aa.Er k p z a g f
theorem aa.fZ(H:aa B h0 h As)(i:Nat)(d:As[i]?=dB A)(f:∀q:aD,A.p h q->D.p h q):aa B h0 h (As.set i D):=
 H.step i d λq e a=>⟨be.refl _ _,D.mono (f q e) λb c=>⟨a b c,.inl c⟩⟩
theorem aa.merge(H:aa B h0 h As)(i j:Nat)(u:i≠j)(r:As[i]?=dB A)(o:As[j]?=dB A2)
  (t:∀l m:aD,(∀b,l b->¬m b)->A.p h l->A2.p h m->D.p h λb=>l b∨m b):aa B h0 h ((As.set i D).set j emp):=by
 obtain⟨s,p,c,z,a⟩:=H;refine⟨s,p,λb=>if c b=j+1 then i+1 else c b,λb e=>?_,λk n d=>?_⟩
 ·have:=z b e;dsimp only;rw[g0 i4];exact this
 ·rw[q7]at d;split at d
  ·split at d
   ·cases d;trivial
   ·cases d
  ·rename_i q;rw[q7]at d;split at d
   ·rename_i g;subst g;split at d
    ·injection d with d
     subst d;refine D.mono (t _ _ (λb f v=>i4) (a i A r) (a j A2 o)) λb e=>?_;rcases e with f|f
     ·exact⟨f.1,by dsimp only;rw[g0 i4];exact f.2⟩
     ·exact⟨f.1,by dsimp only;rw[f9 f.2]⟩
    ·cases d
   ·rename_i g;refine n.mono (a k n d) λb e=>⟨e.1,?_⟩
    dsimp only;rw[g0 i4];exact e.2
theorem aa.pick(H:aa B h0 h As)(f:Nat->Nat)(l:∀i j,f i=f j->i=j)(k:∀(i:Nat) (A2:HP),Bs[i]?=dB A2->As[f i]?=dB A2):aa B h0 h Bs:=by
 obtain⟨n,p,c,z,a⟩:=H
 classical
 refine⟨n,p,λb=>if e:∃i,c b=f i+1 then e.choose+1 else 0,λb e=>?_,λi A2 g=>?_⟩
 ·have:=z b e;dsimp only;rw[dif_neg];rintro⟨i,g⟩;omega
 ·refine A2.mono (a _ _ (k i A2 g)) λb e=>⟨e.1,?_⟩
  have d:∃i,c b=f i+1:=⟨i,e.2⟩
  dsimp only;rw[dif_pos d];have o:=d.choose_spec;have m:=l d.choose i i4;rw[m]
theorem aa.take(H:aa B h0 h As)(n:Nat)(a:∀(i:Nat) (A2:HP),Bs[i]?=dB A2->As[n+i]?=dB A2):aa B h0 h Bs:=H.pick (λi=>n+i) (λ_ _ h=>i4) a
end
section
variable {B:aD} {α:Type} {C:Ctx} {h0 h h':f8} {As:List HP} {i e t t2:Nat} {s v:Sl} {k by_:Nat} {f:α->bg} {l l2:List α} {a:eX} {cs z:bg} {p:aD} {ti:TI}
theorem aa.own(H:aa B h0 h As)(i:Nat)(a:As[i]?=dB (ak e s k f l)):Own h e s k f l:=(H.at i a).1
theorem aa.seq(H:aa B h0 h As)(i:Nat)(a:As[i]?=dB (ak e s k f l))(c:∀x,ii (f x)=k):Seq h (λb=>b<h.size) s k f l:=(H.at i a).1.seq c (H.at i a).2
theorem aa.rd(H:aa B h0 h As)(i:Nat)(a:As[i]?=dB (uC s k f l)):Seq h (λb=>b<h.size) s k f l:=H.at i a
theorem aa.box(H:aa B h0 h As)(i:Nat)(b:As[i]?=dB (au a e cs)):cx h a e cs:=(H.at i b).1
theorem aa.nP(H:aa B h0 h As)(i:Nat)(q:As[i]?=dB (ak e s k f l)){β:Type}{m n:Nat}{g:β->bg}{l':List β}(o:be (λb=>¬s.on b) h h')(p:Own h' m s n g l'):aa B h0 h' (As.set i (ak m s n g l')):=
 H.step i q λ_ j c=>⟨o.mono λb _ a d=>a (j.2 b d),p,λb a=>⟨qW (c b (j.2 b a)) o.1,.inl (j.2 b a)⟩⟩
theorem aa.Dk(H:aa B h0 h As)(i:Nat)(l:As[i]?=dB (au a e cs)){c:bg}(j:be (λb=>b≠a.block) h h')(k:cx h' a e c):aa B h0 h' (As.set i (au a e c)):=
 H.step i l λq g d=>⟨j.mono λb _ m f=>m (by rw[f];exact g.2),k,⟨qW (d _ g.2) j.1,.inl g.2⟩⟩
theorem aa.freeze(H:aa B h0 h As)(i:Nat)(b:As[i]?=dB (ak e s k f l))(c:∀x,ii (f x)=k):aa B h0 h (As.set i (uC s k f l)):=H.fZ i b λ_ a=>a.1.seq c a.2
theorem aa.set(p:C.Ok)(H:aa B h0 h As)(i:Nat)(g:As[i]?=dB (ak e s k f l))(r:∀x,ii (f x)=k)(u:C.T.get t=dB ti){x:Int}(n:Nat)(q:x=n)(o:n<ii l){b:eS}(y:α)(j:b.cells=(f y).toArray)(d:ti.size=k)
  (c:(f y).all (·.oneCell')=eL) {K:f8->Prop} (m:∀h',aa B h0 h' (As.set i (ak e s k f (l.set n y)))->K h'):
  ∃a:eX,(s.ptr=dB a/\0<=x/\x<((s.len:Nat):Int))/\ag C.P (qf t (.pointer (dB (a.add (x.toNat*k)))) b) h λ_ h'=>K h':=
 (H.own i g).set p r u n q o y j d c λh' z w _=>m h' (H.nP i g w z)
theorem aa.push(I:C.Ok)(H:aa B h0 h As)(i:Nat)(J:As[i]?=dB (ak e s k f l))(O:bY C.toDi t e k z by_)(G:ii z=k)(q:0<by_/\by_<=128)(L:∀x,ii (f x)=k)
  (n:∀x,∀c∈f x,c.oneCell'=eL) (x:α) {parts:Array (Nat×eS)} (g:wB (λi=>dB (i*k,k)) (jd z 1).toArray parts.toList=dB ([x].flatMap f).toArray)
  (p:1*k<=2^20) (u:ii l+1<=2^32) {ty:Nat} {K:Sl->f8->Prop}
  (A:∀o h',aa B h0 h' (As.set i (ak e o k f (l++[x])))->K o h'):
  aB C.P (qq t 1 parts) (.one (.sc .slc)) h λv N=>aB C.P (qt #[t,t] ty #[.slice s.ptr s.len s.cap,.slice v.ptr v.len v.cap]) (.one (.sc .slc)) N K:=by
 obtain⟨Q,E,c,F,a⟩:=H;have w:=a i _ J;have y:dQ h c (i+1) e s k f l:=⟨w.1,λb j=>(w.2 b j).2⟩
 refine y.push I O G q L n x g p u λo h' d r=>A o h' ?_;refine aa.Er Q E F a (r.mono λb j D M=>D ⟨j,M⟩) ⟨d.own,λb j=>⟨d.own.lt j,?_⟩⟩;have:=d.bD b j;by_cases m:b<h.size
 ·rw[gK m]at this;exact .inl ⟨m,this⟩
 ·exact .inr i4
theorem aa.append(J:C.Ok)(H:aa B h0 h As)(i:Nat)(L:As[i]?=dB (ak e s k f l))(O:bY C.toDi t e k z by_)(E:∃i e2,C.T.get t2=dB i/\i.cZ=.slice e2)(I:ii z=k)(o:0<by_/\by_<=128)(M:∀x,ii (f x)=k)
  (y:Seq h p v k f l2) (m:∀x,∀c∈f x,c.oneCell'=eL) (r:ii l+ii l2<=2^32) {ty:Nat} {K:Sl->f8->Prop}
  (A:∀n h',aa B h0 h' (As.set i (ak e n k f (l++l2)))->K n h'):
  aB C.P (qt #[t,t2] ty #[.slice s.ptr s.len s.cap,.slice v.ptr v.len v.cap]) (.one (.sc .slc)) h K:=by
 obtain⟨Q,F,c,G,a⟩:=H;have u:=a i _ L;have w:dQ h c (i+1) e s k f l:=⟨u.1,λb g=>(u.2 b g).2⟩
 refine w.append J O E I o M y m r λn h' d q=>A n h' ?_;refine aa.Er Q F G a (q.mono λb g D N=>D ⟨g,N⟩) ⟨d.own,λb g=>⟨d.own.lt g,?_⟩⟩;have:=d.bD b g;by_cases j:b<h.size
 ·rw[gK j]at this;exact .inl ⟨j,this⟩
 ·exact .inr i4
theorem OQ{h h':f8}{n:Nat}(i:n=h.size)(d:Own h' e s k f l)(g:s.ptr=dB ⟨n,0,eH⟩)(c:be (λ_=>True) h h'):Sp h h' [ak e s k f l]:=
 .one (any c) ⟨d,λb a=>⟨by obtain⟨o,a⟩:=a;rw[g]at a;cases a;omega,d.lt a⟩⟩
theorem aa.make(u:C.Ok)(H:aa B h0 h As)(f:α->bg)(D:bY C.toDi t e k z by_)(d:0<by_/\by_<=128)(i:α)(s:f i=z)(g:ii z=k){q A:IntKind}{n l:Int}(m b:Nat)(p:n=m)(v:l=b)(c:m<=b)(j:b<=2^32)
  {K:Sl->f8->Prop} (o:∀a h',a.len=m->a.cap=b->aa B h0 h' (As++[ak e a k f (qh m i)])->K a h'):
  aB C.P (qF t (.int q n) (.int A l)) (.one (.sc .slc)) h K:=
 run_make u D d i s g m b p v c j λa h' x y w r _=>o a h' (by rw[x.len];simp) w (H.comp (OQ i0 x y r))
theorem aa.lit(o:C.Ok)(H:aa B h0 h As)(f:α->bg)(p:bY C.toDi t e k z by_)(d:ii z=k){n:Nat}{parts:Array (Nat×eS)}(l:List α)(j:ii l=n)(c:n*k<=2^20)
  (a:wB (λi=>dB (i*k,k)) (jd z n).toArray parts.toList=dB (l.flatMap f).toArray) {K:Sl->f8->Prop}
  (g:∀b h',aa B h0 h' (As++[ak e b k f l])->K b h'):
  aB C.P (qq t n parts) (.one (.sc .slc)) h K:=
 OP o p d l j c a λb h' x y m _=>g b h' (H.comp (OQ i0 x y m))
theorem OR{h h':f8}(d:a.block=h.size)(c:cx h' a e cs)(b:be (λ_=>True) h h'):Sp h h' [au a e cs]:=
 .one (any b) ⟨c,i4,c.lt⟩
theorem aa.alloc(b:C.Ok)(H:aa B h0 h As)(c:C.T.get t=dB ti){K:eX->f8->Prop}(d:∀a h',aa B h0 h' (As++[au a t ti.zero])->K a h'):
  aS C.P (qL t eL (.tuple #[])) h K:=
 BF b c λa h' x y e _=>d a h' (H.comp (OR x y e))
theorem aa.boxed(H:aa B h0 h As){P:Program}{v:eS}{K:eX->f8->Prop}(b:∀a h',aa B h0 h' (As++[au a t v.cells.toList])->K a h'):
  aS P (qM t v) h K:=
 XF λa h' x y c _=>b a h' (H.comp (OR x y c))
theorem aa.store(g:C.Ok)(H:aa B h0 h As)(i:Nat)(f:As[i]?=dB (au a e cs))(l:C.T.get t=dB ti)(off:Nat){v:eS}(vs:bg)(j:v.cells=vs.toArray)(d:ti.size=ii vs)
  (c:vs.all (·.oneCell')=eL) (b:off+ii vs<=ii cs) {K:Unit->f8->Prop}
  (k:∀h',aa B h0 h' (As.set i (au a e (cs.take off++vs++cs.drop (off+ii vs))))->K () h'):
  ag C.P (qf t (.pointer (dB (a.add off))) v) h K:=
 run_store g (H.box i f) l off vs j d c b λh' x y _=>k h' (H.Dk i f y x)
theorem aa.kg(f:C.Ok)(H:aa B h0 h As)(i:Nat)(g:As[i]?=dB (au a e cs))(l:C.T.get t=dB ti){v:eS}(vs:bg)(j:v.cells=vs.toArray)(c:ti.size=ii vs)
  (b:vs.all (·.oneCell')=eL) (d:ii vs<=ii cs) {K:Unit->f8->Prop}
  (k:∀h',aa B h0 h' (As.set i (au a e (vs++cs.drop vs.length)))->K () h'):
  ag C.P (qf t (.pointer (dB a)) v) h K:=
 H.store f i g l 0 vs j c b i4 (λh' x=>k h' o1)
theorem aa.nil(H:aa B h0 h As)(e k:Nat)(f:α->bg):aa B h0 h (As++[ak e ⟨eH,0,0⟩ k f []]):=
 H.comp (.one (be.refl _ _) ⟨Own.nil h e k f,λb a=>by obtain⟨o,a⟩:=a;cases a⟩)
theorem aa.Mt(H:aa B h0 h As)(e k:Nat)(f:α->bg):aa B h0 h (As++[fS e ⟨eH,0,0⟩ k f []]):=
 H.comp (.one (be.refl _ _) ⟨[],λ_=>False,Own.nil h e 1 bw,λb a=>(by obtain⟨o,a⟩:=a;cases a),λ_ a=>a.elim,rfl,λi r l h=>m8⟩)
theorem aa.xV(hC:C.Ok)(H:aa B h0 h As)(i j:Nat)(z:i≠j){J:List (List α)}{r:Sl}{x:List α}(S:As[i]?=dB (fS e s k f J))(Y:As[j]?=dB (uC r k f x))(he:bY C.toDi t e 1 [.slice eH 0 0] 24)
  (ab:ii J+1<=2^32) {ty:Nat} {K:Sl->f8->Prop} (hk:∀O h',aa B h0 h' ((As.set j emp).set i (fS e O k f (J++[x])))->K O h'):
  aB C.P (qq t 1 #[(0,.slice r.ptr r.len r.cap)]) (.one (.sc .slc)) h λv w=>aB C.P (qt #[t,t] ty #[.slice s.ptr s.len s.cap,.slice v.ptr v.len v.cap]) (.one (.sc .slc)) w K:=by
 have W:=H.merge i j z S Y (D:=⟨λh q=>∃(rs:List Sl) (g:aD),Own h e s 1 bw rs/\(∀b,s.on b->q b/\¬g b)/\(∀b,g b->q b)/\rs.length=ii J/\(∀(i:Nat) r l,rs[i]?=dB r->J[i]?=dB l->Seq h g r k f l)/\Seq h g r k f x,
  λ⟨rs,g,a,b,c,d,e,f⟩ hp=>⟨rs,g,a.aj hp λx n=>(b x n).1,b,c,d,λi r l w A=>(e i r l w A).aj (hp.mono λx _ n=>c x n),f.aj (hp.mono λx _ n=>c x n)⟩,
  λ⟨rs,g,a,b,c,d,e,f⟩ hq=>⟨rs,g,a,λx n=>⟨hq x (b x n).1,(b x n).2⟩,λx n=>hq x (c x n),d,e,f⟩⟩)
  (λg q2 Z hA hB=>by
   obtain⟨rs,q3,a,b,c,d,e'⟩:=hA;refine⟨rs,λb=>q3 b∨q2 b,a,λx n=>⟨.inl (b x n).1,λM=>M.elim (b x n).2 (Z x (b x n).1)⟩,λx n=>n.elim (λh=>.inl (c x h)) .inr,d,λi r l w A=>(e' i r l w A).mono λ_ h=>.inl h,Seq.mono hB λ_ h=>.inr h⟩)
 have u:i<ii As:=(qn.1 S).1;obtain⟨lo,pp,c,zz,a⟩:=W;have ha:=a i _ (by rw[zD (Ne.symm z),zl u]);obtain⟨rs,g,a1,a2,a3,a4,a5,V⟩:=ha;let T:Nat->Nat:=λb=> @ite _ (g b) (Classical.propDecidable _) (ii As+2) (c b);have F:∀b,g b->b<h.size/\c b=i+1:=a3;have X:dQ h T (i+1) e s 1 bw rs:=⟨a1,λb m=>by
  have:=a2 b m;show @ite _ (g b) (Classical.propDecidable _) _ _=_;rw[g0 this.2];exact this.1.2⟩
 refine X.push hC he i0 i5 (λ_=>rfl) kh r i0 i5 i4 λO h' y G=>hk O h' ?_;rw[vw _ _ (Ne.symm z)];rw[<-yq (l:=As) (i:=i),vw _ _ z];have I:∀b,g b->T b≠i+1:=λb m=>by
  show @ite _ (g b) (Classical.propDecidable _) _ _≠_;rw[f9 m];omega
 refine aa.Er lo pp zz a (G.mono λb m hn hc=>hn ⟨m,?_⟩) ⟨rs++[r],λb=>g b/\b<h.size,y.own,λb m=>?_,λb m=>⟨qW m.2 G.1,.inl ⟨m.2,(F b m.1).2⟩⟩,by simp[a4],λR r' l' w A=>?_⟩
 ·by_cases E:g b
  ·exact(F b E).2
  ·have o:@ite _ (g b) (Classical.propDecidable _) (ii As+2) (c b)=i+1:=hc;rw[g0 E]at o;exact o
 ·have p:=y.bD b m;by_cases u:b<h.size
  ·rw[gK u]at p;have L:¬g b:=λE=>I b E p;have o:@ite _ (g b) (Classical.propDecidable _) (ii As+2) (c b)=i+1:=p;rw[g0 L]at o;exact⟨⟨y.own.lt m,.inl ⟨u,o⟩⟩,λM=>L M.1⟩
  ·exact⟨⟨y.own.lt m,.inr i4⟩,λM=>u M.2⟩
 ·have N:∀{U:Sl} {l:List α},Seq h g U k f l->Seq h' (λb=>g b/\b<h.size) U k f l:=λhs=>
   (hs.mono (q:=λb=>g b/\b<h.size) λb m=>⟨m,(F b m).1⟩).aj (G.mono λb _ m=>I b m.1)
  by_cases Q:R<ii rs
  ·rw[qo Q]at w;rw[qo i4]at A;exact N (a5 R r' l' w A)
  ·have:R=ii rs:=by have:=(qn.1 w).1;simp at this;omega
   subst this;simp at w;rw[a4]at A;simp at A;subst w;subst A;exact N V
theorem aa.rows(H:aa B h0 h As)(i:Nat){g:List (List α)}(j:As[i]?=dB (fS e s k f g)):∃rs,iD h (λb=>b<h.size) s k f g rs:=by obtain⟨rs,p,a,b,c,d,e⟩:=H.at i j;exact⟨rs,a.seq (λ_=>rfl) λx m=>(b x m).1,d,λi r l o n=>(e i r l o n).mono c⟩
end
theorem aec(vs:bg):∀(pre old post:bg),ii old=ii vs->((vs.zipIdx 0).foldl (λ(cs:Array eS) (p:eS×Nat)=>cs.setIfInBounds (ii pre+p.2) p.1) (pre++old++post).toArray)=(pre++vs++post).toArray:=by
 have b:∀(vs pre old post:bg) (k:Nat),ii old=ii vs->ii pre=ii pre->∀n,n+k=ii pre->((vs.zipIdx k).foldl (λ(cs:Array eS) (p:eS×Nat)=>cs.setIfInBounds (n+p.2) p.1) (pre++old++post).toArray)=(pre++vs++post).toArray:=by
  intro vs
  induction vs with
  |nil=>intro pre old post k a _ n _;rw[za a];rfl
  |cons v vs ih=>
   intro pre old post k a _ n c;cases old with
   |nil=>simp at a
   |cons u old=>
    rw[List.zipIdx_cons,zB];have e:(pre++(u::old)++post).toArray.setIfInBounds (n+k) v=((pre++[v])++old++post).toArray:=by rw[c];apply yD;simp
    dsimp only;rw[e,ih (pre++[v]) old post (k+1) j8 i0 n i7];simp
 intro pre old post h;exact b vs pre old post 0 h i0 pre.length i4
theorem Tc{a:Nat->Option (Nat×Nat)}{i:Nat}{v:eS}{vs pre old post:bg}{rest:List (Nat×eS)}(c:v.cells=vs.toArray)(d:a i=dB (ii pre,ii vs))(b:ii old=ii vs):
  wB a (pre++old++post).toArray ((i,v)::rest)=wB a (pre++vs++post).toArray rest:=by
 conv=>lhs;unfold wB
 simp only[d,c];rw[g0 i7];congr 1;have:=aec vs pre old post b;simpa using this
section
variable {C:Ctx} {t:Nat} {i:TI} {h:f8}
theorem GW(k:C.Ok)(o:C.T.get t=dB i){l:List (Nat×TypeId)}(j:i.cZ=.struct l){c:List (Nat×Nat)}(e:placesOf C.T l=dB c){vs:List (Nat×eS)}{cells:Array eS}
  (a:wB (λn=>c[n]?) i.zero.toArray vs=dB cells):aN C.P (Instr.build t vs.toArray) (.agg cells):=by
 obtain⟨z,q,h⟩:=tz k.toOk o;have b:i.zero.toArray=z.cells:=by rw[<-h]
 have m:=k.cZ o;rw[j]at m;obtain⟨p,r,rfl⟩:=ra m;refine q.bind ((aW r).bind ?_);have d:aN C.P (p.mapM λf=>(do pure (f.offset,<-sizeOf f.type):Sem (Nat×Nat))) c.toArray:=by rw[Array.mapM_eq_mapM_toList];intro w;have:=oy k.toOk e w;rw[map_eq_pure_bind,Sem.run_bind,this];rfl
 refine d.bind ?_;have g:wB (λn=>c.toArray[n]?) z.cells vs.toArray.toList=dB cells:=by rw[<-b];simpa using a
 rw[g];exact .pure
end
theorem take_set{α:Type}(l:List α)(n:Nat)(x:α)(h:n<ii l):l.take n++[x]++l.drop (n+1)=l.set n x:=by rw[yc,f9 h];simp
section
variable {B:aD} {C:Ctx} {h0 h h':f8} {As:List HP} {e t:Nat} {a:eX} {cs:bg} {ti:TI}
theorem aa.storeAt(f:C.Ok)(H:aa B h0 h As)(i:Nat)(j:As[i]?=dB (au a e cs))(l:C.T.get t=dB ti){off:Nat}{v:eS}(g:v.cells=#[v])(d:ti.size=1)
  (c:v.oneCell'=eL) (b:off<ii cs) {K:Unit->f8->Prop}
  (k:∀h',aa B h0 h' (As.set i (au a e (cs.set off v)))->K () h'):
  ag C.P (qf t (.pointer (dB (a.add off))) v) h K:=
 H.store f i j l off [v] g d o4 i7 λh' x=>k h' (by rw[<-take_set _ _ _ b];simpa using x)
theorem aa.storeAll(f:C.Ok)(H:aa B h0 h As)(i:Nat)(g:As[i]?=dB (au a e cs))(l:C.T.get t=dB ti){v:eS}(vs:bg)(j:v.cells=vs.toArray)(c:ti.size=ii vs)
  (b:vs.all (·.oneCell')=eL) (d:ii vs=ii cs) {K:Unit->f8->Prop}
  (k:∀h',aa B h0 h' (As.set i (au a e vs))->K () h'):
  ag C.P (qf t (.pointer (dB a)) v) h K:=
 H.kg f i g l vs j c b i4 λh' x=>k h' (by rw[zg i4,qO]at x;exact x)
end
theorem wf(n:Nat)(a:n<=9223372036854775807:=by omega):qc xx (n:Int)=n:=al _
abbrev Rd{α:Type}(h:f8)(s:Sl)(k:Nat)(f:α->bg)(l:List α):Prop:=Seq h (λb=>b<h.size) s k f l
abbrev fR{α:Type}(h:f8)(s:Sl)(k:Nat)(f:α->bg)(a:List (List α)):Prop:=∃rs,iD h (λb=>b<h.size) s k f a rs
section
variable {α:Type} {B:aD} {h0 h h':f8} {As:List HP} {s:Sl} {k e:Nat} {f:α->bg} {l:List α} {ll:List (List α)}
theorem fR.up(a:fR h s k f ll)(c:be (λb=>b<h.size) h h'):fR h' s k f ll:=by obtain⟨rs,a⟩:=a;exact⟨rs,iD.up a c⟩
theorem fR.len(a:fR h s k f ll):s.len=ii ll:=by obtain⟨rs,a⟩:=a;exact a.SX
theorem fR.get(b:fR h s k f ll){i:Int}(n:Nat)(c:i=n)(d:n<ii ll){K:Sl->Prop}(e:∀r,Rd h r k f ll[n]->K r):
  ∃a:eX,(s.ptr=dB a/\0<=i/\i<((s.len:Nat):Int))/\∃x:Sl,f7 h (a.add (i.toNat*1))=dB (.slice x.ptr x.len x.cap)/\K x:=by
 obtain⟨rs,b⟩:=b;exact b.get n c d λr g _=>e r g
theorem Seq.isSome{p:aD}(a:Seq h p s k f l)(d:l≠[]):s.ptr.isNone=eR:=by
 cases l with
 |nil=>exact absurd i0 d
 |cons x t=>obtain⟨b,o,c,_⟩:=a.elem 0 x i9;rw[c];rfl
theorem Seq.isNil{p:aD}(b:Seq h p s k f l)(a:s.ptr.isNone=eL):l=[]:=by
 cases l with
 |nil=>rfl
 |cons x t=>rw[b.isSome i9]at a;cases a
theorem aa.GX(H:aa B h0 h As)(i:Nat)(a:As[i]?=dB (fS e s k f ll)):fR h s k f ll:=H.rows i a
end
section
variable {B:aD} {h0 h h':f8} {As Bs:List HP} {A D:HP}
theorem aa.del(H:aa B h0 h As)(i:Nat):aa B h0 h (As.eraseIdx i):=
 H.pick (λj=>if j<i then j else j+1) (λa b d=>by split at d<;>split at d<;>omega) λj A e=>by
  rw[List.getElem?_eraseIdx]at e;split at e
  ·rename_i c;rw[f9 c];exact e
  ·rename_i c;rw[g0 c];exact e
theorem aa.call(H:aa B h0 h As)(i:Nat)(z:As[i]?=dB A)(q:aD)(L:∀q':aD,A.p h q'->∀b,q b->q' b)(R:aa (λb=>b<h.size/\¬q b) h h' (D::Bs)):aa B h0 h' (As.set i D++Bs):=by
 classical
 obtain⟨G,w,g,F,E⟩:=H;obtain⟨_,t,j,K,y⟩:=R;have s:=w.1;have v:=(qn.1 z).1;have l:∀b,q b->b<h.size/\g b=i+1:=L _ (E i A z);have u:∀b,B b->b<h.size/\¬q b:=λb a=>⟨qW (G b a) s,λr=>by have:=F b a;have:=l b r;omega⟩
 let c:Nat->Nat:=λb=>if b<h.size/\¬q b then(if g b=i+1 then 0 else g b)else if j b=0 then 0 else if j b=1 then i+1 else As.length+j b-1
 have f:∀b,b<h.size/\¬q b->g b≠i+1->c b=g b:=λb a I=>by show ite _ _ _=_;rw[f9 a,g0 I]
 have e:∀b,j b≠0->c b=if j b=1 then i+1 else As.length+j b-1:=λb a=>by
  have:¬(b<h.size/\¬q b):=λr=>a (K b r);show ite _ _ _=_;rw[g0 this,g0 a]
 refine⟨G,w.then t λb _ a=>u b a,c,λb a=>?_,λk m d=>?_⟩
 ·have:=F b a;rw[f b (u b a) i4];exact this
 ·by_cases x:k<ii As
  ·rw[qo o1,q7]at d;split at d
   ·rename_i n;subst n;injection d with d
    subst d;refine D.mono (y 0 D i0) λb a=>⟨a.1,?_⟩
    rw[e b i4,f9 a.2]
   ·rename_i n;have o:∀b,b<h.size/\g b=k+1->b<h.size/\¬q b:=λb a=>⟨a.1,λr=>by have:=l b r;omega⟩
    refine m.mono (m.loc (E k m d) (t.mono λb _ a=>o b a)) λb a=>⟨qW a.1 t.1,?_⟩
    rw[f b (o b a) i4];exact a.2
  ·rw[qj o1]at d;rw[zh]at d;have J:=y (k-ii As+1) m (by simpa using d);refine m.mono J λb a=>⟨a.1,?_⟩
   rw[e b i4,g0 i4];omega
end
section
variable {B:aD} {α:Type} {h0 h h':f8} {As Bs:List HP} {A D:HP} {e k:Nat} {s:Sl} {f:α->bg} {l:List α}
theorem aa.off(H:aa B h0 h As)(i j:Nat)(o:i≠j)(m:As[i]?=dB (ak e s k f l))(g:As[j]?=dB A):A.p h (λb=>b<h.size/\¬s.on b):=by
 obtain⟨_,_,c,_,a⟩:=H;refine A.mono (a j A g) λb n=>⟨n.1,λd=>?_⟩
 have:=(a i _ m).2 b d;omega
theorem aa.base(H:aa B h0 h As)(i:Nat)(g:As[i]?=dB (ak e s k f l)){b:Nat}(j:B b):¬s.on b:=λd=>by
 obtain⟨_,_,c,z,a⟩:=H;have:=(a i _ g).2 b d;have:=z b j;omega
theorem aa.aig(H:aa B h0 h (As++[D]))(i:Nat)(k:i<ii As):aa B h0 h (As.set i D):=
 H.pick (λj=>if j<ii As then(if j=i then As.length else j)else j+1) (λa b c=>by split at c<;>split at c<;>(try split at c)<;>(try split at c)<;>omega) λj A e=>by
  have f:j<ii As:=by have:=(qn.1 e).1;simpa using this
  rw[f9 f];rw[q7]at e;split at e
  ·rename_i d;subst d;rw[f9 i0,qj (qm _),zc];exact e
  ·rename_i d;rw[g0 λg=>d g.symm,qo f];exact e
theorem aa.afZ(H:aa B h0 h As)(i j:Nat){A2:HP}(n:As[i]?=dB A)(m:As[j]?=dB A2):aa B h0 h ((As.set i A2).set j A):=by
 have k:=(qn.1 n).1;have g:=(qn.1 m).1;refine H.pick (λx=>if x=j then i else if x=i then j else x) (λa b c=>by split at c<;>split at c<;>(try split at c)<;>(try split at c)<;>omega) λx o d=>?_;rw[q7,q7]at d;by_cases f:j=x
 ·subst f;simp[g]at d;subst d;simpa using n
 ·by_cases l:i=x
  ·subst l;simp[f,k]at d;subst d;rw[g0 λe=>f e.symm,f9 rfl];exact m
  ·simp[f,l]at d;rw[g0 λe=>f e.symm,g0 λe=>l e.symm];exact d
end
def bF{α:Type}(e k:Nat)(f:α->bg)(rs:List Sl)(a:List (List α)):List HP:=zi (λr l=>ak e r k f l) rs a
section
variable {α:Type} {e k:Nat} {f:α->bg} {rs:List Sl} {ll:List (List α)}
theorem mO(h:ii rs=ii ll):ii (bF e k f rs ll)=ii ll:=by simp[bF,h]
theorem fX(h:ii rs=ii ll)(i:Nat)(b:i<ii ll):(bF e k f rs ll)[i]?=dB (ak e (rs[i]'(by omega)) k f ll[i]):=by
 have a:i<ii rs:=i4
 simp[bF,wb,qd b,qd a]
theorem Ag(h:ii rs=ii ll)(r:Sl)(l:List α):bF e k f (rs++[r]) (ll++[l])=bF e k f rs ll++[ak e r k f l]:=by unfold bF;rw[yE h];rfl
theorem lj(h:ii rs=ii ll)(i:Nat)(r:Sl)(l:List α):(bF e k f rs ll).set i (ak e r k f l)=bF e k f (rs.set i r) (ll.set i l):=by
 apply zG;intro j;simp only[bF,q7,wb,List.length_zipWith];by_cases a:i=j
 ·subst a;by_cases b:i<ii ll
  ·have:i<ii rs:=i4
   simp[b,this];omega
  ·have:¬i<ii rs:=i4
   simp[b];omega
 ·simp[a]
theorem Td(h:ii rs=ii ll)(i:Nat)(a:i<ii ll)(l:List α):(bF e k f rs ll).set i (ak e (rs[i]'(by omega)) k f l)=bF e k f rs (ll.set i l):=by rw[lj h,List.set_getElem_self]
theorem aa.Te{B:aD}{n h:f8}{s:Sl}{a:Nat}(H:aa B n h (ak a s 1 bw rs::bF e k f rs ll))(c:ii rs=ii ll)(j:∀x,ii (f x)=k):fR h s k f ll:=by
 refine⟨rs,H.seq 0 i0 λ_=>rfl,c,λi r l g b=>?_⟩;have d:i<ii ll:=(qn.1 b).1;have m:=fX (e:=e) (k:=k) (f:=f) c i d;have h3:=H.seq (i+1) qa j;have a:rs[i]'(by omega)=r:=by rw[qd i4]at g;simpa using g
 have e2:ll[i]=l:=by rw[qd d]at b;simpa using b
 rw[a,e2]at h3;exact h3
end
section
variable {α:Type} {h:f8} {p:aD} {s:Sl} {f:α->bg} {l:List α}
theorem Seq.Sx{X:Type}{g:X->eS}(d:Seq h p s 1 f l){i:Int}(n:Nat)(m:i=n)(k:n<ii l)(x:X)(q:f l[n]=[g x]){K:eX->X->Prop}(j:∀a:eX,f7 h (a.add (i.toNat*1))=dB (g x)->K a x):
  ∃a:eX,(s.ptr=dB a/\0<=i/\i<((s.len:Nat):Int))/\∃x:X,f7 h (a.add (i.toNat*1))=dB (g x)/\K a x:=by
 subst m;obtain⟨b,o,r,_,h3⟩:=d.elem n l[n] (qd k);rw[q]at h3;have c:=h3.1;rw[add_eq,wN]at c;have e:f7 h ((⟨b,o,eH⟩:eX).add ((n:Int).toNat*1))=dB (g x):=by rw[add_eq];simpa using c
 exact⟨_,⟨r,i4,by rw[d.len];omega⟩,x,e,j _ e⟩
end
theorem Seq.oq{h:f8}{p:aD}{s:Sl}{rs:List Sl}(d:Seq h p s 1 bw rs){i:Int}(n:Nat)(k:i=n)(g:n<ii rs){K:eX->Sl->Prop}
  (f:∀a:eX,f7 h (a.add (i.toNat*1))=dB (.slice rs[n].ptr rs[n].len rs[n].cap)->p (a.add (i.toNat*1)).block->K a rs[n]):
  ∃a:eX,(s.ptr=dB a/\0<=i/\i<((s.len:Nat):Int))/\∃x:Sl,f7 h (a.add (i.toNat*1))=dB (.slice x.ptr x.len x.cap)/\K a x:=by
 subst k;obtain⟨b,o,l,j,h3⟩:=d.elem n rs[n] (qd g);have c:=h3.1;rw[add_eq,wN]at c;have e:f7 h ((⟨b,o,eH⟩:eX).add ((n:Int).toNat*1))=dB (.slice rs[n].ptr rs[n].len rs[n].cap):=by rw[add_eq];simpa using c
 exact⟨_,⟨l,i4,by rw[d.len];omega⟩,rs[n],e,f _ e (by rw[add_eq];exact j)⟩
section
variable {B:aD} {α:Type} {h0 h:f8} {As:List HP} {e k:Nat} {s:Sl} {f:α->bg} {l:List α}
theorem Own.cut(a:Own h e s k f l)(c:∀x,ii (f x)=k)(j:Nat)(d:j<=ii l):Own h e ⟨s.ptr,j,s.cap⟩ k f (l.take j):=by
 have g:=a.len;refine⟨i7,?_⟩;rcases a.head with⟨h1,h2,h3⟩|⟨b,rest,h1,h2,h3,h4⟩
 ·subst h3;exact .inl ⟨h1,h2,i9⟩
 ·refine .inr ⟨b,(l.drop j).flatMap f++rest,h1,?_,?_,i6⟩
  ·rw[<-qp,<-zd,qE];exact h2
  ·rw[qx,dL c,ze,h3,<-Nat.add_mul];dsimp only;congr 1;omega
end
section
variable {B:aD} {α:Type} {C:Ctx} {h0 h:f8} {As:List HP} {e t k:Nat} {s:Sl} {f:α->bg} {l:List α} {ti:TI}
end
section
variable {C:Ctx} {t t2 ty e k:Nat} {z:bg} {by_:Nat} {α:Type} {h h0:f8} {p B:aD} {s v:Sl} {f:α->bg} {l l2:List α} {As:List HP}
theorem Own.Mu(E:C.Ok)(F:bY C.toDi t e k z by_)(A:∀x,ii (f x)=k)(j:Own h e s k f l)(D:Seq h p v k f l2)(g:∀x,∀c∈f x,c.oneCell'=eL){K:Int->f8->Prop}
  (q:∀n h',Own h' e s k f (l2.take l.length++l.drop l2.length)->be (λb=>¬s.on b) h h'->K n h'):
  aB C.P (yp #[t,t2] ty #[.slice s.ptr s.len s.cap,.slice v.ptr v.len v.cap]) (.one (.sc (.int .i64))) h K:=by
 unfold aB yp;simp only[zV,yy,qw];refine ag.bind (ag.always (aW (F.under E)) ?_);refine ag.bind (ag.pure' ?_);refine ag.bind (ag.always (F.size E) ?_);have a:=j.len;have d:=D.len;obtain⟨m,i⟩:∃m,m=Nat.min v.len s.len:=⟨_,rfl⟩
 rw[<-i];have y:m<=ii l2:=by rw[i,<-d];exact Nat.min_le_left _ _
 have B:m<=ii l:=by rw[i,<-a];exact Nat.min_le_right _ _
 have J:m=min l2.length l.length:=by rw[i,a,d]
 have o:=D.take m y;have I:l2.take l.length++l.drop l2.length=l2.take m++l.drop m:=by
  rcases Nat.le_total l2.length l.length with hh|hh
  ·rw[qi hh,show m=ii l2 by omega,qY]
  ·rw[show m=ii l by omega,zg hh,List.drop_length]
 rw[I]at q;have w:wH k m (.slice v.ptr v.len v.cap)=wH k m (.slice v.ptr m v.cap):=by cases v.ptr<;>rfl
 rw[w];refine ag.bind (gP (v:=⟨v.ptr,m,v.cap⟩) A o ?_);rcases j.head with⟨h1,h2,h3⟩|⟨b,rest,h1,h2,h3,h4⟩
 ·rw[h1];subst h3;have:m=0:=by simpa using B
  subst this;refine ag.pure' ⟨_,i0,q _ h ?_ (be.refl _ _)⟩;simpa using j
 ·rw[h1];refine ag.bind ?_;have r:l.flatMap f++rest=(l.take m).flatMap f++((l.drop m).flatMap f++rest):=by rw[<-qp,<-zd,qE]
  rw[r]at h2;refine fC (e:=e) (pre:=[]) (old:=(l.take m).flatMap f) (post:=(l.drop m).flatMap f++rest) (by simpa using h2) (by rw[dL A,dL A,q8,q8];congr 1;omega) i0 ?_ ?_
  ·intro c H;obtain⟨x,_,u⟩:=zP.1 H;exact g x c u
  ·refine ag.pure' ⟨_,i0,q _ _ ⟨by rw[a,qx,q8,ze];omega,.inr ⟨b,rest,h1,?_,h3,h4⟩⟩ (be.kf h2 λG=>G ⟨0,h1⟩)⟩;rw[iR h2,f9 i0,zd];simp
theorem aa.Mu(d:C.Ok)(H:aa B h0 h As)(i:Nat)(b:As[i]?=dB (ak e s k f l))(o:bY C.toDi t e k z by_)(m:∀x,ii (f x)=k)(g:Seq h p v k f l2)(a:∀x,∀c∈f x,c.oneCell'=eL){K:Int->f8->Prop}
  (j:∀n h',aa B h0 h' (As.set i (ak e s k f (l2.take l.length++l.drop l2.length)))->K n h'):
  aB C.P (yp #[t,t2] ty #[.slice s.ptr s.len s.cap,.slice v.ptr v.len v.cap]) (.one (.sc (.int .i64))) h K:=
 (H.own i b).Mu d o m g a λn h' x y=>j n h' (H.nP i b y x)
end
def OS(d:Sl)(w i:Nat):Sl:=⟨if d.cap=i*w then d.ptr else d.ptr.map (·.add (i*w*1)),(i+1)*w-i*w,d.cap-i*w⟩
def GY{α:Type}(l:List α)(w i:Nat):List α:=(l.drop (i*w)).take w
theorem Seq.piece{α:Type}{h:f8}{p:aD}{s:Sl}{f:α->bg}{l:List α}(a:Seq h p s 1 f l)(c:s.len<=s.cap)(w i:Nat)(g:(i+1)*w<=ii l):Seq h p (OS s w i) 1 f (GY l w i):=by
 have d:=a.drop (i*w) c;have e:(i+1)*w=i*w+w:=zT i w;have b:=d.take w l4;have e2:(i+1)*w-i*w=w:=i4
 unfold OS GY;rw[e2];exact b
theorem agU{α:Type}{l:List α}{w i:Nat}(a:(i+1)*w<=ii l):ii (GY l w i)=w:=by have e:(i+1)*w=i*w+w:=zT i w;simp only[GY,q8,ze];omega
def HP.sep(A D:HP):HP:=
 ⟨λh q=>∃g i:aD,(∀b,g b->¬i b)/\(∀b,g b->q b)/\(∀b,i b->q b)/\A.p h g/\D.p h i,
  λ⟨g,i,a,b,c,d,e⟩ hp=>⟨g,i,a,b,c,A.loc d (hp.mono λx _ f=>b x f),D.loc e (hp.mono λx _ f=>c x f)⟩,
  λ⟨g,i,a,b,c,d,e⟩ hq=>⟨g,i,a,λx f=>hq x (b x f),λx f=>hq x (c x f),d,e⟩⟩
def HP.ex{ι:Type}(F:ι->HP):HP:=⟨λh q=>∃i,(F i).p h q,λ⟨i,a⟩ hp=>⟨i,(F i).loc a hp⟩,λ⟨i,a⟩ hq=>⟨i,(F i).mono a hq⟩⟩
def HP.and(A:HP)(P:Prop):HP:=⟨λh q=>A.p h q/\P,λa c=>⟨A.loc a.1 c,a.2⟩,λa b=>⟨A.mono a.1 b,a.2⟩⟩
section
variable {B:aD} {h0 h h':f8} {As Bs:List HP} {A D E:HP} {i j:Nat}
theorem aa.split(H:aa B h0 h As)(i:Nat)(m:As[i]?=dB (A.sep D)):aa B h0 h (As.set i A++[D]):=by
 classical
 obtain⟨v,p,c,z,a⟩:=H;obtain⟨w,s,o,n,s2,q,u⟩:=a i _ m;have r:=(qn.1 m).1;refine⟨v,p,λb=>if s b then As.length+1 else c b,λb e=>?_,λj X d=>?_⟩
 ·have t:=z b e;dsimp only;rw[g0];exact t;intro k;have:=(s2 b k).2;omega
 ·by_cases l:j<ii As
  ·rw[qo qb,q7]at d;split at d
   ·rename_i f;subst f
    first|rw[f9 l]at d|skip
    injection d with d
    subst d;refine A.mono q λb e=>⟨(n b e).1,?_⟩
    dsimp only;rw[g0 (o b e)];exact(n b e).2
   ·rename_i f;refine X.mono (a j X d) λb e=>⟨e.1,?_⟩
    dsimp only;rw[g0];exact e.2;intro k;have:=(s2 b k).2;omega
  ·rw[qj qb]at d;rw[zh]at d;have g:j=ii As:=by have:=(qn.1 d).1;simp at this;omega
   subst g;simp at d;subst d;refine D.mono u λb e=>⟨(s2 b e).1,?_⟩
   dsimp only;rw[f9 e]
theorem aa.join(H:aa B h0 h As)(i j:Nat)(b:i≠j)(d:As[i]?=dB A)(c:As[j]?=dB D):aa B h0 h ((As.set i (A.sep D)).set j emp):=
 H.merge i j b d c λf g e k l=>⟨f,g,e,λ_ a=>.inl a,λ_ a=>.inr a,k,l⟩
theorem aa.YD{ι:Type}{F:ι->HP}(H:aa B h0 h As)(i:Nat)(e:As[i]?=dB (HP.ex F)):∃x,aa B h0 h (As.set i (F x)):=by
 obtain⟨g,p,c,z,a⟩:=H;obtain⟨x,f⟩:=a i _ e;refine⟨x,g,p,c,z,λj X b=>?_⟩;rw[q7]at b;split at b
 ·rename_i d;subst d;split at b
  ·injection b with b;subst b;exact f
  ·cases b
 ·exact a j X b
theorem aa.close'{ι:Type}{F:ι->HP}(H:aa B h0 h As)(i:Nat)(x:ι)(a:As[i]?=dB (F x)):aa B h0 h (As.set i (HP.ex F)):=H.fZ i a λ_ b=>⟨x,b⟩
theorem aa.fact{P:Prop}(H:aa B h0 h As)(i:Nat)(a:As[i]?=dB (A.and P)):P:=(H.at i a).2
theorem aa.aga{P:Prop}(H:aa B h0 h As)(i:Nat)(a:As[i]?=dB (A.and P)):aa B h0 h (As.set i A):=H.fZ i a λ_ b=>b.1
theorem aa.ajI{P:Prop}(H:aa B h0 h As)(i:Nat)(a:As[i]?=dB A)(b:P):aa B h0 h (As.set i (A.and P)):=H.fZ i a λ_ c=>⟨c,b⟩
theorem aa.cons(H:aa B h0 h As)(i:Nat)(g:As[i]?=dB A):aa B h0 h (A::As.set i emp):=by
 obtain⟨l,p,c,z,a⟩:=H;have k:=(qn.1 g).1;refine⟨l,p,λb=>if c b=i+1 then 1 else if c b=0 then 0 else c b+1,λb e=>?_,λj X d=>?_⟩
 ·have:=z b e;dsimp only;rw[g0 i4,f9 this]
 ·cases j with
  |zero=>
   simp at d;subst d;refine A.mono (a i A g) λb e=>⟨e.1,by dsimp only;rw[f9 e.2]⟩
  |succ j=>
   rw[qw,q7]at d;split at d
   ·rename_i f;injection d with d;subst d;trivial
   ·rename_i f;refine X.mono (a j X d) λb e=>⟨e.1,by dsimp only;rw[g0 i4,g0 i4];omega⟩
theorem aa.rest(H:aa B h0 h (A::As)):aa B h0 h As:=H.pick (λj=>j+1) (λa b h=>i4) λj X c=>l5
end
structure jn (α β:Type) where
 p:f8->aD->α->β->Prop
 loc:∀{h h':f8} {q:aD} {a:α} {b:β},p h q a b->be q h h'->p h' q a b
 mono:∀{h:f8} {q q':aD} {a:α} {b:β},p h q a b->(∀x,q x->q' x)->p h q' a b
def cF{α:Type}(k:Nat)(f:α->bg):jn Sl (List α):=⟨λh q s l=>Seq h q s k f l,λa c=>a.aj c,λa b=>a.mono b⟩
def uD{α:Type}(k:Nat)(f:α->bg):jn Sl (List α):=⟨λh q s l=>Seq h q s k f l/\(l=[]->s.ptr=eH),λa c=>⟨a.1.aj c,a.2⟩,λa b=>⟨a.1.mono b,a.2⟩⟩
def bO{α β:Type}(E:jn α β)(k:Nat)(f:α->bg):jn Sl (List β):=
 ⟨λh q s ll=>∃rs:List α,Seq h q s k f rs/\rs.length=ii ll/\∀(i:Nat) r l,rs[i]?=dB r->ll[i]?=dB l->E.p h q r l,
  λ⟨rs,a,b,c⟩ hp=>⟨rs,a.aj hp,b,λi r l e d=>E.loc (c i r l e d) hp⟩,λ⟨rs,a,b,c⟩ hq=>⟨rs,a.mono hq,b,λi r l e d=>E.mono (c i r l e d) hq⟩⟩
def aih{α β:Type}(E:jn α β)(P:α->β->Prop):jn α β:=⟨λh q a b=>E.p h q a b/\P a b,λa d=>⟨E.loc a.1 d,a.2⟩,λa c=>⟨E.mono a.1 c,a.2⟩⟩
def EA{α β:Type}(E:jn α β)(a:α)(b:β):HP:=⟨λh q=>E.p h q a b,λx d=>E.loc x d,λx c=>E.mono x c⟩
abbrev dW{α β:Type}(E:jn α β)(h:f8)(a:α)(b:β):Prop:=E.p h (λb=>b<h.size) a b
def cg{α β:Type}(e:TypeId)(s:Sl)(k:Nat)(f:α->bg)(E:jn α β)(m:List β):HP:=
 ⟨λh q=>∃(rs:List α) (j:aD),Own h e s k f rs/\(∀b,s.on b->q b/\¬j b)/\(∀b,j b->q b)/\rs.length=ii m/\∀(i:Nat) r l,rs[i]?=dB r->m[i]?=dB l->E.p h j r l,
  λ⟨rs,j,a,b,c,d,e⟩ hp=>⟨rs,j,a.aj hp λx g=>(b x g).1,b,c,d,λi r l o n=>E.loc (e i r l o n) (hp.mono λx _ g=>c x g)⟩,
  λ⟨rs,j,a,b,c,d,e⟩ hq=>⟨rs,j,a,λx g=>⟨hq x (b x g).1,(b x g).2⟩,λx g=>hq x (c x g),d,e⟩⟩
section
variable {α β:Type} {E:jn α β} {k:Nat} {f:α->bg} {h h':f8} {q:aD} {s:Sl} {ll:List β} {a:α} {b:β}
theorem dW.up(x:dW E h a b)(c:be (λb=>b<h.size) h h'):dW E h' a b:=E.mono (E.loc x c) λ_ d=>qW d c.1
theorem bO.kt(x:(bO E k f).p h q s ll):∃rs:List α,Seq h q s k f rs/\rs.length=ii ll/\∀(i:Nat) (e:i<ii rs) (d:i<ii ll),E.p h q rs[i] ll[i]:=by obtain⟨rs,a,b,c⟩:=x;exact⟨rs,a,b,λi e d=>c i _ _ (qd e) (qd d)⟩
theorem bO.len(x:(bO E k f).p h q s ll):s.len=ii ll:=by obtain⟨rs,a,b,c⟩:=x;rw[a.len,b]
theorem bO.nil(h:f8)(q:aD)(a:aO)(c:Nat):(bO E k f).p h q ⟨a,0,c⟩ []:=⟨[],Seq.nil h q c a k f,i0,λi r l b=>by simp at b⟩
theorem bO.take(x:(bO E k f).p h q s ll)(n:Nat)(j:n<=ii ll):(bO E k f).p h q ⟨s.ptr,n,s.cap⟩ (ll.take n):=by
 obtain⟨rs,a,b,c⟩:=x;refine⟨rs.take n,a.take n i4,l7,λi r l d e=>?_⟩;rw[vd]at d e;split at d
 ·rename_i g;rw[f9 g]at e;exact c i r l d e
 ·cases d
theorem bO.get{X:Type}{g:X->eS}(x:(bO E 1 f).p h q s ll){i:Int}(n:Nat)(b:i=n)(j:n<ii ll)(u:α->X)(c:∀r,f r=[g (u r)]){K:X->Prop}(d:∀r,E.p h q r ll[n]->K (u r)):
  ∃a:eX,(s.ptr=dB a/\0<=i/\i<((s.len:Nat):Int))/\∃x:X,f7 h (a.add (i.toNat*1))=dB (g x)/\K x:=by
 obtain⟨rs,e,k,h3⟩:=bO.kt x;exact e.bH n b i4 (u (rs[n]'(by omega))) (c _) (d _ (h3 n i4 j))
theorem bO.oq{E:jn Sl β}(x:(bO E 1 bw).p h q s ll){i:Int}(n:Nat)(b:i=n)(d:n<ii ll){K:Sl->Prop}(c:∀r,E.p h q r ll[n]->K r):
  ∃a:eX,(s.ptr=dB a/\0<=i/\i<((s.len:Nat):Int))/\∃x:Sl,f7 h (a.add (i.toNat*1))=dB (.slice x.ptr x.len x.cap)/\K x:=
 bO.get (g:=λr:Sl=>Value.slice r.ptr r.len r.cap) x n b d id (λ_=>rfl) c
theorem bO.tofR{γ:Type}{d:Nat}{g:γ->bg}{l:List (List γ)}(x:dW (bO (cF d g) 1 bw) h s l):fR h s d g l:=by obtain⟨rs,a,b,c⟩:=x;exact⟨rs,a,b,c⟩
theorem bO.impl{α':Type}{e:Type}{E':jn α e}(u:β->e)(g:∀{h q a b},E.p h q a b->E'.p h q a (u b))(x:(bO E k f).p h q s ll):(bO E' k f).p h q s (ll.map u):=by
 obtain⟨rs,a,b,c⟩:=x;refine⟨rs,a,l7,λi r l j d=>?_⟩;rw[qT]at d;cases h3:ll[i]? with
 |none=>rw[h3]at d;cases d
 |some y=>rw[h3]at d;simp at d;subst d;exact g (c i r y j h3)
end
section
variable {α β:Type} {E:jn α β} {C:Ctx} {k e t:Nat} {f:α->bg} {B:aD} {h0 h h':f8} {As:List HP} {s:Sl} {ll:List β} {z:bg} {by_:Nat}
theorem aa.GZ(H:aa B h0 h As)(e k:Nat)(f:α->bg)(E:jn α β):aa B h0 h (As++[cg e ⟨eH,0,0⟩ k f E []]):=
 H.comp (.one (be.refl _ _) ⟨[],λ_=>False,Own.nil h e k f,λb a=>(by obtain⟨o,a⟩:=a;cases a),λ_ a=>a.elim,rfl,λi r l h=>m8⟩)
theorem aa.Qi(H:aa B h0 h As)(i:Nat)(g:As[i]?=dB (cg e s k f E ll))(o:∀x,ii (f x)=k):dW (bO E k f) h s ll:=by obtain⟨rs,p,a,b,c,d,e⟩:=H.at i g;exact⟨rs,a.seq o λx j=>(b x j).1,d,λi r l n m=>E.mono (e i r l n m) c⟩
theorem aa.XG(H:aa B h0 h As)(i:Nat)(g:As[i]?=dB (cg e s k f E ll))(o:∀x,ii (f x)=k):aa B h0 h (As.set i (EA (bO E k f) s ll)):=
 H.fZ i g λq ⟨rs,p,a,b,c,d,e⟩=>⟨rs,a.seq o λx j=>(b x j).1,d,λi r l n m=>E.mono (e i r l n m) c⟩
theorem aa.eAt{a:α}{b:β}(H:aa B h0 h As)(i:Nat)(c:As[i]?=dB (EA E a b)):dW E h a b:=H.at i c
theorem aa.YE(H:aa B h0 h As)(i:Nat)(g:As[i]?=dB (cg e s k f E ll)):s.len=ii ll/\s.len<=s.cap:=by obtain⟨rs,j,a,b,c,d,e⟩:=H.at i g;exact⟨by rw[a.len,d],a.cap⟩
theorem aa.tE(hC:C.Ok)(H:aa B h0 h As)(i j:Nat)(I:i≠j){a:α}{b:β}(Y:As[i]?=dB (cg e s k f E ll))(hj:As[j]?=dB (EA E a b))(he:bY C.toDi t e k z by_)(hz:ii z=k)(V:0<by_/\by_<=128)(hw:∀x,ii (f x)=k)
  (R:∀x,∀c∈f x,c.oneCell'=eL) {parts:Array (Nat×eS)} (L:wB (λi=>dB (i*k,k)) (jd z 1).toArray parts.toList=dB ([a].flatMap f).toArray) (X:1*k<=2^20)
  (ab:ii ll+1<=2^32) {ty:Nat} {K:Sl->f8->Prop} (hk:∀T h',aa B h0 h' ((As.set j emp).set i (cg e T k f E (ll++[b])))->K T h'):
  aB C.P (qq t 1 parts) (.one (.sc .slc)) h λv y=>aB C.P (qt #[t,t] ty #[.slice s.ptr s.len s.cap,.slice v.ptr v.len v.cap]) (.one (.sc .slc)) y K:=by
 have H2:=H.merge i j I Y hj (D:=⟨λh q=>∃(rs:List α) (g:aD),Own h e s k f rs/\(∀b,s.on b->q b/\¬g b)/\(∀b,g b->q b)/\rs.length=ii ll/\(∀(i:Nat) r l,rs[i]?=dB r->ll[i]?=dB l->E.p h g r l)/\E.p h g a b,
  λ⟨rs,g,a,b,c,d,e,f⟩ hp=>⟨rs,g,a.aj hp λx n=>(b x n).1,b,c,d,λi r l y A=>E.loc (e i r l y A) (hp.mono λx _ n=>c x n),E.loc f (hp.mono λx _ n=>c x n)⟩,
  λ⟨rs,g,a,b,c,d,e,f⟩ hq=>⟨rs,g,a,λx n=>⟨hq x (b x n).1,(b x n).2⟩,λx n=>hq x (c x n),d,e,f⟩⟩)
  (λg q2 hd hA hB=>by
   obtain⟨rs,q3,a,b,c,d,e'⟩:=hA;refine⟨rs,λb=>q3 b∨q2 b,a,λx n=>⟨.inl (b x n).1,λN=>N.elim (b x n).2 (hd x (b x n).1)⟩,λx n=>n.elim (λh=>.inl (c x h)) .inr,d,λi r l y A=>E.mono (e' i r l y A) λ_ h=>.inl h,E.mono hB λ_ h=>.inr h⟩)
 have u:i<ii As:=(qn.1 Y).1;obtain⟨lo,pp,c,zz,ax⟩:=H2;have ha:=ax i _ (by rw[zD (Ne.symm I),zl u]);obtain⟨rs,g,a1,a2,a3,a4,a5,a6⟩:=ha;let Z:Nat->Nat:=λb=> @ite _ (g b) (Classical.propDecidable _) (ii As+2) (c b);have J:∀b,g b->b<h.size/\c b=i+1:=a3;have ho:dQ h Z (i+1) e s k f rs:=⟨a1,λb m=>by
  have:=a2 b m;show @ite _ (g b) (Classical.propDecidable _) _ _=_;rw[g0 this.2];exact this.1.2⟩
 refine ho.push hC he hz V hw R a L X i4 λT h' G M=>hk T h' ?_;rw[vw _ _ (Ne.symm I)];rw[<-yq (l:=As) (i:=i),vw _ _ I];have S:∀b,g b->Z b≠i+1:=λb m=>by
  show @ite _ (g b) (Classical.propDecidable _) _ _≠_;rw[f9 m];omega
 refine aa.Er lo pp zz ax (M.mono λb m hn hc=>hn ⟨m,?_⟩) ⟨rs++[a],λb=>g b/\b<h.size,G.own,λb m=>?_,λb m=>⟨qW m.2 M.1,.inl ⟨m.2,(J b m.1).2⟩⟩,by simp[a4],λW r' l' y A=>?_⟩
 ·by_cases F:g b
  ·exact(J b F).2
  ·have w:@ite _ (g b) (Classical.propDecidable _) (ii As+2) (c b)=i+1:=hc;rw[g0 F]at w;exact w
 ·have o:=G.bD b m;by_cases u:b<h.size
  ·rw[gK u]at o;have O:¬g b:=λF=>S b F o;have w:@ite _ (g b) (Classical.propDecidable _) (ii As+2) (c b)=i+1:=o;rw[g0 O]at w;exact⟨⟨G.own.lt m,.inl ⟨u,w⟩⟩,λN=>O N.1⟩
  ·exact⟨⟨G.own.lt m,.inr i4⟩,λN=>u N.2⟩
 ·have Q:∀{rr:α} {l:β},E.p h g rr l->E.p h' (λb=>g b/\b<h.size) rr l:=λhs=>
   E.loc (E.mono hs (q':=λb=>g b/\b<h.size) λb m=>⟨m,(J b m).1⟩) (M.mono λb _ m=>S b m.1)
  by_cases U:W<ii rs
  ·rw[qo U]at y;rw[qo i4]at A;exact Q (a5 W r' l' y A)
  ·have:W=ii rs:=by have:=(qn.1 y).1;simp at this;omega
   subst this;simp at y;rw[a4]at A;simp at A;subst y;subst A;exact Q a6
theorem aa.akd{N:TI}(hC:C.Ok)(H:aa B h0 h As)(i j:Nat)(y:i≠j){a:α}{b:β}(O:As[i]?=dB (cg e s k f E ll))(U:As[j]?=dB (EA E a b))(hw:∀x,ii (f x)=k)(ht:C.T.get t=dB N){x:Int}(n:Nat)(g:x=n)(hn:n<ii ll){G:eS}(V:G.cells=(f a).toArray)(M:N.size=k)
  (J:(f a).all (·.oneCell')=eL) {K:f8->Prop} (X:∀h',aa B h0 h' ((As.set j emp).set i (cg e s k f E (ll.set n b)))->K h'):
  ∃a:eX,(s.ptr=dB a/\0<=x/\x<((s.len:Nat):Int))/\ag C.P (qf t (.pointer (dB (a.add (x.toNat*k)))) G) h λ_ h'=>K h':=by
 have S:=H.merge i j y O U (D:=⟨λh q=>∃(rs:List α) (m:aD),Own h e s k f rs/\(∀b,s.on b->q b/\¬m b)/\(∀b,m b->q b)/\rs.length=ii ll/\(∀(i:Nat) r l,rs[i]?=dB r->ll[i]?=dB l->E.p h m r l)/\E.p h m a b,
  λ⟨rs,m,a,b,c,d,e,f⟩ hp=>⟨rs,m,a.aj hp λx g=>(b x g).1,b,c,d,λi r l o u=>E.loc (e i r l o u) (hp.mono λx _ g=>c x g),E.loc f (hp.mono λx _ g=>c x g)⟩,
  λ⟨rs,m,a,b,c,d,e,f⟩ hq=>⟨rs,m,a,λx g=>⟨hq x (b x g).1,(b x g).2⟩,λx g=>hq x (c x g),d,e,f⟩⟩)
  (λm q2 W hA hB=>by
   obtain⟨rs,q3,a,b,c,d,e'⟩:=hA;refine⟨rs,λb=>q3 b∨q2 b,a,λx g=>⟨.inl (b x g).1,λhh=>hh.elim (b x g).2 (W x (b x g).1)⟩,λx g=>g.elim (λh=>.inl (c x h)) .inr,d,λi r l o u=>E.mono (e' i r l o u) λ_ h=>.inl h,E.mono hB λ_ h=>.inr h⟩)
 have L:i<ii As:=(qn.1 O).1;obtain⟨lo,pp,c,zz,ax⟩:=S;have Z:=ax i _ (by rw[zD (Ne.symm y),zl L]);obtain⟨rs,m,a1,I,a3,a4,a5,R⟩:=Z;refine a1.set hC hw ht n g i4 a V M J λh' z w _=>X h' ?_;rw[vw _ _ (Ne.symm y)];rw[<-yq (l:=As) (i:=i),vw _ _ y];have keep:∀{Q:α} {l:β},E.p h m Q l->E.p h' m Q l:=λhs=>E.loc hs (w.mono λb _ v F=>(I b F).2 v);refine aa.Er lo pp zz ax (w.mono λb _ v F=>v (I b F).1) ⟨rs.set n a,m,z,λb v=>⟨⟨qW (I b v).1.1 w.1,.inl (I b v).1⟩,(I b v).2⟩,λb v=>⟨qW (a3 b v).1 w.1,.inl (a3 b v)⟩,by simp[a4],λi' Y l' o u=>?_⟩;rw[q7]at o u;split at o
 ·rename_i A;rw[f9 A]at u;split at o
  ·injection o with o;subst o
   have e:l'=b:=by rw[f9 i4]at u;exact(zR.inj u).symm
   subst e;exact keep R
  ·cases o
 ·rename_i A;rw[g0 A]at u;exact keep (a5 i' Y l' o u)
end
section
variable {α β:Type} {E:jn α β} {k e:Nat} {f:α->bg} {B:aD} {h0 h:f8} {As:List HP} {s:Sl}
theorem aa.aii(H:aa B h0 h As)(i j:Nat)(g:i≠j){a:α}{b:β}(t:As[i]?=dB (ak e s k f [a]))(o:As[j]?=dB (EA E a b)):aa B h0 h ((As.set i (cg e s k f E [b])).set j emp):=
 H.merge i j g t o λw u p c v=>⟨[a],u,c.1,λx n=>⟨.inl (c.2 x n),p x (c.2 x n)⟩,λ_ q=>.inr q,i0,λi r l d m=>by
  cases i with
  |succ i=>simp at d
  |zero=>simp at d m;subst d;subst m;exact v⟩
theorem aa.Mw{α:Type}{f:α->bg}{l:List α}(H:aa B h0 h As)(i:Nat)(b:As[i]?=dB (ak e s k f l))(c:∀x,ii (f x)=k):aa B h0 h (As.set i (EA (cF k f) s l)):=H.fZ i b λ_ a=>a.1.seq c a.2
end
section
variable {α:Type} {B:aD} {h0 h:f8} {As:List HP} {e e2 k:Nat} {s:Sl} {f:α->bg} {rs:List Sl} {ll:List (List α)}
theorem aa.agV(H:aa B h0 h (As++(ak e s 1 bw rs::bF e2 k f rs ll)))(w:ii rs=ii ll)(F:∀x,ii (f x)=k)(n:Nat)(J:n<=ii ll):aa B h0 h (As++[cg e ⟨s.ptr,n,s.cap⟩ 1 bw (cF k f) (ll.take n)]):=by
 classical
 obtain⟨I,p,c,z,a⟩:=H;refine⟨I,p,λb=>if c b>ii As then As.length+1 else c b,λb d=>?_,λj X g=>?_⟩
 ·have:=z b d;dsimp only;rw[g0 i4];exact this
 ·by_cases m:j<ii As
  ·rw[qo m]at g;refine X.mono (a j X (by rw[qo m];exact g)) λb d=>⟨d.1,?_⟩
   dsimp only;rw[g0 i4];exact d.2
  ·rw[qj i4]at g;have t:j=ii As:=by have:=(qn.1 g).1;simp at this;omega
   subst t;simp at g;subst g;have A:=a As.length (ak e s 1 bw rs) (by rw[qj (qm _)];simp);refine⟨rs.take n,λb=>b<h.size/\c b>ii As+1,A.1.cut (λ_=>rfl) n i4,λb d=>?_,λb d=>?_,by simp[w],λi r l o h3=>?_⟩
   ·have u:=A.2 b d;refine⟨⟨u.1,?_⟩,λK=>i4⟩;dsimp only;rw[f9 i4]
   ·refine⟨d.1,?_⟩;dsimp only;rw[f9 i4]
   ·rw[vd]at o h3;split at o
    ·rename_i v;rw[f9 v]at h3;have y:i<ii ll:=(qn.1 h3).1;have G:=fX (e:=e2) (k:=k) (f:=f) w i y;have q:=a (ii As+(i+1)) _ (by rw[qj i4];simpa using G);have D:rs[i]'(by omega)=r:=by rw[qd i4]at o;simpa using o
     have E:ll[i]=l:=by rw[qd y]at h3;simpa using h3
     rw[D,E]at q;exact q.1.seq F λb d=>⟨(q.2 b d).1,by have:=(q.2 b d).2;omega⟩
    ·cases o
theorem aa.Sy{s:Sl}{a:List (List α)}(H:aa B h0 h As)(i:Nat)(b:As[i]?=dB (fS e s k f a)):aa B h0 h (As.set i (cg e s 1 bw (cF k f) a)):=H.fZ i b λ_ c=>c
end
theorem Qj{h h':f8}{p:aD}(a:be p h h'):∀{L:az},L.ok h->(∀x∈L,p x.1.block)->L.ok h'
 |[],_,_=>trivial
 |x::L,hk,hq=>⟨a.cell (hq x i9) hk.1,Qj a hk.2 λy b=>hq y l7⟩
theorem kL{h h':f8}(d:be (λb=>b<h.size) h h'){L:az}(c:L.ok h):L.ok h':=Qj d c (by
 clear d
 induction L with
 |nil=>intro x a;cases a
 |cons y L ih=>
  intro x a;rcases zb.1 a with rfl|a
  ·exact vM c.1
  ·exact ih c.2 x a)
theorem aB.both{P:Program}{s:Sem eS}{h:f8}{K:Sl->f8->Prop}{Q:f8->Prop}(i:aB P s (.one (.sc .slc)) h λ_ h'=>Q h')(e:aB P s (.one (.sc .slc)) h K):aB P s (.one (.sc .slc)) h λx h'=>Q h'/\K x h':=by intro w b;obtain⟨n,m,a,f,k,a3,a4⟩:=i w b;obtain⟨o,l,c,j,x2,d,g⟩:=e w b;rw[a]at c;cases c;exact⟨_,_,a,f,x2,d,a4,g⟩
theorem aa.nQ{α:Type}{B:aD}{C:Ctx}{r h:f8}{As:List HP}{e t k b:Nat}{z:bg}{K:Sl->f8->Prop}(o:C.Ok)(H:aa B r h As)(f:α->bg)(q:bY C.toDi t e k z b)(d:ii z=k){n:Nat}{parts:Array (Nat×eS)}(l:List α)(g:ii l=n)(c:n*k<=2^20)
  (a:wB (λi=>dB (i*k,k)) (jd z n).toArray parts.toList=dB (l.flatMap f).toArray) {L:az} (j:L.ok h) (m:aB C.P (qq t n parts) (.one (.sc .slc)) h K):
  aB C.P (qq t n parts) (.one (.sc .slc)) h λx h'=>L.ok h'/\K x h':=
 aB.both ((Sp.refl h).lit o f q d l g c a λ_ _ p=>kL p.aj j) m
section
variable {B:aD} {h0 h h':f8} {As Bs:List HP} {A D E:HP} {i j:Nat}
theorem aa.front(H:aa B h0 h (As++Bs)):aa B h0 h (Bs++As):=
 H.pick (λj=>if j<ii Bs then As.length+j else if j<ii Bs+ii As then j-ii Bs else j)
  (λa b c=>by(try dsimp only at c);split at c<;>split at c<;>(try split at c)<;>(try split at c)<;>omega) λj X d=>by
  try dsimp only
  split
  ·rename_i e;rw[qo e]at d;rw[qj i4,zp];exact d
  ·rename_i e;rw[qj i4]at d;have:=(qn.1 d).1;rw[f9 i4,qo this];exact d
theorem aa.bA(H:aa B h0 h (As++[A])):aa B h0 h (A::As):=H.front
theorem aa.co(H:aa B h0 h As)(R:Sp h h' [A]):aa B h0 h' (A::As):=(H.comp R).bA
theorem aa.oU(H:aa B h0 h (A::As)):aa B h0 h As:=H.rest
theorem aa.re(H:aa B h0 h (A::D::As)):aa B h0 h (A::As):=H.del 1
theorem aa.tG{ι:Type}{F:ι->HP}(H:aa B h0 h (HP.ex F::As)):∃x,aa B h0 h (F x::As):=H.YD 0 i0
theorem aa.Ah{ι:Type}{F:ι->HP}(x:ι)(H:aa B h0 h (F x::As)):aa B h0 h (HP.ex F::As):=H.close' 0 x i0
theorem aa.uc(H:aa B h0 h (A.sep D::As)):aa B h0 h (D::A::As):=(H.split 0 i0).bA
theorem aa.mj(H:aa B h0 h (D::A::As)):aa B h0 h (A.sep D::As):=by have a:aa B h0 h (emp::A.sep D::As):=H.join 1 0 i5 i0 i0;exact a.rest
theorem aa.oB(H:aa B h0 h (A::D::As)):aa B h0 h (D::A::As):=H.afZ 0 1 i0 i0
end
theorem Seq.mq{h:f8}{p:aD}{s:Sl}{rs:List Sl}(d:Seq h p s 1 bw rs){i:Int}(n:Nat)(b:i=n)(e:n<ii rs){K:Sl->Prop}(c:K rs[n]):
  ∃a:eX,(s.ptr=dB a/\0<=i/\i<((s.len:Nat):Int))/\∃x:Sl,f7 h (a.add (i.toNat*1))=dB (.slice x.ptr x.len x.cap)/\K x:=
 d.bH (g:=λr:Sl=>Value.slice r.ptr r.len r.cap) n b e rs[n] i0 c
def St(B:aD)(a:f8)(As:List HP)(Q:f8->Prop):Prop:=∀(Bs:List HP) (h':f8),aa B a h' (Bs++As)->Q h'
section
variable {B:aD} {h0 h h':f8} {As Bs:List HP} {A:HP} {Q:f8->Prop}
theorem St.at(x:St B h0 As Q)(Bs:List HP)(H:aa B h0 h (Bs++As)):Q h:=x Bs h H
theorem St.base(b:Q h0)(a:∀h',be B h0 h'->Q h'):St B h0 As Q:=λ_ _ H=>a _ H.aj
theorem St.dS(j:Nat)(a:As[j]?=dB A)(c:∀h',A.p h' (λb=>b<h'.size)->Q h'):St B h0 As Q:=λBs h' H=>c _ (H.at (ii Bs+j) (by rw[qj i4,zp];exact a))
theorem St.cons(x:St B h0 As Q):St B h0 (A::As) Q:=λBs h' H=>x (Bs++[A]) h' (by rw[qp];exact H)
end
section
variable {β:Type} {E:jn Sl β} {h:f8} {q:aD} {s:Sl} {ll:List β}
theorem bO.ake(x:(bO E 1 bw).p h q s ll){i:Int}(n:Nat)(l:i=n)(j:n<ii ll){K:Sl->Prop}(g:∀(a:eX) (r:Sl),s.ptr=dB a->f7 h (a.add (n*1))=dB (.slice r.ptr r.len r.cap)->E.p h q r ll[n]->K r):
  ∃a:eX,(s.ptr=dB a/\0<=i/\i<((s.len:Nat):Int))/\∃x:Sl,f7 h (a.add (i.toNat*1))=dB (.slice x.ptr x.len x.cap)/\K x:=by
 subst l;obtain⟨rs,e,m,h3⟩:=bO.kt x;obtain⟨b,o,c,e2,k⟩:=e.elem n (rs[n]'(by omega)) (qd i4);have d:=k.1;rw[add_eq,wN]at d;have f:f7 h ((⟨b,o,eH⟩:eX).add (n*1))=dB (.slice (rs[n]'(by omega)).ptr (rs[n]'(by omega)).len (rs[n]'(by omega)).cap):=by rw[add_eq];exact d
 refine⟨_,⟨c,i4,by rw[e.len];omega⟩,rs[n]'(by omega),by rw[ql];exact f,g _ _ c f (h3 n i4 j)⟩
theorem bO.pick(x:(bO E 1 bw).p h q s ll)(n:Nat)(g:n<ii ll){a:eX}{r:Sl}(i:s.ptr=dB a)(l:f7 h (a.add (n*1))=dB (.slice r.ptr r.len r.cap)):E.p h q r ll[n]:=by
 obtain⟨rs,k,t,h3⟩:=bO.kt x;obtain⟨b,o,c,e2,j⟩:=k.elem n (rs[n]'(by omega)) (qd i4);rw[i]at c;injection c with c
 subst c;have f:=j.1;rw[add_eq,wN]at f;have d:f7 h ((⟨b,o,eH⟩:eX).add (n*1))=dB (.slice (rs[n]'(by omega)).ptr (rs[n]'(by omega)).len (rs[n]'(by omega)).cap):=by rw[add_eq];exact f
 rw[l]at d;have e:=h3 n i4 g;generalize rs[n]'(by omega)=r' at d e;obtain⟨m,l1,v⟩:=r;obtain⟨u,l2,w⟩:=r';simp at d;obtain⟨rfl,rfl,rfl⟩:=d;exact e
end
theorem Ha{α:Type}{l:List α}(f:l.Nodup){a b:Nat}(c:a<ii l)(e:b<ii l)(h:l[a]=l[b]):a=b:=by
 have d:=zx.1 f;rcases yz a b with hlt|he|hgt
 ·exact absurd h (d a b c e hlt)
 ·exact he
 ·exact absurd h.symm (d b a e c hgt)
theorem aa.cG{B:aD}{k h:f8}{As:List HP}(H:aa B k h As)(L:List Nat)(g:∀j∈L,j<ii As:=by simp)(m:L.Nodup:=by decide):aa B k h (L.map λj=>As.getD j emp):=by
 refine H.pick (λi=>if h:i<ii L then L[i]else As.length+i) (λa b c=>?_) λi A2 e=>?_
 ·try dsimp only at c
  split at c<;>split at c
  ·exact Ha m _ _ c
  ·have:=g _ (qg (l:=L) (n:=a) oj);omega
  ·have:=g _ (qg (l:=L) (n:=b) oj);omega
  ·omega
 ·try dsimp only
  rw[qT]at e;split
  ·rename_i d;rw[qd d]at e;have f:=g _ (qg d);simp only[qZ,zR.injEq]at e;rw[<-e,qe,qd f];rfl
  ·rename_i d;rw[qQ i4]at e;simp at e
theorem St.mk'{B:aD}{a:f8}{As:List HP}{Q:f8->Prop}(x:∀h',aa B a h' As->Q h'):St B a As Q:=λBs h' H=>x h' (H.take Bs.length λi A b=>by
 rw[qj i4,zp];exact b)
theorem St.here{B:aD}{a h:f8}{As:List HP}{Q:f8->Prop}(x:St B a As Q)(H:aa B a h As):Q h:=x [] h H
theorem St.mono{B:aD}{b:f8}{As:List HP}{Q a:f8->Prop}(x:St B b As Q)(c:∀h,Q h->a h):St B b As a:=λBs h' H=>c _ (x Bs h' H)
theorem aa.aX{B:aD}{m h:f8}{As:List HP}(H:aa B m h As)(k:Nat)(L:List Nat)(p:k<=ii As:=by simp)(f:∀j∈L,j<k:=by simp)(o:L.Nodup:=by decide):aa B m h (L.map (λj=>As.getD j emp)++As.drop k):=by
 refine H.pick (λi=>if h:i<ii L then L[i]else k+(i-ii L)) (λa b d=>?_) λi A2 e=>?_
 ·try dsimp only at d
  split at d<;>split at d
  ·exact Ha o _ _ d
  ·have:=f _ (qg (l:=L) (n:=a) oj);omega
  ·have:=f _ (qg (l:=L) (n:=b) oj);omega
  ·omega
 ·try dsimp only
  by_cases c:i<ii L
  ·rw[dif_pos c];rw[qo l5,qT,qd c]at e;have g:=f _ (qg c);simp only[qZ,zR.injEq]at e;rw[<-e,qe,qd i4];rfl
  ·rw[dif_neg c];rw[qj l5,qz,wJ]at e;exact e
section
variable {α β:Type} {E:jn α β} {C:Ctx} {k e t by_:Nat} {f:α->bg} {B:aD} {h0 h h':f8} {As:List HP} {q:aD} {s:Sl} {rs:List α} {ll:List β} {ti:TI} {z:bg}
def Fix(E:jn α β)(k:Nat)(f:α->bg)(h:f8)(q:aD)(s:Sl)(rs:List α)(a:List β):Prop:=Seq h q s k f rs/\rs.length=ii a/\∀(i:Nat) r l,rs[i]?=dB r->a[i]?=dB l->E.p h q r l
theorem Fix.aj(x:Fix E k f h q s rs ll)(a:be q h h'):Fix E k f h' q s rs ll:=⟨x.1.aj a,x.2.1,λi r l c b=>E.loc (x.2.2 i r l c b) a⟩
theorem Fix.mono{q':aD}(x:Fix E k f h q s rs ll)(a:∀b,q b->q' b):Fix E k f h q' s rs ll:=⟨x.1.mono a,x.2.1,λi r l d c=>E.mono (x.2.2 i r l d c) a⟩
abbrev oC(E:jn α β)(k:Nat)(f:α->bg)(h:f8)(s:Sl)(rs:List α)(a:List β):Prop:=Fix E k f h (λb=>b<h.size) s rs a
theorem oC.up(x:oC E k f h s rs ll)(a:be (λb=>b<h.size) h h'):oC E k f h' s rs ll:=(Fix.aj x a).mono λ_ c=>qW c a.1
theorem Fix.row(x:Fix E k f h q s rs ll){i:Nat}(a:i<ii ll):E.p h q (rs[i]'(by rw[x.2.1];exact a)) ll[i]:=x.2.2 i _ _ (qd _) (qd _)
theorem bO.fix(x:(bO E k f).p h q s ll):∃rs,Fix E k f h q s rs ll:=x
theorem Fix.elt(x:Fix E k f h q s rs ll):(bO E k f).p h q s ll:=⟨rs,x⟩
def cO(E:jn α β)(k:Nat)(f:α->bg)(s:Sl)(rs:List α)(a:List β):HP:=⟨λh q=>Fix E k f h q s rs a,λx c=>x.aj c,λx b=>x.mono b⟩
theorem aa.OT(H:aa B h0 h As)(i:Nat)(j:As[i]?=dB (cg e s k f E ll))(t:∀x,ii (f x)=k):∃rs,aa B h0 h (As.set i (cO E k f s rs ll)):=by
 have g:i<ii As:=(qn.1 j).1;have n:aa B h0 h (As.set i (HP.ex λrs=>cO E k f s rs ll)):=H.fZ i j λq ⟨rs,v,a,b,c,d,e⟩=>⟨rs,a.seq t λx p=>(b x p).1,d,λi r l u o=>E.mono (e i r l u o) c⟩
 obtain⟨rs,m⟩:=n.YD i (zl g);exact⟨rs,by rw[yq]at m;exact m⟩
theorem aa.eV(H:aa B h0 h As)(i:Nat)(a:As[i]?=dB (cO E k f s rs ll)):oC E k f h s rs ll:=H.at i a
theorem aa.Hb(d:C.Ok)(H:aa B h0 h As)(e:C.T.get t=dB ti){K:eX->f8->Prop}(f:∀a h',be (λb=>b<h.size) h h'->aa B h0 h' (As++[au a t ti.zero])->K a h'):
  aS C.P (qL t eL (.tuple #[])) h K:=
 BF d e λa h' x y c _=>f a h' (c.mono λ_ _ _=>trivial) (H.comp (OR x y c))
theorem aa.Sz(v:C.Ok)(H:aa B h0 h As)(f:α->bg)(E:bY C.toDi t e k z by_)(g:0<by_/\by_<=128)(j:α)(u:f j=z)(i:ii z=k){s D:IntKind}{n o:Int}(m c:Nat)(r:n=m)(A:o=c)(d:m<=c)(l:c<=2^32)
  {K:Sl->f8->Prop} (q:∀a h',a.len=m->be (λb=>b<h.size) h h'->aa B h0 h' (As++[ak e a k f (qh m j)])->K a h'):
  aB C.P (qF t (.int s n) (.int D o)) (.one (.sc .slc)) h K:=
 run_make v E g j u i m c r A d l λa h' x y w p _=>q a h' (by rw[x.len];simp) (p.mono λ_ _ _=>trivial) (H.comp (OQ i0 x y p))
end
section
variable {α:Type} {C:Ctx} {B:aD} {h0 h:f8} {As:List HP} {e t k:Nat} {s:Sl} {f:α->bg} {l:List α} {i:TI}
theorem Own.aed(F:C.Ok)(r:Own h e s k f l)(A:∀x,ii (f x)=k)(G:C.T.get t=dB i){x:Int}(n:Nat)(H:x=n)(u:n<ii l)(j:Nat)(vs:bg)(M:j+ii vs<=k){p:eS}(y:α)(B:p.cells=vs.toArray)(v:i.size=ii vs)
  (q:vs.all (·.oneCell')=eL) (L:f y=(f l[n]).take j++vs++(f l[n]).drop (j+ii vs)) {K:f8->Prop} (E:∀h',Own h' e s k f (l.set n y)->be (λb=>¬s.on b) h h'->K h'):
  ∃a:eX,(s.ptr=dB a/\0<=x/\x<((s.len:Nat):Int))/\ag C.P (qf t (.pointer (dB ((a.add (x.toNat*k)).add j))) p) h λ_ h'=>K h':=by
 subst H;rcases r.head with⟨_,_,h3⟩|⟨b,rest,h1,h2,h3,h4⟩
 ·subst h3;simp at u
 ·refine⟨_,⟨h1,i4,by rw[r.len];omega⟩,?_⟩;unfold qf;refine ag.bind (ag.pure' ?_);unfold storeVar;refine ag.bind (ag.always (ee F.toOk G) ?_);rw[B,v];simp only[yf,ne_eq,not_true,if_false];rw[add_eq,add_eq,wk,ql];have g:l=l.take n++l[n]::l.drop (n+1):=by rw[<-qP u,qE]
  have m:l.set n y=l.take n++y::l.drop (n+1):=yc.trans (f9 u);have o:ii ((l.take n).flatMap f)=n*k:=by rw[dL A,q8,w4 i4]
  have D:=A l[n];have d:f l[n]=(f l[n]).take j++((f l[n]).drop j).take vs.length++(f l[n]).drop (j+ii vs):=by rw[qp,<-zI,qE,qE]
  refine fC (e:=e) (pre:=(l.take n).flatMap f++(f l[n]).take j) (old:=((f l[n]).drop j).take vs.length) (post:=(f l[n]).drop (j+ii vs)++((l.drop (n+1)).flatMap f++rest)) ?_ ?_ ?_ ?_ ?_
  ·have:l.flatMap f++rest=(l.take n).flatMap f++(f l[n]).take j++((f l[n]).drop j).take vs.length++((f l[n]).drop (j+ii vs)++((l.drop (n+1)).flatMap f++rest)):=by
    have w:=congrArg (List.flatMap f) g;rw[zd,zk]at w;rw[w];generalize f l[n]=z at d;rw[qp]at d;simp only[qp];congr 1
    conv=>lhs;rw[d]
    simp only[qp]
   rw[<-this];exact h2
  ·simp;omega
  ·rw[qx,o,q8];omega
  ·intro c I;exact q9.1 q c I
  ·refine E _ ⟨by rw[zh];exact r.len,.inr ⟨b,rest,h1,?_,h3,h4⟩⟩ (be.kf h2 λJ=>J ⟨0,h1⟩);rw[iR h2,f9 i0,m,zd,zk,L];simp[qp]
theorem aa.aed(u:C.Ok)(H:aa B h0 h As)(g:Nat)(b:As[g]?=dB (ak e s k f l))(D:∀x,ii (f x)=k)(v:C.T.get t=dB i){x:Int}(n:Nat)(A:x=n)(r:n<ii l)(j:Nat)(vs:bg)(o:j+ii vs<=k){c:eS}(y:α)(p:c.cells=vs.toArray)(m:i.size=ii vs)
  (d:vs.all (·.oneCell')=eL) (E:f y=(f l[n]).take j++vs++(f l[n]).drop (j+ii vs)) {K:f8->Prop} (q:∀h',aa B h0 h' (As.set g (ak e s k f (l.set n y)))->K h'):
  ∃a:eX,(s.ptr=dB a/\0<=x/\x<((s.len:Nat):Int))/\ag C.P (qf t (.pointer (dB ((a.add (x.toNat*k)).add j))) c) h λ_ h'=>K h':=
 (H.own g b).aed u D v n A r j vs o y p m d E λh' z w=>q h' (H.nP g b w z)
end
def HP.all:List HP->HP
 |[]=>emp
 |A::L=>A.sep (HP.all L)
section
variable {B:aD} {h0 h h':f8} {As L:List HP} {A D E:HP}
theorem aa.pu:∀{L:List HP} {As:List HP},aa B h0 h (HP.all L::As)->aa B h0 h (L++As)
 |[],_,H=>H.rest
 |A::L,As,H=>by
  have f:aa B h0 h (HP.all L::A::As):=H.uc;have e:=aa.pu f;exact e.pick (λi=>if i=0 then L.length else if i<=ii L then i-1 else i) (λa b c=>by(try dsimp only at c);split at c<;>split at c<;>(try split at c)<;>(try split at c)<;>omega) λi X d=>by
   try dsimp only
   rw[zy]at d;cases i with
   |zero=>simp at d;subst d;rw[f9 i0,qj (qm _),zc];rfl
   |succ i=>
    rw[qw]at d;rw[g0 i4];by_cases g:i<ii L
    ·rw[qo g]at d;rw[f9 i4,qo i4];simpa using d
    ·rw[qj i4]at d;rw[g0 i4,qj i4];rw[show i+1-ii L=(i-ii L)+1 by omega,qw];exact d
theorem aa.closeAll:∀(L:List HP) {As:List HP},aa B h0 h (L++As)->aa B h0 h (HP.all L::As)
 |[],As,H=>((H.comp (.one (A:=emp) (be.refl _ _) trivial)).bA:aa B h0 h (emp::As))
 |A::L,As,H=>by
  have g:aa B h0 h (L++(A::As)):=H.pick (λi=>if i<ii L then i+1 else if i=ii L then 0 else i) (λa b c=>by(try dsimp only at c);split at c<;>split at c<;>(try split at c)<;>(try split at c)<;>omega) λi X d=>by
   try dsimp only
   by_cases e:i<ii L
   ·rw[qo e]at d;rw[f9 e,zy,qw,qo e];exact d
   ·rw[qj i4]at d;by_cases f:i=ii L
    ·subst f;rw[zc]at d;rw[g0 i4,f9 rfl];simpa using d
    ·rw[g0 e,g0 f,zy];obtain⟨j,rfl⟩:∃j,i=ii L+(j+1):=⟨i-ii L-1,i4⟩
     rw[zp,qw]at d;rw[show L.length+(j+1)=(ii L+j)+1 by omega,qw,qj i4,zp];exact d
  exact(aa.closeAll L g).mj
theorem aa.Lc{P:Prop}(H:aa B h0 h (A.and P::As)):aa B h0 h (A::As)/\P:=⟨H.aga 0 i0,H.fact 0 i0⟩
theorem aa.toLc{P:Prop}(H:aa B h0 h (A::As))(p:P):aa B h0 h (A.and P::As):=H.ajI 0 i0 p
end
def dK{α:Type}(e:TypeId)(s:Sl)(b:TypeId)(k:Nat)(f:α->bg)(a:List (List α)):HP:=
 HP.ex λrs:List Sl=>(HP.all (ak e s 1 bw rs::bF b k f rs a)).and (ii rs=ii a)
section
variable {α:Type} {C:Ctx} {B:aD} {h0 h h':f8} {As:List HP} {e e2 k t by_:Nat} {s:Sl} {f:α->bg} {ll:List (List α)}
theorem aa.Es(H:aa B h0 h (dK e s e2 k f ll::As)):∃rs:List Sl,ii rs=ii ll/\aa B h0 h ((ak e s 1 bw rs::bF e2 k f rs ll)++As):=by obtain⟨rs,H⟩:=H.tG;obtain⟨H,a⟩:=H.Lc;exact⟨rs,a,H.pu⟩
theorem aa.He{rs:List Sl}(a:ii rs=ii ll)(H:aa B h0 h ((ak e s 1 bw rs::bF e2 k f rs ll)++As)):aa B h0 h (dK e s e2 k f ll::As):=
 ((aa.closeAll _ H).toLc a).Ah (F:=λrs:List Sl=>(HP.all (ak e s 1 bw rs::bF e2 k f rs ll)).and (ii rs=ii ll)) rs
theorem aa.Cz(H:aa B h0 h As)(e a k:Nat)(f:α->bg):aa B h0 h (dK e ⟨eH,0,0⟩ a k f []::As):=
 aa.He (rs:=[]) i0 ((H.nil e 1 bw).bA)
theorem aa.Tf{Bs:List HP}(H:aa B h0 h (As++Bs)):aa B h0 h As:=H.pick id (λ_ _ h=>h) λi A a=>by
 rw[id,qo (qn.1 a).1];exact a
theorem aa.FH(H:aa B h0 h (dK e s e2 k f ll::As))(a:∀x,ii (f x)=k):fR h s k f ll:=by obtain⟨rs,b,H⟩:=H.Es;exact aa.Te (aa.Tf H) b a
theorem aa.Ai(H:aa B h0 h (dK e s e2 k f ll::As)):s.len=ii ll/\s.len<=s.cap:=by obtain⟨rs,a,H⟩:=H.Es;exact⟨by rw[(H.own 0 i0).len,a],(H.own 0 i0).cap⟩
theorem aa.Jr(i:C.Ok){r:Sl}{x:List α}(H:aa B h0 h (dK e s e2 k f ll::ak e2 r k f x::As))(m:bY C.toDi t e 1 [.slice eH 0 0] 24)(j:ii ll+1<=2^32){ty:Nat}{K:Sl->f8->Prop}
  (g:∀a h',aa B h0 h' (dK e a e2 k f (ll++[x])::As)->K a h'):
  aB C.P (qq t 1 #[(0,.slice r.ptr r.len r.cap)]) (.one (.sc .slc)) h λv l=>aB C.P (qt #[t,t] ty #[.slice s.ptr s.len s.cap,.slice v.ptr v.len v.cap]) (.one (.sc .slc)) l K:=by
 obtain⟨rs,c,H⟩:=H.Es;refine H.push i 0 i0 m i0 i5 (λ_=>rfl) kh r i0 i5 i4 λa h' b=>g a h' ?_;refine aa.He (rs:=rs++[r]) o4 ?_;rw[Ag c];have b:aa B h0 h' (ak e a 1 bw (rs++[r])::(bF e2 k f rs ll++ak e2 r k f x::As)):=b;have d:ak e a 1 bw (rs++[r])::(bF e2 k f rs ll++[ak e2 r k f x])++As=ak e a 1 bw (rs++[r])::(bF e2 k f rs ll++ak e2 r k f x::As):=i9
 rw[d];exact b
end
end Go.Vc
namespace Gf
theorem aee{p:UInt8->Prop}(h:∀n,n<256->p (yH n))(a:UInt8):p a:=by
 have:=h a.toNat (UInt8.toNat_lt a)
 rwa [UInt8.ofNat_toNat]at this
def x2(a:UInt8):UInt8:=(a<<<1)^^^(if a&&&0x80=0 then 0 else 0x1b)
def x3(a:UInt8):UInt8:=x2 a^^^a
def pw:Nat->UInt8
 |0=>1
 |n+1=>x3 (pw n)
theorem agW(a b c:UInt8):(a^^^b)&&&c=(a&&&c)^^^(b&&&c):=by apply UInt8.toBitVec_inj.1;simp[UInt8.toBitVec_xor,UInt8.toBitVec_and];ext i hi;simp[Bool.and_xor_distrib_right]
theorem agX(a b:UInt8):(a^^^b)<<<1=(a<<<1)^^^(b<<<1):=by apply UInt8.toBitVec_inj.1;simp[UInt8.toBitVec_xor,UInt8.toBitVec_shiftLeft,BitVec.shiftLeft_xor_distrib]
theorem Tg:∀a:UInt8,a&&&0x80=0∨a&&&0x80=0x80:=aee j4
theorem aef(a b c d:UInt8):(a^^^b)^^^(c^^^d)=(a^^^c)^^^(b^^^d):=by ac_rfl
theorem aij(a b:UInt8):x2 (a^^^b)=x2 a^^^x2 b:=by
 unfold x2;rw[agW,agX];rcases Tg a with ha|ha<;>rcases Tg b with hb|hb<;>rw[ha,hb]
 ·simp
 ·simp[UInt8.xor_assoc]
 ·rw[aef];simp
 ·rw[aef];simp
theorem aik(a b:UInt8):x3 (a^^^b)=x3 a^^^x3 b:=by unfold x3;rw[aij,aef]
def Aj:Nat->UInt8->UInt8
 |0,a=>a
 |n+1,a=>x3 (Aj n a)
theorem XH(a b:UInt8):∀n,Aj n (a^^^b)=Aj n a^^^Aj n b
 |0=>rfl
 |n+1=>by simp only[Aj,XH a b n,aik]
theorem OU(a:UInt8)(m:Nat):∀n,Aj (n+m) a=Aj n (Aj m a)
 |0=>by simp[Aj]
 |n+1=>by rw[Nat.add_right_comm];simp only[Aj,OU a m n]
theorem Th:∀n,Aj n 0=0
 |0=>rfl
 |n+1=>by rw[Aj,Th n];rfl
theorem Dl:∀n,pw n=Aj n 1
 |0=>rfl
 |n+1=>by rw[pw,Aj,Dl n]
def akf:Nat:=939374623831894136699086600277250597547650664638770418422125146541797353646788332867483593573384618611044815625336497665827114626705134492515730415652478061620339993830966980270842846318821775850471098591710629241171812800746666233448222972174585295916389942636813666312872914849454985560152530477328703759683306625234997237483834721220409437442253146756845415190424543171129629468776480674528486868811725071010351012234056630775688111116293610821126543142160426617079940511630006820862697466582575257349116925728488930366609138264019883664906661504235885380294353134295748489096855100647154935187045898006656778240
def lg(a:UInt8):Nat:=(akf>>>(8*a.toNat))%256
theorem Mx:∀a:UInt8,lg a<255:=aee j4
theorem YF:∀a:UInt8,a≠0->pw (lg a)=a:=aee j4
theorem YG:∀n,n<255->lg (pw n)=n:=j4
theorem ail:pw 255=1:=j4
theorem YH:∀n,n<255->pw n≠0:=j4
theorem aaP(n:Nat):pw (n+255)=pw n:=by rw[Dl,OU,<-Dl 255,ail,<-Dl]
theorem aaQ(n:Nat):pw (n%255)=pw n:=by
 have:∀k m,pw (m+255*k)=pw m:=by
  intro k
  induction k with
  |zero=>intro m;rfl
  |succ k ih=>intro m;rw[Nat.mul_succ,<-wX,aaP,ih]
 have h:=this (n/255) (n%255);rw[Nat.mod_add_div]at h;exact h.symm
def mul(a b:UInt8):UInt8:=if a=0∨b=0 then 0 else pw ((lg a+lg b)%255)
def inv(a:UInt8):UInt8:=if a=0 then 0 else pw ((255-lg a)%255)
theorem mul_zero(a:UInt8):mul a 0=0:=by simp[mul]
theorem zero_mul(a:UInt8):mul 0 a=0:=by simp[mul]
theorem mul_comm(a b:UInt8):mul a b=mul b a:=by
 unfold mul;rw[Nat.add_comm];by_cases h:a=0∨b=0
 ·rw[f9 h,f9 h.symm]
 ·rw[g0 h,g0 λx=>h x.symm]
theorem Ti(a b:UInt8)(d:a≠0):mul a b=Aj (lg a) b:=by
 by_cases c:b=0
 ·subst c;rw[mul_zero,Th]
 ·rw[mul,g0 (by simp[d,c]),aaQ,Dl,OU,<-Dl,YF b c]
theorem kE(a b c:UInt8):mul a (b^^^c)=mul a b^^^mul a c:=by
 by_cases d:a=0
 ·subst d;simp[zero_mul]
 ·rw[Ti _ _ d,Ti _ _ d,Ti _ _ d,XH]
theorem XI(a b c:UInt8):mul (a^^^b) c=mul a c^^^mul b c:=by rw[mul_comm,kE,mul_comm c a,mul_comm c b]
theorem aaR{a b:UInt8}(d:a≠0)(c:b≠0):mul a b≠0:=by rw[mul,g0 (by simp[d,c])];exact YH _ (vj _ i5)
theorem aaS{a b:UInt8}(d:a≠0)(c:b≠0):lg (mul a b)=(lg a+lg b)%255:=by rw[mul,g0 (by simp[d,c]),YG _ (vj _ i5)]
theorem mul_assoc(a b c:UInt8):mul (mul a b) c=mul a (mul b c):=by
 by_cases f:a=0
 ·subst f;simp[zero_mul]
 by_cases d:b=0
 ·subst d;simp[zero_mul,mul_zero]
 by_cases e:c=0
 ·subst e;simp[mul_zero]
 rw[mul,g0 (by simp[aaR f d,e]),aaS f d,mul,g0 (by simp[f,aaR d e]),aaS d e];congr 1;omega
theorem aim:lg 1=0:=j4
theorem one_mul(a:UInt8):mul 1 a=a:=by
 by_cases b:a=0
 ·subst b;rfl
 ·rw[mul,g0 l7,aim,wk,aaQ,YF a b]
theorem mul_one(a:UInt8):mul a 1=a:=by rw[mul_comm,one_mul]
theorem ain{a:UInt8}(b:a≠0):inv a≠0:=by rw[inv,g0 b];exact YH _ (vj _ i5)
theorem OV{a:UInt8}(b:a≠0):mul a (inv a)=1:=by
 have c:=Mx a;rw[mul,g0 (by simp[b,ain b]),inv,g0 b,YG _ (vj _ i5)];have:(lg a+(255-lg a)%255)%255=0:=i4
 rw[this];rfl
end Gf
namespace Wl
structure Pow where
 off:Bool
 fuse:Option Nat
 offs:Int
def Pow.new:Pow:=⟨eR,eH,0⟩
def Pow.step(w:Pow):Bool×Pow:=
 if w.off then(eR,w)else match w.fuse with
 |none=>(eL,w)
 |some 0=>(eR,⟨eL,dB 0,Go.IntKind.wrap .i64 (w.offs+1)⟩)
 |some (k+1)=>(eL,⟨eR,dB k,w.offs⟩)
structure bt where
 room:Nat
 l:cL
 wait:Nat
 laid:cL
 has:Bool
 lost:Bool
def bt.new(a:Nat):bt:=⟨a,[],0,[],eR,eR⟩
def bt.append(w:Pow)(d:bt)(b:bf):Int×Pow×bt:=
 if b.length≠64 then(1,w,d)
 else if d.lost then(5,w,d)
 else if d.room<=ii d.l then(7,w,d)
 else if w.off then(14,w,d)
 else if w.step.1 then(0,w.step.2,{d with l:=d.l++[b],wait:=d.wait+1,laid:=[],has:=eR})
 else(14,w.step.2,{d with l:=d.l++[b],wait:=d.wait+1})
def bt.sync(w:Pow)(d:bt):Int×Pow×bt:=
 if d.lost then(5,w,d)
 else if w.step.1 then(0,w.step.2,{d with wait:=0,laid:=[],has:=eR})
 else(14,w.step.2,d)
def bt.rewrite(w:Pow)(d:bt)(l:cL):Int×Pow×bt:=
 if !l.all (λb=>decide (ii b=64))then(1,w,d)
 else if d.lost then(5,w,d)
 else if d.room<ii l then(7,w,d)
 else if w.off then(14,w,d)
 else if w.step.1 then(0,w.step.2,{d with l:=l,wait:=0,laid:=[],has:=eR})
 else(14,w.step.2,{d with laid:=l,has:=eL})
def bt.Et(d:bt):bt:={d with lost:=eL,l:=[],wait:=0,laid:=[],has:=eR}
abbrev aJ:=List (Option bt)
def bh(ds:aJ)(slot:Int):Option bt:=if 0<=slot/\slot<64 then(ds[slot.toNat]?).join else eH
def bQ(ds:aJ)(slot:Int)(d:bt):aJ:=ds.set slot.toNat (dB d)
def isLive(ds:aJ)(slot:Int):Bool:=match bh ds slot with|some d=>!d.lost|none=>eR
def aT(ds:aJ)(bV:aC):aC:=bV.filter (isLive ds)
def fT(w:Pow)(ds:aJ)(slot:Int)(b:bf):Int×Pow×aJ:=
 match bh ds slot with
 |none=>(if b.length≠64 then 1 else 5,w,ds)
 |some d=>((d.append w b).1,(d.append w b).2.1,bQ ds slot (d.append w b).2.2)
def gQ(w:Pow)(ds:aJ)(slot:Int):Int×Pow×aJ:=
 match bh ds slot with
 |none=>(5,w,ds)
 |some d=>((d.sync w).1,(d.sync w).2.1,bQ ds slot (d.sync w).2.2)
def lM:List (Int×bf)->Pow->aJ->Int×Pow×aJ
 |[],w,ds=>(0,w,ds)
 |x::l,w,ds=>let r:=fT w ds x.1 x.2;if r.1=0 then lM l r.2.1 r.2.2 else r
def eW:aC->Pow->aJ->Int×Pow×aJ
 |[],w,ds=>(0,w,ds)
 |x::l,w,ds=>let r:=gQ w ds x;if r.1=0 then eW l r.2.1 r.2.2 else r
theorem wn(x:Int)(l:aC)(w:Pow)(ds:aJ):eW (x::l) w ds=if(gQ w ds x).1=0 then eW l (gQ w ds x).2.1 (gQ w ds x).2.2 else gQ w ds x:=rfl
theorem Ak(x:Int×bf)(l:List (Int×bf))(w:Pow)(ds:aJ):lM (x::l) w ds=if(fT w ds x.1 x.2).1=0 then lM l (fT w ds x.1 x.2).2.1 (fT w ds x.1 x.2).2.2 else fT w ds x.1 x.2:=rfl
def cM(l:aC):aC:=((qy 64).map λi:Nat=>(i:Int)).filter λi=>decide (i∈l)
def layAll(l:List (Int×bf))(w:Pow)(ds:aJ):Int×Pow×aJ:=
 let r:=lM l w ds
 if r.1=0 then eW (cM (l.map qH)) r.2.1 r.2.2 else r
end Wl
namespace Go.Vc
open Go
theorem Ld(l:aC):l.flatMap av=l.map (Value.int .i64):=by
 induction l with
 |nil=>rfl
 |cons a t ih=>rw[zk,ih];rfl
theorem Qk{w:World}{e:TypeId}{b:Nat}{rest:bg}{l:aC}(c:w.heap[b]?=dB (.cells (l.flatMap av++rest).toArray e (0,0))):Sort.Holds (Value.int .i64) w b 0 l.toArray:=by
 intro j d;have a:j<ii l:=by simpa using d
 refine⟨?_,by simp[World.frozen?,c]⟩;rw[Ld]at c;have:(l.map (Value.int .i64)++rest)[j]?=dB (xq xx l[j]):=by rw[qo j8,qT,qd a];rfl
 simp[World.cell?,c,this,a]
theorem Tj(l l':aC)(rest:bg)(c:ii l'=ii l):Sort.putCells (Value.int .i64) 0 l'.toArray (l.flatMap av++rest).toArray=(l'.flatMap av++rest).toArray:=by
 rw[Ld,Ld];apply yL;intro i;simp only[Sort.putCells,Array.getElem?_mapIdx,zV,yf,wk,Nat.zero_le,true_and];by_cases a:i<ii l
 ·rw[qo j8,qo i7];have b:i<ii l':=i4
  simp[a,b]
 ·rw[qj i7,qj i7];simp only[qz,c];cases h:rest[i-ii l]? with
  |none=>rfl
  |some x=>simp only[qZ];rw[g0 a]
theorem Tk{P:Program}{id:FuncId}(A:∀(fY off cap:Nat) (m:aC) (w:World),Sort.Holds (Value.int .i64) w fY off m.toArray->fY<w.heap.size->ii m<4611686018427387904->
   Calls P id #[.slice (dB ⟨fY,off,eH⟩) m.length cap] w λe j=>e=.returned (.tuple #[])/\∃n os,j=Sort.grow (Sort.putRow (Value.int .i64) (Sort.ahead w n) fY off (m.mergeSort λx y=>decide (x<=y)).toArray) os)
  (t:∀(p:aO) (cap:Nat) (w:World),Calls P id #[.slice p 0 cap] w λe j=>e=.returned (.tuple #[])/\j=w)
  {e:TypeId} {s:Sl} {l:aC} {h:f8} (r:Own h e s 1 av l) (z:ii l<2^40):
  ac P id #[.slice s.ptr s.len s.cap] h λv h'=>v=.tuple #[]/\Own h' e s 1 av (l.mergeSort λx y=>decide (x<=y))/\be (λb=>¬s.on b) h h':=by
 intro w f;have a:=r.len;rcases r.head with⟨h1,h2,h3⟩|⟨b,rest,h1,h2,h3,h4⟩
 ·subst h3;rw[a,h1];refine(t eH s.cap w).mono ?_;rintro D j ⟨rfl,rfl⟩;have u:(([]:aC).mergeSort λx y=>decide (x<=y))=[]:=i9
  exact⟨_,i0,dE.refl _,i0,by rw[u];exact⟨a,.inl ⟨h1,h2,i0⟩⟩,by rw[<-f];exact be.refl _ _⟩
 ·rw[h1,a];have o:w.heap[b]?=dB (.cells (l.flatMap av++rest).toArray e (0,0)):=by rw[f];exact h2
  refine(A b 0 s.cap l w (Qk o) (lt_of_block o) i4).mono ?_;rintro D j ⟨rfl,n,os,rfl⟩;have g:=lt_of_block o;have i:ii (l.mergeSort λx y=>decide (x<=y))=ii l:=wW l;have d:∀k,k<h.size->(Sort.grow (Sort.putRow (Value.int .i64) (Sort.ahead w n) b 0 (l.mergeSort λx y=>decide (x<=y)).toArray) os).heap[k]?=if b=k then dB (.cells ((l.mergeSort λx y=>decide (x<=y)).flatMap av++rest).toArray e (0,0))else h[k]?:=by
   intro k q;rw[Sort.heap_grow_old _ _ (by simpa[Sort.putRow,Sort.mapBlock,Sort.ahead,f]using q)];simp only[Sort.putRow,Sort.mapBlock,Sort.ahead,yk];by_cases c:b=k
   ·subst c;rw[f9 i0,f9 i0,o,qZ,Sort.onCells,Tj _ _ _ i]
   ·rw[g0 c,g0 c,f]
  rw[f]at g;refine⟨_,i0,⟨i0,i0,i0,by simp[Sort.grow,Sort.putRow,Sort.mapBlock,Sort.ahead]⟩,i0,⟨by rw[i];exact a,.inr ⟨b,rest,h1,?_,h3,h4⟩⟩,?_,?_⟩
  ·rw[d b g,f9 rfl]
  ·simp[Sort.grow,Sort.putRow,Sort.mapBlock,Sort.ahead,f]
  ·intro k q B;rw[d k q,g0 λc=>B ⟨0,by rw[h1,c]⟩]
end Go.Vc
namespace Wl
def bP(p:Int×Int×Int):Bool:=decide (p.1>=1)&&(decide (p.1<=16)&&(decide (p.2.1>=1)&&(decide (p.2.1<=4)&&(decide (p.2.2>=1)&&decide (p.2.2<=24)))))
theorem cu(p:Int×Int×Int):bP p=eL↔(1<=p.1/\p.1<=16)/\(1<=p.2.1/\p.2.1<=4)/\1<=p.2.2/\p.2.2<=24:=by simp[bP,and_assoc]
def bK(p:Int×Int×Int):Int:=if bP p then p.1+p.2.1 else 0
open Go
def FI(s:Int):Int:=qc xA (qc xA (s*(6364136223846793005:Int))+(1442695040888963407:Int))
def told(s:Int):Int:=qc xz (qX (FI s) (2^min (32:Int).toNat (qk xA)))
def mH(s n:Int):Int:=qc xx (wi (qc xA (told s)) (qc xA n))
theorem wrap_u64(x:Int):qc xA x=x%18446744073709551616:=rfl
theorem Al(s n:Int)(d:0<n:=by omega)(e:n<=2^62:=by omega):0<=mH s n/\mH s n<n:=by
 unfold mH;have a:qc xA n=n:=o7
 rw[a];have c:0<=qc xA (told s):=o7
 have e2:=vC (qc xA (told s)) d;have b:0<=wi (qc xA (told s)) n:=Int.tmod_nonneg n c;rw[Go.Vc.al _];exact⟨b,e2⟩
def lN(l:aC)(i:Nat):Int:=l.getD i 0
def tH(l:aC)(i j:Nat):aC:=(l.set i (lN l j)).set j (lN l i)
theorem Tl(l:aC)(i j:Nat):ii (tH l i j)=ii l:=by simp[tH]
def gM(n:Nat)(s:Int)(l:aC):Nat->Int×aC
 |0=>(s,l)
 |k+1=>(FI (gM n s l k).1,tH (gM n s l k).2 k (k+(mH (gM n s l k).1 ((n-k:Nat):Int)).toNat))
theorem Am(n:Nat)(s:Int)(l:aC):∀k,(gM n s l k).2.length=ii l
 |0=>rfl
 |k+1=>by rw[gM,Tl,Am n s l k]
theorem Le{l:aC}{i:Nat}(h:i<ii l):lN l i∈l:=by rw[lN,qe,qd h];exact qg h
theorem aeg{l:aC}{i j:Nat}(b:i<ii l)(a:j<ii l){x:Int}(c:x∈tH l i j):x∈l:=by
 rcases zS c with h|h
 ·rcases zS h with h|h
  ·exact h
  ·rw[h];exact Le a
 ·rw[h];exact Le b
def upto(n:Nat):aC:=(qy n).map λi:Nat=>(i:Int)
theorem hY(n:Nat):ii (upto n)=n:=by simp[upto]
theorem Lf(n:Nat)(s:Int):∀k,k<=n->∀x∈(gM n s (upto n) k).2,0<=x/\x<n
 |0,_,x,hx=>by
  simp only[gM,upto,qu,qJ]at hx;obtain⟨i,j,rfl⟩:=hx;omega
 |k+1,hk,x,hx=>by
  have e:k<n->n-k<=2^62->k+(mH (gM n s (upto n) k).1 ((n-k:Nat):Int)).toNat<n:=λm l=>by
   have:=Al (gM n s (upto n) k).1 ((n-k:Nat):Int);omega
  have d:=Am n s (upto n) k;rw[hY]at d;by_cases b:n-k<=2^62
  ·refine Lf n s k i4 x (aeg i4 ?_ hx);have:=e i4 b;omega
  ·--beyond any size:what is set is 0 or a member
   have c:∀y∈tH (gM n s (upto n) k).2 k (k+(mH (gM n s (upto n) k).1 ((n-k:Nat):Int)).toNat),y∈(gM n s (upto n) k).2∨y=0:=by
    intro y f;have g:∀i,lN (gM n s (upto n) k).2 i∈(gM n s (upto n) k).2∨lN (gM n s (upto n) k).2 i=0:=λi=>by
     by_cases h:i<(gM n s (upto n) k).2.length
     ·exact .inl (Le h)
     ·right;simp only[lN,qe];rw[qQ i4];rfl
    rcases zS f with h|h
    ·rcases zS h with h|h
     ·exact .inl h
     ·rw[h];exact g _
    ·rw[h];exact g _
   rcases c x hx with h|h
   ·exact Lf n s k i4 x h
   ·subst h;omega
def ia(l:aC):aC:=l.mergeSort λx y=>decide (x<=y)
theorem Hg(l:aC):ii (ia l)=ii l:=wW l
theorem BH(l:aC)(x:Int):x∈ia l↔x∈l:=List.mem_mergeSort
def Js(s:Int)(n k:Nat):aC:=ia ((gM n s (upto n) k).2.take k)
theorem aeh{s:Int}{n k:Nat}(b:k<=n){x:Int}(a:x∈Js s n k):0<=x/\x<n:=
 Lf n s k b x (zA ((BH _ _).1 a))
theorem aei(s:Int)(n k:Nat)(a:k<=n):ii (Js s n k)=k:=by rw[Js,Hg,q8,Am,hY];omega
def fH(l:Nat):Nat:=if l<=1 then l else if l<=4 then 2 else if l<=9 then 3 else if l<=16 then 4 else 5
def Jt(r:Nat):Nat:=if r=0 then 0 else if r=1 then 1 else if r<=3 then 2 else 3
def sT(l k:Nat):Nat:=
 (if k>1 then 1048576/(k*(k-1))else 1048576/l)+
  (if k<l/fH l then 1048576*fH l/(l*k)else if k=l/fH l then 1048576*fH l*Jt (fH l)/l else 0)
def nj(l:Nat):Nat->Nat
 |0=>0
 |k+1=>nj l k+sT l (k+1)
def ki(l:Nat):aC:=(qy l).map λk=>((nj l (k+1):Nat):Int)
theorem ms(l:Nat):ii (ki l)=l:=by simp[ki]
def YI(t:aC)(x:Int):Nat:=(t.findIdx λy=>decide (y>x))+1
theorem My:∀l,l<=20->∀k,k<=20->sT l k<=2^30:=j4
theorem Ju(l:Nat)(a:l<=20):∀k,k<=20->nj l k<=k*2^30
 |0,_=>by simp[nj]
 |k+1,hk=>by
  have:=Ju l a k i4;have:=My l a (k+1) hk;rw[nj];omega
theorem Tm:∀l,l<=20->1<=l->0<nj l l:=j4
theorem Mz(l:Nat)(h:1<=l):(ki l).getLast?=dB ((nj l l:Nat):Int):=by
 obtain⟨k,rfl⟩:∃k,l=k+1:=⟨l-1,i4⟩
 simp[ki,zQ]
def Hi(seed id:Int):Int:=qc xA (qc xz ((qD (qk xz) seed^^^(qD (qk xz) (qc xz ((qc xz id)*(2654435761:Int))))).toNat:Nat))
def Jv(s:Int)(n:Nat):Nat:=YI (ki n) (mH s (nj n n))
theorem An(s:Int)(n:Nat)(b:1<=n)(a:n<=20):Jv s n<=n:=by unfold Jv YI;have e:=Tm n a b;have c:=Ju n a n a;have d:=Al s (nj n n);have:=List.findIdx_lt_length_of_exists (p:=λy=>decide (y>mH s (nj n n))) (xs:=ki n) ⟨_,List.mem_of_getLast? (Mz n b),by simpa using d.2⟩;rw[ms]at this;omega
def bZ(id:Int):Bool:=decide (0<=id)&&decide (id<=65535)
def dz(n:Nat)(seed id:Int):aC:=Js (FI (FI (Hi seed id))) n (Jv (FI (Hi seed id)) n)
theorem nk{n:Nat}(c:1<=n)(b:n<=20){seed id x:Int}(a:x∈dz n seed id):0<=x/\x<n:=aeh (An _ n c b) a
theorem BI{n:Nat}(b:1<=n)(a:n<=20)(seed id:Int):ii (dz n seed id)<=n:=by rw[dz,aei _ _ _ (An _ n b a)];exact An _ n b a
def gw(n:Nat)(l:aC):bf:=l.foldl (λr i=>r.set i.toNat 1) (qh n 0)
theorem sU(n:Nat)(l:aC):ii (gw n l)=n:=by
 have:∀(l:aC) (r:bf),ii (l.foldl (λr i=>r.set i.toNat 1) r)=ii r:=by
  intro l
  induction l with
  |nil=>intro r;rfl
  |cons a t ih=>intro r;rw[zB,ih];simp
 rw[gw,this];simp
def pf(n:Nat)(seed id:Int):bf:=gw n (dz n seed id)
theorem Tn(n:Nat)(seed id:Int):ii (pf n seed id)=n:=sU _ _
def mu(K H h:Nat):bf:=(qy K).map (λj=>Gf.pw ((h+1)*(j+1)%255))++(qy H).map λi=>if i=h then 1 else 0
def bG(K H:Nat):cL:=(qy H).map (mu K H)
theorem Ao(K H h:Nat):ii (mu K H h)=K+H:=by simp[mu]
def dR(p:Int×Int×Int)(seed:Int)(a:aC):cL:=
 if bP p then bG p.1.toNat p.2.1.toNat++(a.filter bZ).map (pf (bK p).toNat seed)else[]
theorem ph{α:Type}{f:α->Bool}{l:List α}{k:Nat}(a:k<ii l):(l.take (k+1)).filter f=if f l[k]then(l.take k).filter f++[l[k]]else(l.take k).filter f:=by rw[zK a,zm];by_cases h:f l[k]=eL<;>simp[h]
abbrev Row:=bf
abbrev aP:=List Row
def scaleB(c:UInt8)(l:Row):Row:=l.map (Gf.mul c)
def cX(c:UInt8)(a to:Row):Row:=zi (λx y=>y^^^Gf.mul c x) a to
def aQ(r:Row)(bD:Nat):UInt8:=r.getD bD 0
def aE(m:aP)(i:Nat):Row:=m.getD i []
def jo(m:aP)(a bD:Nat):Option Nat:=(qy m.length).find? λi=>decide (a<=i)&&(aQ (aE m i) bD !=0)
def jD(m:aP)(i j:Nat):aP:=(m.set i (aE m j)).set j (aE m i)
def fj(a bD:Nat)(m:aP)(k:Nat):aP:=m.mapIdx λi r=>if i<k/\i≠a then cX (aQ r bD) (aE m a) r else r
def ku(a bD:Nat)(m:aP):aP:=m.set a (scaleB (Gf.inv (aQ (aE m a) bD)) (aE m a))
def jE(s:Nat×aP)(bD:Nat):Nat×aP:=
 match jo s.2 s.1 bD with
 |none=>s
 |some i=>(s.1+1,fj s.1 bD (ku s.1 bD (jD s.2 s.1 i)) s.2.length)
def bL(m:aP):Nat->Nat×aP
 |0=>(0,m)
 |c+1=>jE (bL m c) c
def eJ(m:aP):Nat:=ii (aE m 0)
def ce(m:aP):Nat:=(bL m (eJ m)).1
def bc(n:Nat)(m:aP):Prop:=∀r∈m,ii r=n
theorem pv(c:UInt8)(l:Row):ii (scaleB c l)=ii l:=by simp[scaleB]
theorem ca{c:UInt8}{a t:Row}(h:ii a=ii t:=by omega):ii (cX c a t)=ii t:=by simp[cX,h]
theorem bE{m:aP}{i:Nat}(h:i<ii m):aE m i=m[i]:=by rw[aE,qe,qd h];rfl
theorem cB{n:Nat}{m:aP}(h:bc n m){i:Nat}(a:i<ii m:=by omega):ii (aE m i)=n:=by rw[bE a];exact h _ (qg a)
theorem Lg{n:Nat}{m:aP}(h:bc n m){i:Nat}{r:Row}(b:ii r=n):bc n (m.set i r):=λx a=>by
 rcases zS a with h1|h1
 ·exact h x h1
 ·rw[h1];exact b
theorem YJ{P:Nat->Bool}{n:Nat}(h:∀j,j<n->P j=eR):(qy n).find? P=eH:=by rw[yn];intro x a;rw[qJ]at a;simp[h x a]
theorem YK{P:Nat->Bool}{n k:Nat}(e:k<n)(h:∀j,j<k->P j=eR)(d:P k=eL):(qy n).find? P=dB k:=by
 rw[List.find?_eq_some_iff_append];refine⟨d,qy k,List.range' (k+1) (n-k-1),?_,λa b=>?_⟩
 ·rw[yW,yW];have c:n=k+(n-k):=i4
  have e2:n-k=(n-k-1)+1:=i4
  conv=>lhs;rw[c,<-List.range'_append_1 (s:=0) (m:=k) (n:=n-k)]
  rw[wk]
  conv=>lhs;rw[e2,List.range'_succ]
 ·rw[qJ]at b;simp[h a b]
theorem tI{m:aP}{a bD i:Nat}(h:jo m a bD=dB i):a<=i/\i<ii m/\aQ (aE m i) bD≠0:=by have b:=List.find?_some h;have c:=List.mem_of_find?_eq_some h;simp at b c;exact⟨b.1,c,b.2⟩
theorem VV{m:aP}{a bD:Nat}(h:jo m a bD=eH):∀i,a<=i->i<ii m->aQ (aE m i) bD=0:=λi c b=>by
 have:=yn.1 h i (qJ.2 b);simpa[c]using this
theorem md(m:aP)(i j:Nat):ii (jD m i j)=ii m:=by simp[jD]
theorem Hj{n:Nat}{m:aP}(h:bc n m){i j:Nat}(b:i<ii m)(a:j<ii m):bc n (jD m i j):=Lg (Lg h (cB h a)) (cB h b)
theorem pi(t c:Nat)(m:aP):ii (ku t c m)=ii m:=by simp[ku]
theorem BJ{n:Nat}{m:aP}(h:bc n m){t c:Nat}(a:t<ii m):bc n (ku t c m):=Lg h (by rw[pv];exact cB h a)
theorem pj(t c:Nat)(m:aP)(k:Nat):ii (fj t c m k)=ii m:=by simp[fj]
theorem BL{n:Nat}{m:aP}(h:bc n m){t c k:Nat}(e:t<ii m):bc n (fj t c m k):=λx d=>by
 obtain⟨i,b,rfl⟩:=List.mem_mapIdx.1 d;have a:=h _ (qg b);split
 ·rw[ca (by rw[cB h e,a])];exact a
 ·exact a
theorem aaT(t c:Nat)(m:aP):fj t c m 0=m:=by apply zG;intro i;simp[fj,vl]
theorem sV{t c k:Nat}{m:aP}{i:Nat}(a:i<ii m):aE (fj t c m k) i=if i<k/\i≠t then cX (aQ (aE m i) c) (aE m t) (aE m i)else aE m i:=by rw[bE (by rw[pj];exact a),bE a];simp[fj]
theorem aaU{t c k:Nat}{m:aP}(b:k<ii m)(d:k≠t):fj t c m (k+1)=(fj t c m k).set k (cX (aQ (aE m k) c) (aE m t) (aE m k)):=by
 apply zG;intro i;simp only[fj,q7,vl,List.length_mapIdx];by_cases a:k=i
 ·subst a;simp only[if_true,b,qd b,qZ];rw[f9 ⟨i4,d⟩,bE b]
 ·rw[g0 a];congr 1;funext r;by_cases h:i<k/\i≠t
  ·rw[f9 h,f9 ⟨i4,h.2⟩]
  ·rw[g0 h,g0 λe=>h ⟨i4,e.2⟩]
theorem aaV{t c:Nat}{m:aP}:fj t c m (t+1)=fj t c m t:=by
 apply zG;intro i;simp only[fj,vl];congr 1;funext r;by_cases h:i<t/\i≠t
 ·rw[f9 h,f9 ⟨i4,h.2⟩]
 ·rw[g0 h,g0 λa=>h ⟨i4,a.2⟩]
theorem aaW{n:Nat}{s:Nat×aP}(h:bc n s.2)(bD:Nat):bc n (jE s bD).2/\(jE s bD).2.length=ii s.2:=by
 unfold jE;cases hb:jo s.2 s.1 bD with
 |none=>exact⟨h,i0⟩
 |some i=>
  have a:=tI hb;dsimp only;refine⟨BL (BJ (Hj h i4 a.2.1) (by rw[md];omega)) (by rw[pi,md];omega),by rw[pj,pi,md]⟩
theorem hO{n:Nat}{m:aP}(h:bc n m):∀c,bc n (bL m c).2/\(bL m c).2.length=ii m
 |0=>⟨h,i0⟩
 |c+1=>by
  have:=hO h c;have a:=aaW this.1 c;rw[bL];exact⟨a.1,by rw[a.2,this.2]⟩
theorem aej{s:Nat×aP}(h:s.1<=ii s.2)(bD:Nat):(jE s bD).1<=(jE s bD).2.length:=by
 unfold jE;cases hb:jo s.2 s.1 bD with
 |none=>exact h
 |some i=>
  have a:=tI hb;dsimp only;rw[pj,pi,md];omega
theorem Eu(m:aP):∀c,(bL m c).1<=(bL m c).2.length
 |0=>by simp[bL]
 |c+1=>aej (Eu m c) c
end Wl
namespace Go.Vc
open Go
section
variable {C:Ctx} {t t2 ty e k:Nat} {z:bg} {by_:Nat} {α:Type} {h h0:f8} {p B:aD} {s v:Sl} {f:α->bg} {l l2:List α} {As:List HP}
theorem Own.To(O:C.Ok)(R:bY C.toDi t e k z by_)(F:∀x,ii (f x)=k)(o:Own h e s k f l)(N:Seq h p v k f l2)(B:∀x,∀c∈f x,c.oneCell'=eL)(j:Nat)(S:j<=ii l){q:aO}{H U:Nat}(g:q=if s.cap=j then s.ptr else s.ptr.map (·.add (j*k)))(u:H=s.len-j){K:Int->f8->Prop}
  (D:∀n h',Own h' e s k f (l.take j++(l2.take (ii l-j)++l.drop (j+ii l2)))->be (λb=>¬s.on b) h h'->K n h'):
  aB C.P (yp #[t,t2] ty #[.slice q H U,.slice v.ptr v.len v.cap]) (.one (.sc (.int .i64))) h K:=by
 unfold aB yp;simp only[zV,yy,qw];refine ag.bind (ag.always (aW (R.under O)) ?_);refine ag.bind (ag.pure' ?_);refine ag.bind (ag.always (R.size O) ?_);have i:=o.len;have r:=N.len;have Q:=o.cap;obtain⟨m,E⟩:∃m,m=Nat.min v.len H:=⟨_,rfl⟩
 rw[<-E];have M:m<=ii l2:=by rw[E,<-r];exact Nat.min_le_left _ _
 have A:m<=ii l-j:=by rw[E,<-i,u];exact Nat.min_le_right _ _
 have X:m=min l2.length (ii l-j):=by rw[E,u,i,r]
 have G:=N.take m M;have W:l2.take (ii l-j)++l.drop (j+ii l2)=l2.take m++l.drop (j+m):=by
  rcases Nat.le_total l2.length (ii l-j)with hh|hh
  ·rw[qi hh,show m=ii l2 by omega,qY]
  ·rw[show m=ii l-j by omega,zg (show l.length<=j+ii l2 by omega),zg i4]
 rw[W]at D;have L:wH k m (.slice v.ptr v.len v.cap)=wH k m (.slice v.ptr m v.cap):=by cases v.ptr<;>rfl
 rw[L];refine ag.bind (gP (v:=⟨v.ptr,m,v.cap⟩) F G ?_);have d:m=0->l.take j++(l2.take m++l.drop (j+m))=l:=λe=>by rw[e];simp
 rcases o.head with⟨h1,h2,h3⟩|⟨b,rest,h1,h2,h3,h4⟩
 ·have a:q=eH:=by rw[g,h1];split<;>rfl
  rw[a];subst h3;have:m=0:=by simp at A;exact A
  refine ag.pure' ⟨_,i0,D _ h ?_ (be.refl _ _)⟩;rw[d this];exact o
 ·by_cases y:s.cap=j
  ·have a:q=dB ⟨b,0,eH⟩:=by rw[g,f9 y,h1]
   rw[a];have w:m=0:=i4
   refine ag.bind ?_;rw[w];simp only[vJ,List.flatMap_nil];exact ag.pure' (ag.pure' ⟨_,i0,D _ h (by rw[d w];exact o) (be.refl _ _)⟩)
  ·have a:q=dB ⟨b,0+j*k,eH⟩:=by rw[g,g0 y,h1];simp only[qZ];rw[add_eq]
   rw[a];refine ag.bind ?_;have I:l.flatMap f++rest=(l.take j).flatMap f++((l.drop j).take m).flatMap f++((l.drop (j+m)).flatMap f++rest):=by rw[<-qp,<-zd,<-zd,<-zI,qp (List.take j l),qE,qE]
   rw[I]at h2;refine fC (e:=e) (pre:=(l.take j).flatMap f) (old:=((l.drop j).take m).flatMap f) (post:=(l.drop (j+m)).flatMap f++rest) h2 (by rw[dL F,dL F,q8,q8,ze];congr 1;omega) (by rw[dL F,q8];rw[w4 S];omega) ?_ ?_
   ·intro c V;obtain⟨x,_,J⟩:=zP.1 V;exact B x c J
   ·refine ag.pure' ⟨_,i0,D _ _ ⟨by rw[i,qx,qx,q8,q8,ze];omega,.inr ⟨b,rest,h1,?_,h3,h4⟩⟩ (be.kf h2 λT=>T ⟨0,h1⟩)⟩;rw[iR h2,f9 i0,zd,zd];simp[qp]
theorem aa.To(w:C.Ok)(H:aa B h0 h As)(i:Nat)(o:As[i]?=dB (ak e s k f l))(E:bY C.toDi t e k z by_)(D:∀x,ii (f x)=k)(r:Seq h p v k f l2)(a:∀x,∀c∈f x,c.oneCell'=eL)(j:Nat)(q:j<=ii l){g:aO}{m A:Nat}(d:g=if s.cap=j then s.ptr else s.ptr.map (·.add (j*k)))(b:m=s.len-j){K:Int->f8->Prop}
  (u:∀n h',aa B h0 h' (As.set i (ak e s k f (l.take j++(l2.take (ii l-j)++l.drop (j+ii l2)))))->K n h'):
  aB C.P (yp #[t,t2] ty #[.slice g m A,.slice v.ptr v.len v.cap]) (.one (.sc (.int .i64))) h K:=
 (H.own i o).To w E D r a j q d b λn h' x y=>u n h' (H.nP i o y x)
end
end Go.Vc
namespace Wl
open Go
def b8(n:Int):UInt8:=yH (n%256).toNat
theorem ey(n:Int):qc xy n=((b8 n).toNat:Int):=by
 have h0:=w5 n (show(256:Int)≠0 by decide);have a:=wm n (show(0:Int)<256 by decide);have e:((b8 n).toNat:Int)=n%256:=by unfold b8;rw[UInt8.toNat_ofNat'];omega
 rw[e];unfold qc;simp[qk,y7]
abbrev jO:=BitVec 32
def kj(s:jO):jO:=if s&&&1#32=1#32 then(s>>>1)^^^3988292384#32 else s>>>1
def ez:Nat->jO->jO
 |0,s=>s
 |n+1,s=>kj (ez n s)
def mP(s:jO)(x:UInt8):jO:=ez 8 (s^^^BitVec.ofNat 32 x.toNat)
def lG(l:bf):jO:=l.foldl mP 4294967295#32
def mI(l:bf):jO:=4294967295#32^^^lG l
theorem YL(l:bf)(x:UInt8):lG (l++[x])=mP (lG l) x:=by unfold lG;rw[zN];rfl
theorem Tp(s:jO):qc xz ((s.toNat:Nat):Int)=(s.toNat:Int):=by have:=s.isLt;unfold qc;simp[qk,y7];omega
theorem YM(a b:jO):qc xz ((qD (qk xz) (a.toNat:Int)^^^qD (qk xz) (b.toNat:Int)).toNat:Nat)=((a^^^b).toNat:Int):=by show qc xz (((qD 32 (a.toNat:Int)^^^qD 32 (b.toNat:Int):BitVec 32).toNat:Nat):Int)=_;rw[w8,w8,vD,vD,vE,vE,Tp]
theorem ajJ(a b:jO):qc xz ((qD (qk xz) (a.toNat:Int)&&&qD (qk xz) (b.toNat:Int)).toNat:Nat)=((a&&&b).toNat:Int):=by show qc xz (((qD 32 (a.toNat:Int)&&&qD 32 (b.toNat:Int):BitVec 32).toNat:Nat):Int)=_;rw[w8,w8,vD,vD,vE,vE,Tp]
theorem Ql(n:Int):qc xz n=((qD 32 n).toNat:Int):=by unfold qc;simp[qk,y7,BitVec.toNat_ofInt];omega
theorem agY(s:jO):qX (s.toNat:Int) (2^min (1:Int).toNat (qk xz))=((s>>>1).toNat:Int):=by rw[show min (1:Int).toNat (qk xz)=1 from i0,yN _ i5,BitVec.toNat_ushiftRight,Nat.shiftRight_eq_div_pow];simp
theorem XJ(s:jO):((s&&&1#32).toNat:Int)=1↔s&&&1#32=1#32:=by
 constructor
 ·intro h;apply BitVec.eq_of_toNat_eq;have:(1#32:jO).toNat=1:=rfl;omega
 ·intro h;rw[h];rfl
def lO(s:jO):bf:=(qy 4).map λi=>b8 (qX (s.toNat:Int) (2^(8*i)))
theorem Ev(s:jO):ii (lO s)=4:=by simp[lO]
def dT(kind:Int)(a:bf):bf:=[87,115,1,b8 kind]++a++qh (55-ii a) 0
def dX(kind:Int)(a:bf):bf:=
 if 1<=kind/\kind<=255/\a.length<=55 then dT kind a++lO (mI (dT kind a))++[165]else[]
theorem Ap{kind:Int}{a:bf}(h:ii a<=55):ii (dT kind a)=59:=by simp[dT];omega
theorem mQ{kind:Int}{a:bf}(c:1<=kind)(b:kind<=255)(h3:ii a<=55):ii (dX kind a)=64:=by unfold dX;rw[f9 ⟨c,b,h3⟩];simp[Ap h3,Ev]
end Wl
namespace Go.Vc
open Go
def jv(s:ByteArray):bf:=s.data.toList
theorem Ew(s:ByteArray):ii (jv s)=s.size:=rfl
def akg(n:Nat):Obj->Obj
 | .cells c elem (lo,hi)=>.cells c elem (if lo==hi then(n,n+1)else(min lo n,max hi (n+1)))
 |o=>o
theorem ag.aaX{P:Program}{h:f8}{b n:Nat}{c:Array eS}{e:TypeId}{K:Unit->f8->Prop}(j:h[b]?=dB (.cells c e (0,0)))(k:n=c.size)(g:∀h',(∀x,x≠b->h'[x]?=h[x]?)->h'.size=h.size->(∃f,h'[b]?=dB (.cells c e f))->K () h'):
  ag P (freeze {block:=b,off:=n} 1) h K:=λw i=>by
 refine⟨(),w.freeze {block:=b,off:=n} 1,run_freeze P w _ _,⟨i0,i0,i0,qm _⟩,?_⟩;subst i;have a:(w.freeze {block:=b,off:=n} 1).heap=w.heap.modify b (akg n):=rfl;refine g _ (λx d=>?_) ?_ ?_
 ·rw[a,yk,g0 λe=>d e.symm]
 ·rw[a];simp
 ·rw[a,yk,f9 i0,j];exact⟨_,i0⟩
section
variable {C:Ctx} {B:aD} {h h0:f8} {As:List HP} {t e ts:Nat}
theorem agZ(k:C.Ok)(B:∃i,C.T.get ts=dB i/\i.cZ=.str)(G:∃i,C.T.get t=dB i/\i.cZ=.slice e)(D:∃i,C.T.get e=dB i/\i.cZ=.int .u8)(s:ByteArray){K:Sl->f8->Prop}(q:∀r h',Sp h h' [uC r 1 aF (jv s)]->K r h'):
  aB C.P (convert ts t (.string s)) (.one (.sc .slc)) h K:=by
 obtain⟨L,A,F⟩:=B;obtain⟨I,v,u⟩:=G;obtain⟨i3,a3,p⟩:=D;have H:C.P.underlying ts=dB .string:=by have:=k.cZ A;rw[F]at this;exact xU this
 have E:C.P.underlying t=dB (.slice e):=by have:=k.cZ v;rw[u]at this;exact jN this
 have u3:C.P.underlying e=dB (.int .u8):=by have:=k.cZ a3;rw[p]at this;exact Jm this
 unfold aB convert;refine ag.bind (ag.always (aW H) ?_);refine ag.bind (ag.always (aW E) ?_);refine ag.bind (ag.always (aW u3) ?_);unfold Conv.stringToBytes;refine ag.bind (ag.OK ⟨λo=>(by cases o),λ_ y=>?_⟩);generalize g:Question.cut (Question.appendCap s.size 0 e) y=cc;have l:s.size<=cc:=by rw[<-g];simp only[Question.cut];omega
 unfold newRow;refine ag.bind (ag.bind (ag.sN (ag.pure' ?_)));unfold markStringish;obtain⟨cs,a⟩:∃cs:Array eS,cs=s.data.map (λb=>Value.int .u8 b.toNat)++Array.replicate (cc-s.size) (Value.int .u8 0):=⟨_,rfl⟩
 rw[<-a];refine ag.bind (ag.bind (ag.aia ?_));have j:shapeOf (h.push (.cells cs e)) h.size=dB (e,cs.size):=by unfold shapeOf;simp
 dsimp only;rw[j];refine ag.aaX (c:=cs) (e:=e) i9 i0 λh' w n d=>?_;refine ag.pure' ⟨⟨dB ⟨h.size,0,eH⟩,s.size,cc⟩,i0,q _ _ ?_⟩;obtain⟨f,d⟩:=d;refine .one ⟨p6,λb J _=>by rw[w b i4,Array.getElem?_push,g0 i4]⟩ ?_;refine⟨by rw[Ew],λi x m=>⟨h.size,0,i0,⟨qm _,p6⟩,?_,trivial⟩⟩;rw[add_zero];have z:i<s.data.size:=by have:=(qn.1 m).1;simpa[jv]using this
 unfold f7;simp only[d,Nat.mul_one,wk,Option.isSome_none,zj,if_false];rw[a,Array.getElem?_append_left (by simpa using z),Array.getElem?_map];have:s.data[i]?=dB x:=by rw[<-m];simp[jv]
 rw[this];rfl
end
section
variable {C:Ctx} {t t2 e k:Nat} {z:bg} {by_:Nat} {h h0:f8} {B:aD} {As:List HP} {s:Sl} {l:bf}
theorem Rz(v:C.Ok)(L:bY C.toDi t e 1 z by_)(U:∃i,C.T.get t2=dB i/\i.cZ=.str)(Y:ii z=1)(H:0<by_/\by_<=128)
  (r:Own h e s 1 aF l) (x:ByteArray) (ab:ii l+x.size<=2^32) {ty:Nat} {K:Sl->f8->Prop}
  (B:∀G h',Own h' e G 1 aF (l++jv x)->be (λb=>¬s.on b) h h'->(∀b,G.on b->s.on b∨h.size<=b)->K G h'):
  aB C.P (qt #[t,t2] ty #[.slice s.ptr s.len s.cap,.string x]) (.one (.sc .slc)) h K:=by
 obtain⟨i2,g1,O⟩:=U;have J:C.P.underlying t2=dB .string:=by have:=v.cZ g1;rw[O]at this;exact xU this
 obtain⟨A,u,x2,x3,V,x4,Z⟩:=L.info v;have q:∀y∈(jv x).flatMap aF,y.oneCell'=eL:=λy hy=>by
  obtain⟨b,_,X⟩:=zP.1 hy;exact iM b y X
 have g:((x.extract 0 x.size).data.map λb=>Value.int .u8 (b.toNat:Int))=((jv x).flatMap aF).toArray:=by
  have e0:x.extract 0 x.size=x:=by apply ByteArray.ext;simp[ByteArray.data_extract]
  rw[e0];apply yD;simp only[vR,jv];exact List.map_eq_flatMap
 unfold aB qt;simp only[zV,yy,qw];refine ag.bind (ag.always (aW (L.under v)) ?_);refine ag.bind (ag.always (L.size v) ?_);refine ag.bind (ag.always (aW J) ?_);refine ag.bind (ag.pure' ?_);simp only[zj,if_false,ye,if_true];refine ag.bind (ag.pure' ?_);have m:=r.len;have w:∀y,ii (aF y)=1:=λ_=>rfl;have j:=dL w l;have a:=dL w (jv x);have R:=Ew x;have p:∀{h:f8} {K:Array eS->f8->Prop},K ((jv x).flatMap aF).toArray h->ag C.P (wH 1 x.size (.string x)) h K:=λ{h K} hK=>by
  unfold wH;dsimp only;rw[g];exact ag.pure' hK
 by_cases f:s.len+x.size<=s.cap
 ·rw[f9 f];refine ag.bind (p ?_);rcases r.head with⟨p1,p2,p3⟩|⟨b,rest,p1,p2,p3,p4⟩
  ·rw[p1];have F:jv x=[]:=za i4;refine ag.pure' ⟨⟨eH,s.len+x.size,s.cap⟩,i0,B _ _ ⟨?_,.inl ⟨i0,p2,by simp[p3,F]⟩⟩ (be.refl _ _) ?_⟩
   ·simp;omega
   ·rintro M ⟨o,d⟩;cases d
  ·rw[p1];refine ag.bind ?_;rw[add_eq,wk];have D:ii ((jv x).flatMap aF)<=ii rest:=by rw[a,p3];omega
   refine fC (e:=e) (pre:=l.flatMap aF) (old:=rest.take ((jv x).flatMap aF).length) (post:=rest.drop ((jv x).flatMap aF).length) ?_ ?_ ?_ ?_ ?_
   ·rw[qp,qE];exact p2
   ·rw[q8];exact w4 D
   ·rw[j,m];omega
   ·intro c hc;exact q c (by simpa using hc)
   ·refine ag.pure' ⟨⟨dB ⟨b,0,eH⟩,s.len+x.size,s.cap⟩,i0,B _ _ ⟨?_,.inr ⟨b,rest.drop ((jv x).flatMap aF).length,i0,?_,?_,f⟩⟩ ?_ ?_⟩
    ·simp;omega
    ·rw[iR p2,f9 rfl];simp
    ·rw[ze,p3,a];show(s.cap-s.len)*1-ii (jv x)*1=(s.cap-(s.len+x.size))*1;omega
    ·exact be.kf p2 (λS=>S ⟨0,p1⟩)
    ·rintro M ⟨o,d⟩;cases d;exact .inl ⟨0,p1⟩
 ·rw[g0 f];have n:Seq h (λ_=>True) s 1 aF l:=r.seq w λ_ _=>trivial;have N:=r.cap;refine ag.bind (ag.always (dw u) ?_);rw[g0 λhh=>by rcases hh.2 with h|h<;>first|exact h|(rw[x3]at h;omega)];refine ag.bind (ag.always (dw u) ?_);have ad:=XE (s.len+x.size) s.cap;rw[g0 (by
   have:vk (s.len+x.size) s.cap*A.bytes<=(16*2^32+16*768)*128:=wq i4 (by rw[x3];exact H.2);omega)]
  refine ag.bind (ag.OK ⟨λQ=>(by cases Q),λ_ W=>?_⟩);refine ag.bind (ag.always (dw u) ?_);refine ag.bind (ag.KU ?_);refine ag.bind (gP w n ?_);refine ag.bind (p ?_);have I:aN C.P (zeroValue e) V:=(dw u).bind (by rw[x4];exact .pure);refine ag.bind (ag.always I ?_);rw[Z,GU];unfold newRow;refine ag.bind (ag.bind (ag.sN (ag.pure' (ag.pure' ?_))));generalize E:Question.cut (Question.appendCap (s.len+x.size) s.cap e) W=cc;have k:s.len+x.size<=cc:=by rw[<-E];simp only[Question.cut];omega
  refine⟨⟨dB ⟨h.size,0,eH⟩,s.len+x.size,cc⟩,i0,B _ _ ⟨?_,.inr ⟨h.size,jd z (cc-(s.len+x.size)),i0,?_,?_,k⟩⟩ (be.push _ _ _) ?_⟩
  ·simp;omega
  ·simp
  ·rw[pd,Y]
  ·rintro M ⟨o,d⟩;cases d;exact .inr (qm _)
theorem aa.aaY(y:C.Ok)(H:aa B h0 h As)(i:Nat)(A:As[i]?=dB (ak e s 1 aF l))(E:bY C.toDi t e 1 z by_)(r:∃i,C.T.get t2=dB i/\i.cZ=.str)(w:ii z=1)(j:0<by_/\by_<=128)
  (x:ByteArray) (n:ii l+x.size<=2^32) {ty:Nat} {K:Sl->f8->Prop} (p:∀f h',aa B h0 h' (As.set i (ak e f 1 aF (l++jv x)))->K f h'):
  aB C.P (qt #[t,t2] ty #[.slice s.ptr s.len s.cap,.string x]) (.one (.sc .slc)) h K:=by
 obtain⟨F,u,c,v,a⟩:=H;have g:=a i _ A;refine Rz y E r w j g.1 x n λf h' d m o=>p f h' ?_;refine aa.Er F u v a (m.mono λb k q D=>q (g.2 b D)) ⟨d,λb k=>⟨d.lt k,?_⟩⟩;rcases o b k with h1|h1
 ·exact .inl (g.2 b h1)
 ·exact .inr h1
end
end Go.Vc
namespace Wl
open Go
structure cv where
 name:ByteArray
 object:Int
 length:Int
 tries:aC
structure aG where
 seq:Int
 next:Int
 p:Int×Int×Int
 extra:Int
 drives:aC
 aH:List cv
def ajK:cv:=⟨⟨#[]⟩,0,0,[]⟩
def rf(l:List cv)(i:Nat):cv:=l.getD i ajK
theorem pk{l:List cv}{i:Nat}(h:i<ii l:=by omega):rf l i=l[i]:=by unfold rf;rw[qe,qd h];rfl
def fq(n a b:Int):Bool:=decide (a<=n)&&decide (n<=b)
def nl(c:UInt8):Bool:=(decide (97<=c.toNat)&&decide (c.toNat<=122))||(decide (48<=c.toNat)&&decide (c.toNat<=57))||decide (c.toNat=45)
def mY(s:ByteArray):Bool:=s.data.toList.all nl&&(decide (1<=s.size)&&decide (s.size<=12))
def ft(a b:ByteArray):Bool:=Op.bytesLess a.toList b.toList
def kl(l:aC)(most:Int)(i:Nat):Bool:=fq (l.getD i 0) 0 most&&(decide (i=0)||decide (l.getD (i-1) 0<l.getD i 0))
def rg(l:aC)(most:Int):Bool:=(qy l.length).all (kl l most)
def countP(p:Int×Int×Int)(n:Int):Int:=if bP p&&decide (0<n)then(n-1)/(p.1*p.2.2)+1 else 0
def ib(m:aG)(x:cv):Bool:=
 mY x.name&&(fq x.object 0 (m.next-1)&&(fq x.length 0 (m.p.1*m.p.2.2*8)&&(x.tries.all (fq · 0 15)&&decide ((x.tries.length:Int)=countP m.p x.length))))
def rh(m:aG)(i:Nat):Bool:=
 ib m (rf m.aH i)&&((decide (i=0)||ft (rf m.aH (i-1)).name (rf m.aH i).name)&&!(m.aH.take i).any λy=>decide (y.object=(rf m.aH i).object))
def lH(m:aG):Bool:=fq m.seq 1 2147483647&&(fq m.next 0 16777216&&(bP m.p&&fq m.extra 0 16))
def bS(m:aG):Bool:=lH m&&(rg m.drives 63&&(decide (ii m.aH<=12)&&(qy m.aH.length).all (rh m)))
theorem Hk{p:Nat->Bool}{n i:Nat}(a:i<n)(h:p i=eR):(qy n).all p=eR:=List.all_eq_false.2 ⟨i,qJ.2 a,by rw[h];simp⟩
theorem uE{p:Nat->Bool}{n:Nat}(h:∀i,i<n->p i=eL):(qy n).all p=eL:=q9.2 λi a=>h i (qJ.1 a)
def ci(n:Int)(k:Nat):bf:=(qy k).map λi=>b8 (qX n (2^(8*(k-1-i))))
theorem cI(n:Int)(k:Nat):ii (ci n k)=k:=by simp[ci]
def jF(x:cv):bf:=b8 x.name.size::(x.name.data.toList++(ci x.object 3++(ci x.length 2++x.tries.map b8)))
def gW(m:aG):bf:=
 if bS m then ci m.seq 4++(ci m.next 4++([b8 m.p.1,b8 m.p.2.1,b8 m.p.2.2,b8 m.extra,b8 m.drives.length]++(m.drives.map b8++(b8 m.aH.length::m.aH.flatMap jF))))else[]
def kF(seq a c:Int)(b:bf):bf:=dX 2 (ci seq 4++([b8 a,b8 c,b8 b.length]++b))
def iI(b:bf):Nat:=(ii b+47)/48
def bu(m:aG):cL:=(qy (iI (gW m))).map λi:Nat=>kF m.seq i (iI (gW m)) (((gW m).drop (48*i)).take 48)
theorem aaZ{m:aG}(h:bS m=eL):lH m=eL:=by unfold bS at h;simp at h;exact h.1
theorem Tq{m:aG}(h:lH m=eL):(1<=m.seq/\m.seq<=2147483647)/\(0<=m.next/\m.next<=16777216)/\bP m.p=eL/\0<=m.extra/\m.extra<=16:=by unfold lH fq at h;simpa[and_assoc]using h
theorem ww{m:aG}{c:bf}(h:c∈bu m):ii c=64:=by unfold bu at h;obtain⟨i,_,rfl⟩:=qu.1 h;exact mQ i5 i5 m0
structure dm where
 object:Int
 block:Int
 id:Int
 p:Int×Int×Int
 seed:Int
 data:bf
theorem ri(n:Int):((b8 n).toNat:Int)=n%256:=by have h0:=w5 n (show(256:Int)≠0 by decide);have a:=wm n (show(0:Int)<256 by decide);unfold b8;rw[UInt8.toNat_ofNat'];omega
def jw(r:dm):Bool:=(fq r.object 0 16777215&&(fq r.block 0 7&&bZ r.id))&&(bP r.p&&decide ((r.data.length:Int)=r.p.2.2))
def jp(r:dm):bf:=ci r.object 3++(ci r.block 1++(ci r.id 2++([b8 r.p.1,b8 r.p.2.1,b8 r.p.2.2]++(ci r.seed 4++r.data))))
def dG(r:dm):bf:=if jw r then dX 1 (jp r)else[]
def dC(l:bf):Int:=l.foldl (λn x=>n*256+x.toNat) 0
def fz(c:bf):Option (Int×bf):=
 if c.length=64/\dX ((c.getD 3 0).toNat:Int) ((c.drop 4).take 55)=c then dB (((c.getD 3 0).toNat:Int),(c.drop 4).take 55)else eH
def xC(x:bf):dm:=
 ⟨dC (x.take 3),dC ((x.drop 3).take 1),dC ((x.drop 4).take 2),(dC ((x.drop 6).take 1),dC ((x.drop 7).take 1),dC ((x.drop 8).take 1)),dC ((x.drop 9).take 4),(x.drop 13).take (dC ((x.drop 8).take 1)).toNat⟩
def eC(c:bf):Option dm:=
 match fz c with
 |some (k,x)=>if k=1/\bP (xC x).p=eL/\dG (xC x)=c then dB (xC x)else eH
 |none=>eH
theorem aba(n:Int):ci n 1=[b8 n]:=by simp[ci]
theorem abb(n:Int):ci n 2=[b8 (qX n (2^8)),b8 n]:=by simp[ci,zQ]
theorem VW(n:Int):ci n 3=[b8 (qX n (2^16)),b8 (qX n (2^8)),b8 n]:=by simp[ci,zQ]
theorem MB(n:Int):ci n 4=[b8 (qX n (2^24)),b8 (qX n (2^16)),b8 (qX n (2^8)),b8 n]:=by simp[ci,zQ]
theorem Ex{n:Int}(b:0<=n:=by omega)(a:n<256:=by omega):dC [b8 n]=n:=by simp only[dC,zB,wu,ri];omega
theorem fdiv_pow(n:Int)(k:Nat):qX n (2^k)=n/(2^k):=yN _ (Int.pow_nonneg i5)
theorem aek{n:Int}(b:0<=n)(a:n<65536):dC (ci n 2)=n:=by rw[abb,fdiv_pow];simp only[dC,zB,wu,ri];omega
theorem YN{n:Int}(b:0<=n)(a:n<16777216):dC (ci n 3)=n:=by rw[VW,fdiv_pow,fdiv_pow];simp only[dC,zB,wu,ri];omega
theorem Qm{n:Int}(b:0<=n)(a:n<4294967296):dC (ci n 4)=n:=by rw[MB,fdiv_pow,fdiv_pow,fdiv_pow];simp only[dC,zB,wu,ri];omega
theorem lm(r:dm):jw r=eL↔(0<=r.object/\r.object<=16777215)/\(0<=r.block/\r.block<=7)/\(0<=r.id/\r.id<=65535)/\bP r.p=eL/\(r.data.length:Int)=r.p.2.2:=by unfold jw fq bZ;simp[and_assoc]
theorem px{r:dm}(h:jw r=eL):ii (jp r)=13+ii r.data/\r.data.length<=24:=by obtain⟨_,_,_,a,b⟩:=(lm r).1 h;have:=(cu r.p).1 a;refine⟨by unfold jp;simp[cI];omega,i4⟩
theorem Lh{r:dm}(h:jw r=eL):ii (dG r)=64:=by have:=px h;unfold dG;rw[f9 h];exact mQ i5 i5 i4
theorem BM{k:Int}{a:bf}(d:1<=k:=by decide)(c:k<=255:=by decide)(h3:ii a<=55:=by omega):fz (dX k a)=dB (k,a++qh (55-ii a) 0):=by
 obtain⟨x,b⟩:∃x,x=a++qh (55-ii a) 0:=⟨_,rfl⟩
 have e:ii x=55:=by rw[b];simp;omega
 have f:dX k a=[87,115,1,b8 k]++(x++(lO (mI (dT k a))++[165])):=by unfold dX;rw[f9 ⟨d,c,h3⟩];unfold dT;rw[b];simp[qp]
 have g:((dX k a).getD 3 0)=b8 k:=by rw[f];rfl
 have e2:((dX k a).drop 4).take 55=x:=by rw[f];have:([87,115,1,b8 k]++(x++(lO (mI (dT k a))++[165]))).drop 4=x++(lO (mI (dT k a))++[165]):=rfl;rw[this,List.take_append_of_le_length i4,qi i4]
 have h:((b8 k).toNat:Int)=k:=by rw[ri];omega
 have j:dT k x=dT k a:=by unfold dT;rw[e,b];simp[qp]
 have i:dX k x=dX k a:=by unfold dX;rw[f9 ⟨d,c,i4⟩,f9 ⟨d,c,h3⟩,j]
 unfold fz;rw[g,e2,h,f9 ⟨mQ d c h3,i⟩,b]
theorem YO{r:dm}(h:jw r=eL)(x:0<=r.seed/\r.seed<4294967296)(z:bf):xC (jp r++z)=r:=by
 obtain⟨w,t,h3,q,A⟩:=(lm r).1 h;have y:=(cu r.p).1 q;have l1:=cI r.object 3;have l2:=cI r.id 2;have g:=cI r.seed 4;have e:jp r++z=ci r.object 3++([b8 r.block]++(ci r.id 2++([b8 r.p.1]++([b8 r.p.2.1]++([b8 r.p.2.2]++(ci r.seed 4++(r.data++z))))))):=by unfold jp;rw[aba];simp[qp]
 have b:∀(u v:bf) (n:Nat),u.length=n->∀m,(u++v).drop (n+m)=v.drop m:=λu v n c m=>by
  rw[<-zI,<-c,List.drop_left]
 have a:∀(u v:bf) (n:Nat),u.length=n->(u++v).take n=u:=λu v n c=>by rw[<-c,vK]
 have k:(jp r++z).drop 3=[b8 r.block]++(ci r.id 2++([b8 r.p.1]++([b8 r.p.2.1]++([b8 r.p.2.2]++(ci r.seed 4++(r.data++z)))))):=by rw[e];exact b _ _ 3 l1 0
 have j:(jp r++z).drop 4=ci r.id 2++([b8 r.p.1]++([b8 r.p.2.1]++([b8 r.p.2.2]++(ci r.seed 4++(r.data++z))))):=by rw[show 4=3+1 from i0,<-zI,k];rfl
 have o:(jp r++z).drop 6=[b8 r.p.1]++([b8 r.p.2.1]++([b8 r.p.2.2]++(ci r.seed 4++(r.data++z)))):=by rw[show 6=4+2 from i0,<-zI,j];exact b _ _ 2 l2 0
 have f:(jp r++z).drop 7=[b8 r.p.2.1]++([b8 r.p.2.2]++(ci r.seed 4++(r.data++z))):=by rw[show 7=6+1 from i0,<-zI,o];rfl
 have i:(jp r++z).drop 8=[b8 r.p.2.2]++(ci r.seed 4++(r.data++z)):=by rw[show 8=7+1 from i0,<-zI,f];rfl
 have l:(jp r++z).drop 9=ci r.seed 4++(r.data++z):=by rw[show 9=8+1 from i0,<-zI,i];rfl
 have d:(jp r++z).drop 13=r.data++z:=by rw[show 13=9+4 from i0,<-zI,l];exact b _ _ 4 g 0
 have s:dC (((jp r++z).drop 8).take 1)=r.p.2.2:=by rw[i,a _ _ 1 i0,Ex]
 unfold xC;rw[s,k,j,o,f,l,d];rw[a [b8 r.block] _ 1 i0,a _ _ 2 l2,a [b8 r.p.1] _ 1 i0,a [b8 r.p.2.1] _ 1 i0,a _ _ 4 g];have t0:(jp r++z).take 3=ci r.object 3:=by rw[e];exact a _ _ 3 l1
 rw[t0,YN i4 i4,Ex,aek i4 i4,Ex,Ex,Qm i4 i4];have:r.p.2.2.toNat=r.data.length:=i4
 rw[this,vK]
theorem Hl{r:dm}(h:jw r=eL)(a:0<=r.seed/\r.seed<4294967296):eC (dG r)=dB r:=by
 have c:=px h;have b:=((lm r).1 h).2.2.2.1;have e:dG r=dX 1 (jp r):=by unfold dG;rw[f9 h]
 unfold eC;rw[e,BM];dsimp only;rw[YO h a,f9 ⟨i0,b,e⟩]
theorem YP{c:bf}{r:dm}(h:eC c=dB r):dG r=c/\jw r=eL/\bP r.p=eL:=by
 unfold eC at h;cases hc:fz c with
 |none=>rw[hc]at h;cases h
 |some kx=>
  rw[hc]at h;dsimp only at h;by_cases a:kx.1=1/\bP (xC kx.2).p=eL/\dG (xC kx.2)=c
  ·rw[f9 a]at h;injection h with h
   subst h;refine⟨a.2.2,?_,a.2.1⟩;by_cases d:jw (xC kx.2)=eL
   ·exact d
   ·exfalso;have b:=a.2.2;unfold dG at b;rw[g0 d]at b;unfold fz at hc;rw[<-b]at hc;simp at hc
  ·rw[g0 a]at h;cases h
end Wl
namespace Go.Vc
open Go
section
variable {C:Ctx} {h:f8} {t e ts:Nat}
theorem Ki:∀(l:bf) (b:ByteArray),l.foldl ByteArray.push b=⟨(b.data.toList++l).toArray⟩
 |[],b=>i9
 |x::l,b=>by
  rw[zB,Ki l (b.push x)];simp[ByteArray.push]
theorem XK(j:C.Ok)(J:∃i,C.T.get t=dB i/\i.cZ=.slice e)(F:∃i,C.T.get ts=dB i/\i.cZ=.str)(G:∃i,C.T.get e=dB i/\i.cZ=.int .u8){s:Sl}{l:bf}{p:aD}(u:Seq h p s 1 aF l){K:ByteArray->f8->Prop}(w:K ⟨l.toArray⟩ h):
  aB C.P (convert t ts (.slice s.ptr s.len s.cap)) (.one (.sc .str)) h K:=by
 obtain⟨N,E,I⟩:=F;obtain⟨M,D,B⟩:=J;obtain⟨i3,a3,A⟩:=G;have L:C.P.underlying ts=dB .string:=by have:=j.cZ E;rw[I]at this;exact xU this
 have H:C.P.underlying t=dB (.slice e):=by have:=j.cZ D;rw[B]at this;exact jN this
 have u3:C.P.underlying e=dB (.int .u8):=by have:=j.cZ a3;rw[A]at this;exact Jm this
 unfold aB convert;refine ag.bind (ag.always (aW H) ?_);refine ag.bind (ag.always (aW L) ?_);refine ag.bind (ag.always (aW u3) ?_);unfold Conv.bytesToString;have g:=gP (P:=C.P) (f:=aF) (k:=1) (K:=λcs h'=>cs=(l.flatMap aF).toArray/\h'=h) (λ_=>rfl) u ⟨i0,i0⟩;cases hp:s.ptr with
 |none=>
  have:l=[]:=by
   cases l with
   |nil=>rfl
   |cons x r=>obtain⟨b,o,y,_⟩:=u.elem 0 x i9;rw[hp]at y;cases y
  subst this;exact ag.pure' ⟨⟨#[]⟩,i0,w⟩
 |some a=>
  rw[hp]at g;dsimp only;have d:ag C.P (loadCells a s.len) h λcs h'=>cs=(l.flatMap aF).toArray/\h'=h:=by
   have:wH 1 s.len (.slice (dB a) s.len s.cap)=loadCells a s.len:=by unfold wH;simp
   rw[<-this];exact g
  refine ag.bind (d.mono ?_);rintro _ _ ⟨rfl,rfl⟩;have q:∀(l:bf) (b:ByteArray),aN C.P (forIn (m:=Sem) (l.flatMap aF) b λc r=>match c with
    |xq xy n=>do pure (ForInStep.yield (r.push (yH n.toNat)))
    |_=>do let r<-stuck "bytesToString: byte expected";pure r) (l.foldl ByteArray.push b):=λl=>by
   induction l with
   |nil=>intro b;exact .pure
   |cons x l ih=>
    intro b;have z:(x::l).flatMap aF=Value.int .u8 x.toNat::l.flatMap aF:=rfl;rw[z,List.forIn_cons];have e2:b.push (yH ((x.toNat:Int)).toNat)=b.push x:=by rw[ql];congr 1;apply wL.1;simp
    refine aN.bind (v:=ForInStep.yield (b.push x)) (by dsimp only;rw[e2];exact .pure) ?_;exact ih _
  refine ag.bind (ag.always (v:=l.foldl ByteArray.push ByteArray.empty) ?_ ?_)
  ·rw[List.forIn_toArray];exact q l _
  ·refine ag.pure' ⟨_,i0,?_⟩;rw[Ki];exact w
end
end Go.Vc
namespace Wl
section
variable {α:Type} (le:α->α->Bool)
def je(a b:α):Bool:=le a b&&le b a
def cJ(l l':List α):Prop:=∀x,l.filter (je le x)=l'.filter (je le x)
def Sd(l:List α):Prop:=l.Pairwise λa b=>le a b=eL
structure Ord:Prop where
 trans:∀a b c,le a b=eL->le b c=eL->le a c=eL
 total:∀a b,(le a b||le b a)=eL
variable {le}
theorem Ord.Hm(o:Ord le){a b:α}(h:¬le a b=eL):le b a=eL:=by
 have:=o.total a b;cases h1:le a b with
 |true=>exact absurd h1 h
 |false=>rw[h1]at this;simpa using this
theorem Ord.refl(o:Ord le)(a:α):le a a=eL:=by have:=o.total a a;simpa using this
theorem cJ.refl(l:List α):cJ le l l:=λ_=>rfl
theorem cJ.trans{l1 l2 a:List α}(h:cJ le l1 l2)(k:cJ le l2 a):cJ le l1 a:=λx=>(h x).trans (k x)
theorem cJ.symm{l1 l2:List α}(h:cJ le l1 l2):cJ le l2 l1:=λx=>(h x).symm
theorem cJ.app{a b c d:List α}(h:cJ le a b)(k:cJ le c d):cJ le (a++c) (b++d):=λx=>by
 rw[zm,zm,h x,k x]
theorem cJ.mem(o:Ord le){l l':List α}(h:cJ le l l'){y:α}(b:y∈l'):y∈l:=by have a:y∈l'.filter (je le y):=qI.2 ⟨b,m9⟩;rw[<-h y]at a;exact(qI.1 a).1
theorem cJ.rot(o:Ord le){u v:List α}(h:∀x∈u,∀y∈v,¬le x y=eL):cJ le (u++v) (v++u):=λz=>by
 rw[zm,zm];by_cases f:u.filter (je le z)=[]
 ·rw[f];simp
 ·by_cases e:v.filter (je le z)=[]
  ·rw[e];simp
  ·exfalso;obtain⟨x,g⟩:=List.exists_mem_of_ne_nil _ f;obtain⟨y,i⟩:=List.exists_mem_of_ne_nil _ e;obtain⟨c,b⟩:=qI.1 g;obtain⟨d,a⟩:=qI.1 i;unfold je at b a;simp only[qB]at b a;exact h x c y d (o.trans _ _ _ b.2 a.1)
theorem cJ.Tr(o:Ord le){l:List α}(h:cJ le [] l):l=[]:=by
 cases l with
 |nil=>rfl
 |cons a l=>exact absurd (cJ.mem o h (qN ..)) i9
theorem Qn(o:Ord le):∀(l l':List α),Sd le l->Sd le l'->cJ le l l'->l=l'
 |[],l',_,_,h=>(cJ.Tr o h).symm
 |a::l,[],_,_,h=>absurd (cJ.Tr o h.symm) i9
 |a::l,b::l',s,s',h=>by
  have c:a=b:=by
   have g:le a b=eL:=by
    have:=cJ.mem o h (y:=b) (qN ..);rcases zb.1 this with e|e
    ·rw[e];exact o.refl _
    ·exact(zF.1 s).1 _ e
   have f:le b a=eL:=by
    have:=cJ.mem o h.symm (y:=a) (qN ..);rcases zb.1 this with e|e
    ·rw[e];exact o.refl _
    ·exact(zF.1 s').1 _ e
   have h3:=h a;have d:je le a a=eL:=m9
   have e2:je le a b=eL:=by unfold je;rw[g,f];rfl
   rw[y8 d,y8 e2]at h3;injection h3
  subst c;rw[Qn o l l' (zF.1 s).2 (zF.1 s').2 λx=>by
   have h3:=h x;rw[zq,zq]at h3;split at h3
   ·injection h3
   ·exact h3]
theorem Hn(o:Ord le)(l:List α):Sd le (l.mergeSort le)/\cJ le l (l.mergeSort le):=by
 refine⟨yB o.trans o.total l,λx=>?_⟩;have g:(l.filter (je le x)).Pairwise λa b=>le a b=eL:=by rw[List.pairwise_filter];refine List.Pairwise.imp ?_ (List.pairwise_of_forall (l:=l) (R:=λ_ _=>True) λ_ _=>trivial);intro a b _ e d;unfold je at e d;simp only[qB]at e d;exact o.trans _ _ _ e.2 d.1
 have f:=List.sublist_mergeSort o.trans o.total g List.filter_sublist;have c:=f.filter (je le x);rw[List.filter_filter]at c;simp only[Bool.and_self]at c;exact c.eq_of_length ((wT l le).symm.filter _).length_eq
theorem agc(o:Ord le){l l':List α}(s:Sd le l')(h:cJ le l l'):l'=l.mergeSort le:=by obtain⟨b,a⟩:=Hn o l;exact Qn o _ _ s b (h.symm.trans a)
theorem Sd.app(o:Ord le){u v:List α}(b:Sd le u)(a:Sd le v)(h:∀x∈u,∀y∈v,le x y=eL):Sd le (u++v):=w9.2 ⟨b,a,h⟩
theorem Sd.left{u v:List α}(h:Sd le (u++v)):Sd le u:=(w9.1 h).1
theorem Sd.right{u v:List α}(h:Sd le (u++v)):Sd le v:=(w9.1 h).2.1
theorem Sd.Jw{u v:List α}(h:Sd le (u++v)):∀x∈u,∀y∈v,le x y=eL:=(w9.1 h).2.2
theorem Sd.at_(o:Ord le){l:List α}(h:Sd le l){i j:Nat}(b:i<=j)(a:j<ii l):le (l[i]'(by omega)) l[j]=eL:=by
 by_cases e:i=j
 ·subst e;exact o.refl _
 ·exact zx.1 h i j i4 a i4
theorem abd(o:Ord le){l1 l2 b a f g:List α}(k:Sd le (l1++l2))(l:Sd le (b++a))(h:∀x∈l1,∀y∈a,le x y=eL)(e:∀x∈l2,∀y∈b,¬le x y=eL)
  (i:cJ le (l1++b) f) (n:Sd le f) (j:cJ le (l2++a) g) (p:Sd le g):Sd le (f++g)/\cJ le ((l1++l2)++(b++a)) (f++g):=by
 constructor
 ·refine Sd.app o n p λx c y d=>?_;rcases qA.1 (cJ.mem o i c)with c|c<;>rcases qA.1 (cJ.mem o j d)with d|d
  ·exact k.Jw x c y d
  ·exact h x c y d
  ·exact o.Hm (e y d x c)
  ·exact l.Jw x c y d
 ·have m:cJ le ((l1++l2)++(b++a)) ((l1++b)++(l2++a)):=by rw[show(l1++l2)++(b++a)=l1++((l2++b)++a)by simp,show(l1++b)++(l2++a)=l1++((b++l2)++a)by simp];exact(cJ.refl _).app ((cJ.rot o e).app (cJ.refl _))
  exact m.trans (i.app j)
end
section
variable {α:Type} {le:α->α->Bool}
theorem xW(o:Ord le):∀{l l':List α},cJ le l l'->ii l=ii l'
 |[],l',h=>by rw[cJ.Tr o h]
 |a::l,l',h=>by
  have w:=cJ.mem o h.symm (y:=a) (qN ..);obtain⟨u,v,t⟩:=List.append_of_mem w;have s:∃(u:List α) (b:α) (v:List α),l'=u++b::v/\(∀x∈u,je le a x=eR)/\je le a b=eL:=by
   have k:l'.filter (je le a)≠[]:=λE=>by
    have:a∈l'.filter (je le a):=qI.2 ⟨w,m9⟩;rw[E]at this;cases this
   clear t u v w h
   induction l' with
   |nil=>exact absurd i0 k
   |cons c l' ih=>
    by_cases r:je le a c=eL
    ·exact⟨[],c,l',i0,i9,r⟩
    ·rw[List.filter_cons_of_neg r]at k;obtain⟨u,b,v,e,f,g⟩:=ih k;refine⟨c::u,b,v,n0,λx i=>?_,g⟩;rcases zb.1 i with rfl|i
     ·simpa using r
     ·exact f x i
  obtain⟨u,b,v,rfl,z,D⟩:=s;have A:je le a a=eL:=m9
  have m:=h a;have n:u.filter (je le a)=[]:=wO.2 λx i=>by rw[z x i];simp
  rw[y8 A,zm,n,wv,y8 D]at m;have p:a=b:=by injection m
  subst p;have B:cJ le l (u++v):=λx=>by
   have i:=h x;rw[zq,zm,zq]at i;rw[zm];by_cases d:je le x a=eL
   ·rw[f9 d,f9 d]at i;have q:u.filter (je le x)=[]:=wO.2 λy F j=>by
     have:=z y F;unfold je at this d j;simp only[qB]at d j;rw[o.trans _ _ _ d.2 j.1,o.trans _ _ _ j.2 d.1]at this;cases this
    rw[q,wv]at i⊢;injection i
   ·rw[g0 d,g0 d]at i;exact i
  rw[zn,xW o B];simp;omega
end
end Wl
namespace Go.Vc
open Go
theorem MC{P:Program}{id:FuncId}(F:∀(fY off cap:Nat) (i:aC) (w:World),Sort.Holds (Value.int .i64) w fY off i.toArray->ii i<=9223372036854775807->ii i<=cap->
   Calls P id #[.slice (dB ⟨fY,off,eH⟩) i.length cap] w λe r=>e=.returned (.slice (dB ⟨fY,off,eH⟩) (Lib.compact i).length cap)/\∃q,r=Sort.putRow (Value.int .i64) (Sort.ahead w q) fY off (Lib.compact i++qh (ii i-ii (Lib.compact i)) 0).toArray)
  (D:∀(a:aO) (cap:Nat) (w:World),Calls P id #[.slice a 0 cap] w λe r=>e=.returned (.slice a 0 cap)/\r=w)
  {e:TypeId} {s:Sl} {l:aC} {h:f8} (t:Own h e s 1 av l) (E:ii l<2^40):
  ac P id #[.slice s.ptr s.len s.cap] h λv h'=>v=.slice s.ptr (Lib.compact l).length s.cap/\Own h' e ⟨s.ptr,ii (Lib.compact l),s.cap⟩ 1 av (Lib.compact l)/\be (λb=>¬s.on b) h h':=by
 intro w p;have c:=t.len;have z:=t.cap;rcases t.head with⟨h1,h2,h3⟩|⟨b,rest,h1,h2,h3,h4⟩
 ·subst h3;have A:Lib.compact ([]:aC)=[]:=rfl;rw[c,h1];refine(D eH s.cap w).mono ?_;rintro H r ⟨rfl,rfl⟩;refine⟨_,i0,dE.refl _,by rw[A];rfl,by rw[A];exact⟨i0,.inl ⟨i0,by simpa using h2,i0⟩⟩,by rw[<-p];exact be.refl _ _⟩
 ·rw[h1,c];have x:w.heap[b]?=dB (.cells (l.flatMap av++rest).toArray e (0,0)):=by rw[p];exact h2
  refine(F b 0 s.cap l w (Qk x) i4 i4).mono ?_;rintro H r ⟨rfl,n,rfl⟩;have m:=lt_of_block x;have B:=Lib.compact_length_le l;obtain⟨l',g⟩:∃l',l'=Lib.compact l++qh (ii l-ii (Lib.compact l)) 0:=⟨_,rfl⟩
  rw[<-g];have o:ii l'=ii l:=by rw[g];simp;omega
  have f:∀k,k<h.size->(Sort.putRow (Value.int .i64) (Sort.ahead w n) b 0 l'.toArray).heap[k]?=if b=k then dB (.cells (l'.flatMap av++rest).toArray e (0,0))else h[k]?:=by
   intro k y;simp only[Sort.putRow,Sort.mapBlock,Sort.ahead,yk];by_cases d:b=k
   ·subst d;rw[f9 i0,f9 i0,x,qZ,Sort.onCells,Tj _ _ _ o]
   ·rw[g0 d,g0 d,p]
  rw[p]at m;have u:Own (Sort.putRow (Value.int .i64) (Sort.ahead w n) b 0 l'.toArray).heap e s 1 av l':=⟨by rw[o];exact c,.inr ⟨b,rest,h1,by rw[f b m,f9 rfl],h3,h4⟩⟩
  have j:=u.cut (λ_=>rfl) (Lib.compact l).length i4;rw[g,vK]at j;refine⟨_,i0,⟨i0,i0,i0,by simp[Sort.putRow,Sort.mapBlock,Sort.ahead]⟩,i0,by rw[h1]at j;rw[g];exact j,by simp[Sort.putRow,Sort.mapBlock,Sort.ahead,p],?_⟩;intro k y G;rw[f k y,g0 λd=>G ⟨0,by rw[h1,d]⟩]
end Go.Vc
namespace Wl
open Go
theorem Aq(a:aC)(t:a.Pairwise (·<=·)):∀m,m<=ii a->(Lib.compactUpTo a.toArray m).Pairwise (·<·)/\(∀x,x∈Lib.compactUpTo a.toArray m↔∃j,j<m/\a[j]?=dB x)
 |0,_=>⟨by simp[Lib.compactUpTo],λx=>by simp[Lib.compactUpTo]⟩
 |m+1,hm=>by
  obtain⟨v,p⟩:=Aq a t m i4;have b:m<ii a:=i4
  have q:a.toArray[m]! =a[m]:=l7
  rw[Lib.compactUpTo_succ,q];have o:∀j (f:j<m),a[j]'(by omega)<=a[m]:=λj f=>zx.1 t j m i4 b f;by_cases i:Lib.keeps a.toArray m=eL
  ·rw[f9 i];have u:m=0∨a[m-1]'(by omega)<a[m]:=by
    by_cases l:m=0
    ·exact .inl l
    ·right;have g:a.toArray[m-1]! =a[m-1]'(by omega):=by simp[show m-1<ii a by omega]
     have w:a[m]≠a[m-1]'(by omega):=λn=>by
      have:=Lib.keeps_neg (d:=a.toArray) (m:=m) i4 (by rw[q,g];exact n);rw[this]at i;cases i
     have:=o (m-1) i4;omega
   have k:∀x∈Lib.compactUpTo a.toArray m,x<a[m]:=λx s=>by
    obtain⟨j,f,h⟩:=(p x).1 s;rw[qd i4]at h;injection h with h
    rcases u with h0|h0
    ·omega
    ·have h3:a[j]'(by omega)<=a[m-1]'(by omega):=by
      by_cases c:j=m-1
      ·subst c;exact Int.le_refl _
      ·exact zx.1 t j (m-1) i4 i4 i4
     omega
   refine⟨w9.2 ⟨v,i9,λx s y z=>?_⟩,λx=>?_⟩
   ·rw[qC.1 z];exact k x s
   ·rw[qA,p,qC];constructor
    ·rintro(⟨j,f,e⟩|rfl)
     ·exact⟨j,i4,e⟩
     ·exact⟨m,i4,qd b⟩
    ·rintro⟨j,f,e⟩;by_cases c:j=m
     ·subst c;rw[qd b]at e;injection e with e;exact .inr e.symm
     ·exact .inl ⟨j,i4,e⟩
  ·rw[g0 i,qO];have l:m≠0:=λh0=>i (by subst h0;exact Lib.keeps_lt_one _ 0 i4);have r:a[m]=a[m-1]'(by omega):=by
    by_cases n:a[m]=a[m-1]'(by omega)
    ·exact n
    ·have g:a.toArray[m-1]! =a[m-1]'(by omega):=by simp[show m-1<ii a by omega]
     exact absurd (Lib.keeps_pos (d:=a.toArray) (m:=m) (by rw[q,g];exact n)) i
   refine⟨v,λx=>?_⟩;rw[p];constructor
   ·rintro⟨j,f,e⟩;exact⟨j,i4,e⟩
   ·rintro⟨j,f,e⟩;by_cases c:j=m
    ·subst c;refine⟨j-1,i4,?_⟩;rw[qd b]at e;rw[qd i4,<-r];exact e
    ·exact⟨j,i4,e⟩
theorem Ar(l:aC):(ia l).Pairwise (·<=·):=by have:=yB (le:=λx y:Int=>decide (x<=y)) (by intro a b c e d;simp at e d⊢;omega) (by intro a b;simp;omega) l;exact this.imp λh=>j5
theorem YQ(l:aC)(h:∀x∈l,0<=x/\x<64):Lib.compact (ia l)=cM l:=by
 obtain⟨f,c⟩:=Aq (ia l) (Ar l) (ia l).length (qm _);have m:∀x,x∈Lib.compact (ia l)↔x∈l:=λx=>by
  unfold Lib.compact;rw[c,<-BH l x,List.mem_iff_getElem?];constructor
  ·rintro⟨j,_,e⟩;exact⟨j,e⟩
  ·rintro⟨j,e⟩;exact⟨j,(qn.1 e).1,e⟩
 have g:(cM l).Pairwise (·<·):=by unfold cM;refine List.Pairwise.filter _ ?_;rw[List.pairwise_map];exact List.pairwise_lt_range.imp λh=>i4
 have d:∀x,x∈cM l↔x∈l:=λx=>by
  unfold cM;rw[qI,qu];constructor
  ·rintro⟨_,c⟩;simpa using c
  ·intro i;obtain⟨a,b⟩:=h x i;exact⟨⟨x.toNat,qJ.2 i4,i4⟩,by simpa using i⟩
 have k:(Lib.compact (ia l)).Perm (cM l):=(List.perm_ext_iff_of_nodup (f.imp λh=>i4) (g.imp λh=>i4)).2 λx=>(m x).trans (d x).symm;exact k.eq_of_pairwise (le:=(·<·)) (λa b _ _ f c=>i4) f g
def cz(o b t:Int):Int:=(128*o+16*b+t)%4294967296
def fh(m:aG)(r:dm):Bool:=jw r&&(decide (r.p=m.p)&&m.aH.any λx=>decide (x.object=r.object)&&(decide (r.block<(x.tries.length:Int))&&decide (r.seed=cz r.object r.block (x.tries.getD r.block.toNat 0))))
def sq(a b:dm):Bool:=decide (a.object<b.object∨(a.object=b.object/\(a.block<b.block∨(a.block=b.block/\a.id<=b.id))))
def oV(a b:dm):Bool:=decide (a.object=b.object/\a.block=b.block/\a.id=b.id)
def MD:dm:=⟨0,0,0,(0,0,0),0,[]⟩
def rj(l:List dm)(k:Nat):Bool:=decide (k=0)||!oV (l.getD k MD) (l.getD (k-1) MD)
def rk(l:List dm):List dm:=((qy l.length).filter (rj l)).map λi=>l.getD i MD
def jq(m:aG)(c:bf):Option dm:=match eC c with|some r=>if fh m r then dB r else eH|none=>eH
def eZ(m:aG)(l:cL):List dm:=rk ((l.filterMap (jq m)).mergeSort sq)
theorem aio:Ord sq:=⟨λa b c e d=>by
 unfold sq at*;rw[decide_eq_true_eq]at*;omega,λa b=>by
 unfold sq;rw[wo,decide_eq_true_eq,decide_eq_true_eq];omega⟩
theorem YR(m:aG)(l:cL)(i:Nat)(a:i<ii l):(l.take (i+1)).filterMap (jq m)=(l.take i).filterMap (jq m)++(jq m l[i]).toList:=by
 have:l.take (i+1)=l.take i++[l[i]]:=by rw[List.take_add_one,qd a];rfl
 rw[this,List.filterMap_append];cases hg:jq m l[i]with
 |none=>simp[hg]
 |some r=>simp[hg]
end Wl
namespace Go.Vc
open Go
section
variable {B:aD} {α:Type} {C:Ctx} {h0 h:f8} {As:List HP} {e t k by_:Nat} {s:Sl} {f:α->bg} {l:List α} {z:bg}
theorem FJ(z:bg)(n:Nat):(yx z.toArray n).toList.length=n*ii z:=by simp[yx]
theorem RB{z:bg}(d:∀v∈z,v.oneCell'=eL)(n:Nat):∀v∈(yx z.toArray n).toList,v.oneCell'=eL:=by
 intro v c;simp only[yx,vR,qu,Array.mem_toList_iff,Array.mem_range]at c;obtain⟨i,a,rfl⟩:=c;simp only[yf]at a⊢;have h0:0<ii z:=by
  rcases Nat.eq_zero_or_pos z.length with h|h
  ·rw[h]at a;simp at a
  ·exact h
 have b:=vj i h0;rw[getElem!_pos z.toArray _ j7];exact d _ i9
theorem Own.py(A:C.Ok)(g:Own h e s k f l)(B:bY C.toDi t e k z by_)(u:∀x,ii (f x)=k)(y:ii z=k)(d:∀v∈z,v.oneCell'=eL)(j:Nat)(w:j<=ii l){ty:Nat}{K:f8->Prop}
  (n:∀h',Own h' e ⟨s.ptr,j,s.cap⟩ k f (l.take j)->be (λb=>¬s.on b) h h'->K h'):
  ag C.P (yK #[t] ty #[.slice (if s.cap=j then s.ptr else s.ptr.map (·.add (j*k))) (s.len-j) (s.cap-j)]) h λ_ h'=>K h':=by
 have R:=g.len;have c:=g.cut u j w;unfold yK;refine ag.bind (ag.always (aW (B.under A)) ?_);by_cases p:j=ii l
 ·have L:s.len-j=0:=i4
  rw[L];generalize (if s.cap=j then s.ptr else s.ptr.map (·.add (j*k)))=q;cases q with
  |none=>exact ag.pure' (n h c (be.refl _ _))
  |some a=>exact ag.pure' (n h c (be.refl _ _))
 ·rcases g.head with⟨h1,h2,h3⟩|⟨b,rest,h1,h2,h3,h4⟩
  ·subst h3;simp at w p;omega
  ·have r:s.cap≠j:=i4
   rw[g0 r,h1];obtain⟨m,M⟩:∃m,s.len-j=m+1:=⟨s.len-j-1,i4⟩
   rw[M];obtain⟨Q,S,U,O,F,N,E,T⟩:=B.ex;obtain⟨H,I,G⟩:=tz A.toOk F;refine ag.bind (ag.always I ?_);have o:H.cells=z.toArray:=by apply yD;rw[G,E]
   rw[o];refine ag.bind ?_;have D:((⟨b,0,eH⟩:eX).add (j*k))=⟨b,j*k,eH⟩:=by simp[add_eq]
   show ag C.P (storeCells ((⟨b,0,eH⟩:eX).add (j*k)) (yx z.toArray (m+1)).toList) h _;rw[D];have i:ii (l.drop j)=m+1:=i7
   refine fC (e:=e) (pre:=(l.take j).flatMap f) (old:=(l.drop j).flatMap f) (post:=rest) ?_ ?_ ?_ (RB d _) ?_
   ·rw[<-zd,qE];exact h2
   ·rw[dL u,i,FJ,y]
   ·rw[dL u,q8,w4 i4];omega
   ·refine ag.pure' (n _ ⟨i7,.inr ⟨b,(yx z.toArray (m+1)).toList++rest,h1,?_,?_,i6⟩⟩ ?_)
    ·rw[iR h2,f9 rfl];simp
    ·rw[qx,FJ,y,h3,<-Nat.add_mul];dsimp only;congr 1;omega
    ·exact be.kf h2 λJ=>J ⟨0,h1⟩
theorem aa.py(r:C.Ok)(H:aa B h0 h As)(i:Nat)(m:As[i]?=dB (ak e s k f l))(w:bY C.toDi t e k z by_)(u:∀x,ii (f x)=k)(p:ii z=k)(a:∀v∈z,v.oneCell'=eL)(j:Nat)(n:j<=ii l){ty:Nat}{K:f8->Prop}
  (o:∀h',aa B h0 h' (As.set i (ak e ⟨s.ptr,j,s.cap⟩ k f (l.take j)))->K h'):
  ag C.P (yK #[t] ty #[.slice (if s.cap=j then s.ptr else s.ptr.map (·.add (j*k))) (s.len-j) (s.cap-j)]) h λ_ h'=>K h':=
 (H.own i m).py r w u p a j n λh' x y=>o h' (H.step i m λq g _=>⟨y.mono λb _ c d=>c (g.2 b d),x,λb c=>⟨x.lt c,.inl (g.2 b c)⟩⟩)
end
end Go.Vc
namespace Wl
open Go
theorem SB:∀x y:bf,(Op.bytesLess x y||x==y)=!Op.bytesLess y x
 |[],[]=>rfl
 |[],_::_=>rfl
 |_::_,[]=>by simp[Op.bytesLess]
 |a::x,b::y=>by
  have f:=SB x y;have d:a<b∨a=b∨b<a:=by
   rcases yz a.toNat b.toNat with h|h|h
   ·exact .inl (zW.2 h)
   ·exact .inr (.inl (wL.1 h))
   ·exact .inr (.inr (zW.2 h))
  rcases d with h|rfl|h
  ·have c:¬b<a:=λh'=>by have:=zW.1 h;have:=zW.1 h';omega
   have e:b≠a:=λh'=>by subst h';exact c h
   simp[Op.bytesLess,h,c,e]
  ·have c:¬a<a:=λh'=>by have:=zW.1 h';omega
   simp only[Op.bytesLess,c,decide_false,Bool.false_or,beq_self_eq_true,wg];rw[<-f];congr 1;simp
  ·have c:¬a<b:=λh'=>by have:=zW.1 h;have:=zW.1 h';omega
   have e:a≠b:=λh'=>by subst h';exact c h
   simp[Op.bytesLess,h,c,e]
theorem Jx:∀x y z:bf,Op.bytesLess x y=eL->Op.bytesLess y z=eL->Op.bytesLess x z=eL
 |x,[],_,h1,_=>by cases x<;>simp[Op.bytesLess]at h1
 |_,b::y,[],_,h2=>by simp[Op.bytesLess]at h2
 |[],_::_,_::_,_,_=>rfl
 |a::x,b::y,c::z,h1,h2=>by
  simp only[Op.bytesLess,wo,decide_eq_true_eq,qB,beq_iff_eq]at h1 h2⊢;rcases h1 with h1|⟨rfl,h1⟩
  ·rcases h2 with h2|⟨rfl,h2⟩
   ·exact .inl (zW.2 (by have:=zW.1 h1;have:=zW.1 h2;omega))
   ·exact .inl h1
  ·rcases h2 with h2|⟨rfl,h2⟩
   ·exact .inl h2
   ·exact .inr ⟨i0,Jx x y z h1 h2⟩
theorem abe(x:bf):Op.bytesLess x x=eR:=by
 have:=SB x x;cases h:Op.bytesLess x x with
 |false=>rfl
 |true=>rw[h]at this;simp at this
def km(a b:ByteArray):Bool:=!ft b a
theorem ME(a b:ByteArray):km a b=eL↔ft a b=eL∨a.toList=b.toList:=by unfold km ft;rw[<-SB,wo,beq_iff_eq]
theorem Ho(a b c:ByteArray)(e:km a b=eL)(d:km b c=eL):km a c=eL:=by
 rw[ME]at e d⊢;unfold ft at*;rcases e with e|e
 ·rcases d with d|d
  ·exact .inl (Jx _ _ _ e d)
  ·rw[<-d];exact .inl e
 ·rw[e];exact d
theorem Hp(a b:ByteArray):(km a b||km b a)=eL:=by
 unfold km;cases h:ft b a with
 |false=>rfl
 |true=>
  have:ft a b=eR:=by
   cases h2:ft a b with
   |false=>rfl
   |true=>
    have:=Jx _ _ _ h h2;rw[abe]at this;cases this
  rw[this];rfl
def xD(a b:cv):Bool:=km a.name b.name
def iJ(m:aG)(x:cv):aG:={m with seq:=m.seq+1,next:=m.next+1,aH:=(m.aH++[x]).mergeSort xD}
open Classical
theorem me(a:UInt8):a^^^a=0:=UInt8.xor_self
theorem sW(a b:UInt8):(a^^^b)^^^b=a:=by rw[UInt8.xor_assoc,me,zU]
theorem cP{c:UInt8}{a t:Row}(h:ii a=ii t)(j:Nat):aQ (cX c a t) j=aQ t j^^^Gf.mul c (aQ a j):=by
 simp only[aQ,cX,qe,wb];by_cases b:j<ii a
 ·rw[qd b,qd i4];rfl
 ·rw[qQ i4,qQ i4];simp[Gf.mul_zero]
theorem BN(c:UInt8)(a:Row)(j:Nat):aQ (scaleB c a) j=Gf.mul c (aQ a j):=by
 simp only[aQ,scaleB,qe,qT];cases a[j]? with
 |none=>simp[Gf.mul_zero]
 |some x=>rfl
def aM(n:Nat):Row:=qh n 0
theorem cC(n j:Nat):aQ (aM n) j=0:=by simp only[aQ,aM,qe,List.getElem?_replicate];split<;>rfl
theorem eK{n:Nat}{a b:Row}(f:ii a=n)(e:ii b=n)(h:∀j,j<n->aQ a j=aQ b j):a=b:=by apply wP i4;intro j d c;have:=h j i4;simpa[aQ,qe,qd d,qd c]using this
inductive Span (n:Nat) (m:aP):Row->Prop
 |zero:Span n m (aM n)
 |add (c:UInt8) (r v:Row):r∈m->Span n m v->Span n m (cX c r v)
section
variable {n:Nat} {m m':aP}
theorem Span.len(a:bc n m){v:Row}(h:Span n m v):ii v=n:=by
 induction h with
 |zero=>simp[aM]
 |add c r v hr _ ih=>rw[ca (by rw[a r hr,ih])];exact ih
theorem Span.comb(a:bc n m){u v:Row}(e:Span n m u)(b:Span n m v)(c:UInt8):Span n m (cX c u v):=by
 induction e with
 |zero=>
  have:cX c (aM n) v=v:=eK (n:=n) (by rw[ca (by simp[aM,b.len a])];exact b.len a) (b.len a) λj _=>by
   rw[cP (by simp[aM,b.len a]),cC,Gf.mul_zero,zU]
  rw[this];exact b
 |add d r w hr hw ih=>
  have l1:=b.len a;have l2:=hw.len a;have f:=a r hr;have:cX c (cX d r w) v=cX (Gf.mul c d) r (cX c w v):=eK (n:=n) (by rw[ca k9];exact l1) (by rw[ca k9,ca];exact l1) λj _=>by
   rw[cP k9,cP i4,cP k9,cP i4,Gf.kE,Gf.mul_assoc]
   ac_rfl
  rw[this];exact .add _ _ _ hr ih
theorem Span.row(b:bc n m){r:Row}(a:r∈m):Span n m r:=by
 have:=Span.add 1 r _ a (.zero (n:=n) (m:=m));have e:cX 1 r (aM n)=r:=eK (n:=n) (by rw[ca (by simp[aM,b r a])];simp[aM]) (b r a) λj _=>by
  rw[cP (by simp[aM,b r a]),cC,Gf.one_mul,wx]
 rwa [e]at this
theorem Span.sub(b:bc n m)(h:∀r∈m',Span n m r){v:Row}(a:Span n m' v):Span n m v:=by
 induction a with
 |zero=>exact .zero
 |add c r v hr _ ih=>exact(h r hr).comb b ih c
theorem Span.mono(h:∀r∈m',r∈m){v:Row}(a:Span n m' v):Span n m v:=by
 induction a with
 |zero=>exact .zero
 |add c r v hr _ ih=>exact .add c r v (h r hr) ih
theorem Span.lin(d:bc n m)(φ:Row->UInt8)(f:φ (aM n)=0)(e:∀c a t,ii a=n->ii t=n->φ (cX c a t)=φ t^^^Gf.mul c (φ a))(g:∀r∈m,φ r=0){v:Row}(b:Span n m v):φ v=0:=by
 induction b with
 |zero=>exact f
 |add c r v hr' b ih=>rw[e c r v (d r hr') (b.len d),ih,g r hr',Gf.mul_zero,zU]
end
def CB(S:Row->Prop)(j:Nat):Prop:=∃v,S v/\(∀i,i<j->aQ v i=0)/\aQ v j≠0
noncomputable def leads(S:Row->Prop)(n:Nat):Nat:=(qy n).countP λj=>decide (CB S j)
structure Way (n:Nat) (m:aP) (c top:Nat) (rows:aP):Prop where
 even:bc n rows
 len:ii rows=ii m
 tle:top<=ii rows
 span:∀v,Span n rows v↔Span n m v
 cnt:top=leads (Span n m) c
 piv:∃p:Nat->Nat,(∀i,i<top->p i<c)/\(∀i,i<top->∀k,k<ii rows->aQ (aE rows k) (p i)=if k=i then 1 else 0)/\(∀i,i<top->∀j,j<p i->aQ (aE rows i) j=0)/\(∀i j,i<j->j<top->p i<p j)
 low:∀k,top<=k->k<ii rows->∀j,j<c->aQ (aE rows k) j=0
theorem mem_row{m:aP}{i:Nat}(h:i<ii m:=by omega):aE m i∈m:=by rw[bE h];exact qg h
theorem fk{m:aP}{r:Row}(h:r∈m):∃i,i<ii m/\r=aE m i:=by obtain⟨i,a,rfl⟩:=qK h;exact⟨i,a,(bE a).symm⟩
theorem lP{m:aP}{i j:Nat}{r:Row}(a:i<ii m:=by omega):aE (m.set i r) j=if i=j then r else aE m j:=by
 simp only[aE,qe,q7];by_cases h:i=j
 ·subst h;simp[a]
 ·simp[h]
theorem Au{m:aP}{i j k:Nat}(d:i<ii m)(c:j<ii m):aE (jD m i j) k=if k=j then aE m i else if k=i then aE m j else aE m k:=by
 rw[jD,lP l5,lP d];by_cases b:j=k
 ·rw[f9 b,f9 b.symm]
 ·rw[g0 b,g0 (show¬k=j fromλh=>b h.symm)];by_cases a:i=k
  ·rw[f9 a,f9 a.symm]
  ·rw[g0 a,g0 (show¬k=i fromλh=>a h.symm)]
theorem Ey{m:aP}{t c k:Nat}(a:t<ii m):aE (ku t c m) k=if t=k then scaleB (Gf.inv (aQ (aE m t) c)) (aE m t)else aE m k:=by rw[ku,lP a]
section
variable {n:Nat} {m:aP}
theorem abf(l:bc n m){i j:Nat}(b:i<ii m)(a:j<ii m)(v:Row):Span n (jD m i j) v↔Span n m v:=by
 refine⟨Span.mono λr f=>?_,Span.mono λr f=>?_⟩
 ·obtain⟨k,c,rfl⟩:=fk f;rw[md]at c;rw[Au b a];split
  ·exact mem_row b
  ·split
   ·exact mem_row a
   ·exact mem_row c
 ·obtain⟨k,c,rfl⟩:=fk f;have e:∀x,x<ii m->aE (jD m i j) x∈jD m i j:=λx h=>mem_row (by rw[md];exact h);by_cases d:k=i
  ·subst d;have:=e j a;rw[Au b a,f9 rfl]at this;exact this
  ·by_cases g:k=j
   ·subst g;have:=e i b;rw[Au b a]at this;by_cases h3:i=k
    ·exact absurd h3.symm d
    ·rw[g0 h3,f9 rfl]at this;exact this
   ·have:=e k c;rw[Au b a,g0 g,g0 d]at this;exact this
theorem abg(h:bc n m){t c:Nat}(d:t<ii m)(i:aQ (aE m t) c≠0)(v:Row):Span n (ku t c m) v↔Span n m v:=by
 have a:=BJ h (c:=c) d;have g:=cB h d;have s:∀(x:UInt8) (r:Row),ii r=n->scaleB x r=cX x r (aM n):=λx r b=>eK (n:=n) (by rw[pv,b]) (by rw[ca (by simp[aM,b])];simp[aM]) λj _=>by
  rw[BN,cP (by simp[aM,b]),cC,wx]
 refine⟨Span.sub h λr b=>?_,Span.sub a λr b=>?_⟩
 ·obtain⟨k,f,rfl⟩:=fk b;rw[pi]at f;rw[Ey d];split
  ·rw[s _ _ g];exact .add _ _ _ (mem_row d) .zero
  ·exact Span.row h (mem_row f)
 ·obtain⟨k,f,rfl⟩:=fk b;have e:∀x,x<ii m->Span n (ku t c m) (aE (ku t c m) x):=λx q=>Span.row a (mem_row (by rw[pi];exact q));by_cases o:t=k
  ·subst o;have:=e t d;rw[Ey d,f9 rfl]at this;have l:=this.comb a .zero (aQ (aE m t) c);have p:cX (aQ (aE m t) c) (scaleB (Gf.inv (aQ (aE m t) c)) (aE m t)) (aM n)=aE m t:=eK (n:=n) (by rw[ca (by simp[aM,pv,g])];simp[aM]) g λj _=>by
    rw[cP (by simp[aM,pv,g]),cC,wx,BN,<-Gf.mul_assoc,Gf.OV i,Gf.one_mul]
   rw[p]at l;exact l
  ·have:=e k f;rw[Ey d,g0 o]at this;exact this
theorem abh(d:bc n m){t c:Nat}(g:t<ii m)(v:Row):Span n (fj t c m m.length) v↔Span n m v:=by
 have b:=BL d (c:=c) (k:=ii m) g;have s:=cB d g;refine⟨Span.sub d λr i=>?_,Span.sub b λr i=>?_⟩
 ·obtain⟨k,a,rfl⟩:=fk i;rw[pj]at a;rw[sV a];split
  ·exact .add _ _ _ (mem_row g) (Span.row d (mem_row a))
  ·exact Span.row d (mem_row a)
 ·obtain⟨k,a,rfl⟩:=fk i;have e:∀x,x<ii m->Span n (fj t c m m.length) (aE (fj t c m m.length) x):=λx q=>Span.row b (mem_row (by rw[pj];exact q));have h:=e t g;rw[sV g,g0 i9]at h;by_cases o:k=t
  ·subst o;exact h
  ·have l:=e k a;rw[sV a,f9 ⟨a,o⟩]at l;have h3:=h.comb b l (aQ (aE m k) c);have f:=cB d a;have p:cX (aQ (aE m k) c) (aE m t) (cX (aQ (aE m k) c) (aE m t) (aE m k))=aE m k:=eK (n:=n) (by rw[ca k9,ca];exact f) f λj _=>by
    rw[cP k9,cP i4,sW]
   rw[p]at h3;exact h3
def bW(f g:Nat->UInt8):Nat->UInt8
 |0=>0
 |k+1=>bW f g k^^^Gf.mul (f k) (g k)
theorem fU(f g:Nat->UInt8):∀k,(∀i,i<k->f i=0)->bW f g k=0
 |0,_=>rfl
 |k+1,h=>by rw[bW,fU f g k λi a=>h i i4,h k i4,Gf.zero_mul];rfl
theorem Jy(f g:Nat->UInt8)(x:Nat):∀k,x<k->(∀i,i<k->f i=if x=i then 1 else 0)->bW f g k=g x
 |0,hx,_=>i4
 |k+1,hx,h=>by
  rw[bW];by_cases a:x=k
  ·subst a;rw[fU f g x λi b=>by rw[h i i4,g0 i4],h x i4,f9 i0,Gf.one_mul,wx]
  ·rw[Jy f g x k i4 λi b=>h i i4,h k i4,g0 a,Gf.zero_mul,zU]
theorem Jz(b a g:Nat->UInt8)(c:UInt8):∀k,bW (λi=>b i^^^Gf.mul c (a i)) g k=bW b g k^^^Gf.mul c (bW a g k)
 |0=>by simp[bW,Gf.mul_zero]
 |k+1=>by
  rw[bW,bW,bW,Jz b a g c k,Gf.kE,Gf.XI,Gf.mul_assoc]
  ac_rfl
theorem MF(S:Row->Prop)(c:Nat):leads S (c+1)=leads S c+if CB S c then 1 else 0:=by simp only[leads,zQ,List.countP_append,List.countP_cons,List.countP_nil];by_cases h:CB S c<;>simp[h]
theorem abi(c:bc n m):Way n m 0 0 m:=⟨c,i0,i4,λ_=>Iff.rfl,by simp[leads],⟨λ_=>0,λi a=>i4,λi a=>i4,λi a=>i4,λi j _ b=>i4⟩,λk _ _ j b=>i4⟩
theorem ael(hm:bc n m){c b:Nat}{rows:aP}(w:Way n m c b rows)(hc:c<n):Way n m (c+1) (jE (b,rows) c).1 (jE (b,rows) c).2:=by
 obtain⟨H,R,ab,T,M,⟨p,P,p2,p3,p4⟩,f⟩:=w;have hS:∀v,Span n rows v↔Span n m v:=T;have V:Span n rows=Span n m:=funext λv=>propext (hS v);unfold jE;dsimp only;cases hb:jo rows b c with
 |none=>
  have X:=VV hb;dsimp only;have ao:¬CB (Span n m) c:=by
   rw[<-V];rintro⟨v,hv,hz,ah⟩;apply ah;have hφ:=Span.lin H (λv=>aQ v c^^^bW (λi=>aQ v (p i)) (λi=>aQ (aE rows i) c) b) (by
     simp only[cC];rw[fU _ _ _ λi _=>rfl];rfl) (λx a t ha ht=>by
     simp only[cP (show a.length=ii t by omega)];rw[Jz,Gf.kE];ac_rfl) (λr hr=>by
     obtain⟨k,F,rfl⟩:=fk hr;by_cases O:k<b
     ·rw[Jy _ _ k b O λi E=>by rw[p2 i E k F]];exact me _
     ·rw[X k i4 F,fU _ _ _ λi E=>by rw[p2 i E k F,g0 i4]];rfl) hv
   rw[fU _ _ _ λi E=>hz _ (P i E),zU]at hφ;exact hφ
  refine⟨H,R,ab,T,by rw[MF,g0 ao,M];rfl,⟨p,λi E=>by have:=P i E;omega,p2,p3,p4⟩,λk D z j d=>?_⟩;rcases zr.1 d with h|rfl
  ·exact f k D z j h
  ·exact X k D z
 |some at_=>
  have hh:=tI hb;obtain⟨h1,S,h3⟩:=hh;dsimp only;have o:b<ii rows:=i4
  obtain⟨g,B⟩:∃g,g=jD rows b at_:=⟨_,rfl⟩
  have l1:ii g=ii rows:=by rw[B,md]
  have U:bc n g:=by rw[B];exact Hj H o S
  have q1:∀k,aE g k=if k=at_ then aE rows b else if k=b then aE rows at_ else aE rows k:=λk=>by rw[B,Au o S]
  have Y:aE g b=aE rows at_:=by
   rw[q1];by_cases h:b=at_
   ·rw[f9 h,h]
   ·rw[g0 h,f9 rfl]
  have L:aQ (aE g b) c≠0:=by rw[Y];exact h3
  obtain⟨s,A⟩:∃s,s=ku b c g:=⟨_,rfl⟩
  have l2:ii s=ii rows:=by rw[A,pi,l1]
  have u:bc n s:=by rw[A];exact BJ U i4
  have q2:∀k,aE s k=if b=k then scaleB (Gf.inv (aQ (aE g b) c)) (aE g b)else aE g k:=λk=>by rw[A,Ey i4]
  have ad:∀j,aQ (aE g b) j=0->aQ (aE s b) j=0:=λj d=>by rw[q2,f9 i0,BN,d,Gf.mul_zero]
  have l:aQ (aE s b) c=1:=by rw[q2,f9 i0,BN,Gf.mul_comm,Gf.OV L]
  obtain⟨I,q⟩:∃I,I=fj b c s rows.length:=⟨_,rfl⟩
  have l3:ii I=ii rows:=by rw[q,pj,l2]
  have q3:∀k,k<ii rows->∀j,aQ (aE I k) j=if k=b then aQ (aE s b) j else aQ (aE g k) j^^^Gf.mul (aQ (aE g k) c) (aQ (aE s b) j):=λk F j=>by
   rw[q,sV i4];by_cases h:k=b
   ·rw[g0 i4,f9 h,h]
   ·have e:=q2 k;rw[g0 λhh=>h hh.symm]at e;rw[f9 ⟨F,h⟩,g0 h,cP (by rw[cB u,cB u]),e]
  have W:∀j,j<c->aQ (aE s b) j=0:=λj d=>ad j (by rw[Y];exact f at_ h1 S j d);have keep:∀k,k<ii rows->∀j,j<c->aQ (aE I k) j=if k=b then 0 else aQ (aE g k) j:=λk F j d=>by
   rw[q3 k F,W j d,Gf.mul_zero,zU]
  have J:∀k,k<b->aE g k=aE rows k:=λk F=>by rw[q1,g0 i4,g0 i4]
  have K:∀k,b<=k->k<ii rows->∀j,j<c->aQ (aE g k) j=0:=λk D z j d=>by
   rw[q1];split
   ·exact f b (qm _) o j d
   ·split
    ·exact f at_ h1 S j d
    ·exact f k D z j d
  have y:∀v,Span n I v↔Span n m v:=λv=>by
   rw[q,show rows.length=ii s by omega,abh u i4,A,abg U i4 L,B,abf H o S,hS]
  have N:CB (Span n m) c:=⟨aE I b,(y _).1 (Span.row (by rw[q];exact BL u i4) (mem_row)),λj d=>by rw[keep b o j d,f9 rfl],by rw[q3 b o,f9 i0,l];decide⟩
  have Z:fj b c (ku b c (jD rows b at_)) rows.length=I:=by rw[q,A,B]
  rw[Z];refine⟨by rw[q];exact BL u i4,i4,i4,y,by rw[MF,f9 N,M],⟨λi=>if i<b then p i else c,λi E=>?_,λi E k F=>?_,λi E j d=>?_,λi j am d=>?_⟩,λk D z j d=>?_⟩
  ·dsimp only;split
   ·have:=P i oj;omega
   ·omega
  ·dsimp only;by_cases hit:i<b
   ·rw[f9 hit,keep k i4 _ (P i hit)];by_cases O:k<b
    ·rw[g0 i4,J k O];exact p2 i hit k i4
    ·rw[g0 (show¬k=i by omega)];split
     ·rfl
     ·exact K k i4 i4 _ (P i hit)
   ·have Q:i=b:=i4
    subst Q;rw[g0 hit,q3 k i4];by_cases G:k=i
    ·rw[f9 G,f9 G];exact l
    ·rw[g0 G,g0 G,l,Gf.mul_one];exact me _
  ·dsimp only at d;by_cases hit:i<b
   ·rw[f9 hit]at d;have:=P i hit;rw[keep i i4 j i4,g0 i4,J i hit];exact p3 i hit j d
   ·have Q:i=b:=i4
    subst Q;rw[g0 hit]at d;rw[keep i i4 j d,f9 rfl]
  ·dsimp only;rw[f9 (show i<b by omega)];split
   ·exact p4 i j am oj
   ·exact P i i4
  ·rcases zr.1 d with h|rfl
   ·rw[keep k i4 j h,g0 i4];exact K k i4 i4 j h
   ·rw[q3 k i4,g0 i4,l,Gf.mul_one];exact me _
theorem JA(a:bc n m):∀c,c<=n->Way n m c (bL m c).1 (bL m c).2
 |0,_=>abi a
 |c+1,h=>by rw[bL];exact ael a (JA a c i4) i4
theorem kM:∀c,bL [] c=(0,[])
 |0=>rfl
 |c+1=>by rw[bL,kM c];rfl
theorem mv(a:bc n m):ce m=leads (Span n m) n:=by
 rw[<-(JA a n (qm _)).cnt,ce];cases m with
 |nil=>rw[kM,kM]
 |cons x t=>rw[eJ,bE i9];rw[show((x::t)[0]).length=n from a _ i9]
end
section
variable {n:Nat} {m m':aP}
theorem YS{S b:Row->Prop}(h:∀v,S v->b v)(n:Nat):leads S n<=leads b n:=by refine List.countP_mono_left λj _ a=>?_;simp only[decide_eq_true_eq]at a⊢;obtain⟨v,d,c⟩:=a;exact⟨v,h v d,c⟩
theorem lQ(a:bc n m):ce m<=n:=by rw[mv a];have:=List.countP_le_length (p:=λj=>decide (CB (Span n m) j)) (l:=qy n);simpa[leads]using this
theorem Hq(b:bc n m)(a:bc n m')(h:∀r∈m,r∈m'):ce m<=ce m':=by rw[mv b,mv a];exact YS (λv=>Span.mono h) n
theorem count_one{P Q:Nat->Bool}(l:List Nat)(d:l.Nodup)(g:∀a∈l,P a=eL->Q a=eL)(e:∀a∈l,∀b∈l,Q a=eL->P a=eR->Q b=eL->P b=eR->a=b):l.countP Q<=l.countP P+1:=by
 induction l with
 |nil=>simp
 |cons x t ih=>
  rw[List.nodup_cons]at d;have i:=ih d.2 (λa c=>g a o4) λa c b h=>e a o4 b sz;simp only[List.countP_cons];cases hQ:Q x with
  |false=>
   have:(if P x=eL then 1 else 0)>=0:=i4
   simp;omega
  |true=>
   cases hP:P x with
   |true=>simp;omega
   |false=>
    have:t.countP Q<=t.countP P:=by
     refine List.countP_mono_left λa c f=>?_;cases hpa:P a with
     |true=>rfl
     |false=>
      have:=e x i9 a o4 hQ hP f hpa;subst this;exact absurd c d.1
    simp;omega
theorem Qp(g:bc n m){r:Row}(i:ii r=n){v:Row}(k:Span n (m++[r]) v):∃(c:UInt8) (u:Row),Span n m u/\v=cX c r u:=by
 have l:bc n (m++[r]):=λx e=>by
  rcases qA.1 e with h|h
  ·exact g x h
  ·rw[qC.1 h];exact i
 induction k with
 |zero=>exact⟨0,aM n,.zero,(eK (n:=n) (by rw[ca (by simp[aM,i])];simp[aM]) k8 λj _=>by rw[cP (by simp[aM,i]),cC,Gf.zero_mul];rfl).symm⟩
 |add d x w e hw ih=>
  obtain⟨c,u,b,rfl⟩:=ih;have a:=b.len g;rcases qA.1 e with h|h
  ·have o:=g x h;refine⟨c,cX d x u,.add d x u h b,eK (n:=n) (by rw[ca k9,ca];exact a) (by rw[ca k9,ca];exact a) λj _=>?_⟩;rw[cP k9,cP i4,cP k9,cP i4]
   ac_rfl
  ·have f:=qC.1 h;subst f;refine⟨c^^^d,u,b,eK (n:=n) (by rw[ca k9,ca];exact a) (by rw[ca];exact a) λj _=>?_⟩;rw[cP k9,cP i4,cP i4,Gf.XI]
   ac_rfl
theorem np(b:bc n m){r:Row}(c:ii r=n):bc n (m++[r]):=λx a=>by
 rcases qA.1 a with h|h
 ·exact b x h
 ·rw[qC.1 h];exact c
theorem abj(f:bc n m){r:Row}(D:ii r=n):ce m<=ce (m++[r])/\ce (m++[r])<=ce m+1:=by
 have o:=np f D;refine⟨Hq f o λx F=>by simp[F],?_⟩;rw[mv f,mv o];refine count_one _ List.nodup_range (λa _ H=>?_) (λa _ b _ G l B k=>?_)
 ·simp only[decide_eq_true_eq]at H⊢;obtain⟨v,K,I⟩:=H;exact⟨v,Span.mono (λx F=>by simp[F]) K,I⟩
 ·simp only[decide_eq_true_eq,decide_eq_false_iff_not]at G l B k;have q:∀a b,CB (Span n (m++[r])) a->¬CB (Span n m) a->CB (Span n (m++[r])) b->¬CB (Span n m) b->¬a<b:=by
   rintro a b ⟨v,L,N,A⟩ l ⟨w,O,h,p⟩ k t;obtain⟨c,u,J,rfl⟩:=Qp f D L;obtain⟨d,s,g,rfl⟩:=Qp f D O;have l1:=J.len f;have l2:=g.len f;have M:d≠0:=by
    rintro rfl;apply k;refine⟨s,g,λi E=>?_,?_⟩
    ·have:=h i E;rw[cP i4,Gf.zero_mul,zU]at this;exact this
    ·rw[cP i4,Gf.zero_mul,zU]at p;exact p
   apply l;refine⟨cX (Gf.mul c (Gf.inv d)) s u,g.comb f J _,?_⟩;have e:∀j,aQ (cX (Gf.mul c (Gf.inv d)) s u) j=aQ (cX c r u) j^^^Gf.mul (Gf.mul c (Gf.inv d)) (aQ (cX d r s) j):=λj=>by
    rw[cP i4,cP i4,cP i4,Gf.kE,<-Gf.mul_assoc (Gf.mul c (Gf.inv d)) d,Gf.mul_assoc c (Gf.inv d) d,Gf.mul_comm (Gf.inv d) d,Gf.OV M,Gf.mul_one];have:∀x y z:UInt8,x^^^y=x^^^z^^^(y^^^z):=λx y z=>by
     have:x^^^z^^^(y^^^z)=x^^^y^^^(z^^^z):=by ac_rfl
     rw[this,me,zU]
    exact this _ _ _
   refine⟨λi E=>?_,?_⟩
   ·rw[e,N i E,h i i4,Gf.mul_zero];rfl
   ·rw[e,h a t,Gf.mul_zero,zU];exact A
  have K:=q a b G l B k;have I:=q b a B k G l;omega
theorem rn(m:aP)(h:bc n m):ce m<=ii m:=by
 have a:∀k,k<=ii m->ce (m.take k)<=k:=by
  intro k
  induction k with
  |zero=>intro _;simp[ce,eJ,aE,bL]
  |succ k ih=>
   intro e;have c:bc n (m.take k):=λx b=>h x (zA b);have f:=ih i4;rw[zK i4];have d:=(abj c (h _ (qg (show k<ii m by omega)))).2;omega
 have:=a m.length (qm _)
 rwa [qi (qm _)]at this
end
def oW(p:Int×Int×Int)(seed:Int)(a:aC):Nat:=ce (dR p seed a)
def gC(p:Int×Int×Int)(seed:Int)(a:aC):Bool:=bP p&&((oW p seed a:Int)==bK p)
def fV(p:Int×Int×Int):aC:=upto (max 0 (min p.1 16)).toNat
theorem pm{p:Int×Int×Int}(h:bP p=eL):bK p=p.1+p.2.1:=by rw[bK,f9 h]
theorem jP(p:Int×Int×Int)(seed:Int)(b:aC):bc (bK p).toNat (dR p seed b):=by
 intro r a;unfold dR at a;split at a
 ·rename_i c;have:=(cu p).1 c;rcases qA.1 a with h|h
  ·obtain⟨x,_,rfl⟩:=qu.1 h;rw[Ao,pm c];omega
  ·obtain⟨x,_,rfl⟩:=qu.1 h;exact Tn _ _ _
 ·cases a
theorem aem(p:Int×Int×Int)(seed:Int)(a:aC):ii (dR p seed a)<=4+ii a:=by
 unfold dR;split
 ·rename_i b;have:=(cu p).1 b;have c:=List.length_filter_le bZ a;simp only[qx,bG,qz,zE];omega
 ·simp
theorem MG(K H:Nat):bc (K+H) (bG K H):=λr a=>by
 obtain⟨x,_,rfl⟩:=qu.1 a;exact Ao _ _ _
theorem aen(p:Int×Int×Int)(seed:Int)(a:aC):(oW p seed a:Int)<=bK p:=by
 have h:=lQ (jP p seed a);have:0<=bK p:=by
  unfold bK;split
  ·rename_i b;have:=(cu p).1 b;omega
  ·omega
 rw[oW];omega
def fd(a b:aP):aP:=zi (·++·) a b
def lp(n:Nat)(m:aP):aP:=m.map (List.take n)
theorem Li{r:Row}{n j:Nat}(h:j<n):aQ (r.take n) j=aQ r j:=by simp only[aQ,qe,vd];rw[f9 h]
theorem Ts(r:Row)(n j:Nat):aQ (r.drop n) j=aQ r (n+j):=by simp only[aQ,qe,wJ]
theorem xX(n:Nat)(m:aP)(i:Nat):aE (lp n m) i=(aE m i).take n:=by
 simp only[aE,lp,qe,qT];cases m[i]? with
 |none=>simp
 |some r=>rfl
theorem OW(n:Nat)(m:aP):ii (lp n m)=ii m:=by simp[lp]
theorem YT{n a bD:Nat}(m:aP)(h:bD<n):jo (lp n m) a bD=jo m a bD:=by unfold jo;rw[OW];congr 1;funext i;rw[xX,Li h]
theorem OX(n:Nat)(m:aP)(i:Nat)(r:Row):lp n (m.set i r)=(lp n m).set i (r.take n):=by simp[lp,List.map_set]
theorem aeo(n:Nat)(m:aP)(i j:Nat):lp n (jD m i j)=jD (lp n m) i j:=by rw[jD,OX,OX,jD,xX,xX]
theorem abk(n:Nat)(c:UInt8)(r:Row):(scaleB c r).take n=scaleB c (r.take n):=by simp[scaleB,List.map_take]
theorem aha(n:Nat)(c:UInt8)(a t:Row):(cX c a t).take n=cX c (a.take n) (t.take n):=by simp[cX,List.take_zipWith]
theorem aep{n bD:Nat}(h:bD<n)(t:Nat)(m:aP):lp n (ku t bD m)=ku t bD (lp n m):=by rw[ku,OX,abk,ku,xX,Li h]
theorem aeq{n bD:Nat}(h:bD<n)(t k:Nat)(m:aP):lp n (fj t bD m k)=fj t bD (lp n m) k:=by
 apply zG;intro i;simp only[lp,fj,qT,vl];cases m[i]? with
 |none=>rfl
 |some r=>
  simp only[qZ];congr 1;have:=xX n m t;rw[lp]at this;rw[this,Li h];split
  ·exact aha _ _ _ _
  ·rfl
theorem aer{n bD:Nat}(h:bD<n)(s:Nat×aP):((jE s bD).1,lp n (jE s bD).2)=jE (s.1,lp n s.2) bD:=by
 unfold jE;dsimp only;rw[YT _ h];cases jo s.2 s.1 bD with
 |none=>rfl
 |some i=>dsimp only;rw[aeq h,aep h,aeo,OW]
theorem MH(n:Nat)(m:aP):∀c,c<=n->((bL m c).1,lp n (bL m c).2)=bL (lp n m) c
 |0,_=>rfl
 |c+1,h=>by
  have a:=MH n m c i4;rw[bL,bL,aer (show c<n by omega),a]
theorem mR{a b:aP}(h:ii a=ii b):ii (fd a b)=ii a:=by simp[fd,h]
theorem JB{a b:aP}(h:ii a=ii b){i:Nat}(c:i<ii a):aE (fd a b) i=aE a i++aE b i:=by rw[bE (by rw[mR h];exact c),bE c,bE i4];simp[fd]
theorem nr{n w:Nat}{a b:aP}(h:ii a=ii b)(d:bc n a)(e:bc w b):bc (n+w) (fd a b):=λr f=>by
 obtain⟨i,c,rfl⟩:=fk f;rw[mR h]at c;rw[JB h c,qx,cB d c,cB e]
theorem ahb{n:Nat}{a b:aP}(h:ii a=ii b)(e:bc n a):lp n (fd a b)=a:=by apply wP (by rw[OW,mR h]);intro i d c;have:=xX n (fd a b) i;rw[bE d,JB h c,List.take_left' (cB e c),bE c]at this;exact this
theorem aes{n:Nat}{a:aP}(b:bc n a):(bL a n).1=ce a:=by
 rw[ce];cases a with
 |nil=>rw[kM,kM]
 |cons x t=>rw[eJ,bE i9];rw[show((x::t)[0]).length=n from b _ i9]
theorem Lj{n:Nat}{a b:aP}(h:ii a=ii b)(c:bc n a):(bL (fd a b) n).1=ce a:=by have:=congrArg qH (MH n (fd a b) n (qm _));rw[ahb h c]at this;rw[<-aes c];exact this
def sX(w:Nat)(r:Row)(X:aP):Nat->Row
 |0=>aM w
 |k+1=>cX (aQ r k) (aE X k) (sX w r X k)
theorem iS{n w:Nat}{X:aP}(a:bc w X)(c:ii X=n)(r:Row):∀k,k<=n->ii (sX w r X k)=w
 |0,_=>by simp[sX,aM]
 |k+1,h=>by
  have b:=iS a c r k i4;rw[sX,ca (by rw[cB a,b])];exact b
theorem ic{n w:Nat}{X:aP}(a:bc w X)(b:ii X=n)(r:Row)(j:Nat):∀k,k<=n->aQ (sX w r X k) j=bW (λi=>aQ r i) (λi=>aQ (aE X i) j) k
 |0,_=>by rw[sX,cC];rfl
 |k+1,h=>by
  have c:=ic a b r j k i4;rw[sX,cP (by rw[cB a,iS a b r k i4]),c];rfl
def fI(n w:Nat)(a b X:aP):Prop:=ii X=n/\bc w X/\∀i,i<ii a->sX w (aE a i) X n=aE b i
theorem aet{m a:aP}(d:ii m=ii a)(h:∀i,i<ii m->aE m i=aE a i):m=a:=by
 apply wP d;intro i b c;have:=h i b
 rwa [bE b,bE c]at this
def Av(n:Nat)(X:aP)(k:Nat)(v:Row):UInt8:=aQ v (n+k)^^^bW (λi=>aQ v i) (λi=>aQ (aE X i) k) n
theorem ga{f f' g g':Nat->UInt8}:∀k,(∀i,i<k->f i=f' i)->(∀i,i<k->g i=g' i)->bW f g k=bW f' g' k
 |0,_,_=>rfl
 |k+1,h1,h2=>by rw[bW,bW,ga k (λi a=>h1 i i4) λi a=>h2 i i4,h1 k i4,h2 k i4]
theorem XL(n:Nat)(X:aP)(k:Nat)(c:UInt8)(a t:Row)(h:ii a=ii t:=by omega):Av n X k (cX c a t)=Av n X k t^^^Gf.mul c (Av n X k a):=by unfold Av;rw[cP h];have:bW (λi=>aQ (cX c a t) i) (λi=>aQ (aE X i) k) n=bW (λi=>aQ t i^^^Gf.mul c (aQ a i)) (λi=>aQ (aE X i) k) n:=ga n (λi _=>cP h i) λ_ _=>rfl;rw[this,Jz,Gf.kE];ac_rfl
theorem XM{a b:Row}{n:Nat}(c:ii a=n)(k:Nat):aQ (a++b) (n+k)=aQ b k:=by simp only[aQ,qe];rw[qj i4,c,zp]
theorem Tt{a b:Row}{n j:Nat}(d:ii a=n)(c:j<n):aQ (a++b) j=aQ a j:=by simp only[aQ,qe];rw[qo i4]
theorem ro{a b:UInt8}:a^^^b=0↔a=b:=by
 constructor
 ·intro h;have:=congrArg (·^^^b) h;simp only[wx]at this
  rwa [sW]at this
 ·rintro rfl;exact me _
theorem MI{n w:Nat}{a b X:aP}(h:ii a=ii b)(e:bc n a)(p:bc w b)(g:ii X=n)(l:bc w X):fI n w a b X↔∀k,k<w->∀v,Span (n+w) (fd a b) v->Av n X k v=0:=by
 have f:=nr h e p;constructor
 ·intro u k o v q;refine Span.lin f (Av n X k) ?_ (λc a t z y=>XL n X k c a t) (λr s=>?_) q
  ·unfold Av;rw[cC,fU _ _ n λi _=>cC _ _];rfl
  ·obtain⟨i,d,rfl⟩:=fk s;rw[mR h]at d;rw[JB h d];unfold Av;rw[XM (cB e d),<-u.2.2 i d,ic l g _ k n (qm _),ro];exact ga n (λj m=>(Tt (cB e d) m).symm) λ_ _=>rfl
 ·intro x;refine⟨g,l,λi d=>eK (n:=w) (iS l g _ n (qm _)) (cB p) λk o=>?_⟩;have:=x k o _ (Span.row f (mem_row (show i<ii (fd a b) by rw[mR h];exact d)));rw[JB h d]at this;unfold Av at this;rw[XM (cB e d),ro]at this;rw[this,ic l g _ k n (qm _)];exact ga n (λj m=>(Tt (cB e d) m).symm) λ_ _=>rfl
theorem aip{n:Nat}{p:Nat->Nat}(c:∀i,i<n->p i<n)(b:∀i j,i<j->j<n->p i<p j):∀i,i<n->p i=i:=by
 have d:∀i,i<n->i<=p i:=by
  intro i
  induction i with
  |zero=>intro _;omega
  |succ i ih=>intro a;have:=ih i4;have:=b i (i+1) i4 a;omega
 have up:∀k i,i+k+1=n->p i<=i:=by
  intro k
  induction k with
  |zero=>intro i a;have:=c i i4;omega
  |succ k ih=>intro i a;have:=ih (i+1) i4;have:=b i (i+1) i4 i4;omega
 intro i a;have:=d i a;have:=up (n-1-i) i i4;omega
def gp(n:Nat)(a b:aP):aP:=(((bL (fd a b) n).2).take n).map (List.drop n)
def lI(n:Nat)(a b:aP):Prop:=∀r∈((bL (fd a b) n).2).drop n,r=aM r.length
section
variable {n w:Nat} {a b:aP}
theorem xY(h:ii a=ii b)(f:bc n a)(i:bc w b)(j:ce a=n):ii (gp n a b)=n/\bc w (gp n a b):=by have c:=nr h f i;have e:=hO c n;have h3:=rn a f;refine⟨by rw[gp,qz,q8,e.2,mR h];omega,λr d=>?_⟩;obtain⟨x,g,rfl⟩:=qu.1 d;rw[ze,e.1 x (zA g)];omega
theorem XN(h:ii a=ii b)(d:bc n a)(e:ce a=n){i:Nat}(c:i<n):aE (gp n a b) i=(aE (bL (fd a b) n).2 i).drop n:=by
 simp only[aE,gp,qe,qT,vd];rw[f9 c]
 cases(bL (fd a b) n).2[i]? with
 |none=>simp
 |some r=>rfl
theorem Tu(h:ii a=ii b)(d:bc n a)(o:bc w b)(q:ce a=n):
  (∀v,Span (n+w) (bL (fd a b) n).2 v↔Span (n+w) (fd a b) v)/\(bL (fd a b) n).2.length=ii a/\(∀i,i<n->∀k,k<ii a->aQ (aE (bL (fd a b) n).2 k) i=if k=i then 1 else 0):=by
 have c:=nr h d o;have W:=JA c n i4;have r:(bL (fd a b) n).1=n:=by rw[Lj h d,q]
 obtain⟨p,e,f,l,j⟩:=W.piv;rw[r]at e f l j;have hid:=aip e j;have m:(bL (fd a b) n).2.length=ii a:=by rw[W.len,mR h]
 refine⟨W.span,m,λi g k s=>?_⟩;have:=f i g k i4
 rwa [hid i g]at this
theorem Tv{X:aP}{r:Row}{i k:Nat}(b:i<n)(c:∀j,j<n->aQ r j=if i=j then 1 else 0):Av n X k r=aQ r (n+k)^^^aQ (aE X i) k:=by unfold Av;rw[Jy _ _ i n b λj a=>c j a]
theorem XO{X:aP}{r:Row}{k:Nat}(a:∀j,j<n->aQ r j=0):Av n X k r=aQ r (n+k):=by unfold Av;rw[fU _ _ n a,zU]
theorem mw(h:ii a=ii b)(l:bc n a)(p:bc w b)(u:ce a=n){X:aP}(g:fI n w a b X):X=gp n a b/\lI n a b:=by
 have s:=nr h l p;have t:=hO s n;obtain⟨m,D,q⟩:=Tu h l p u;have A:=rn a l;have y:=(MI h l p g.1 g.2.1).1 g;obtain⟨z,s2⟩:=xY h l p u;constructor
 ·refine aet (by rw[g.1,z]) λi d=>eK (n:=w) (cB g.2.1 d) (cB s2 (by rw[z];rw[g.1]at d;exact d)) λk B=>?_;rw[g.1]at d;have h3:=y k B _ ((m _).1 (Span.row t.1 (mem_row (show i<(bL (fd a b) n).2.length by omega))));rw[Tv d λj o=>q j o i i4]at h3;rw[XN h l u d,Ts];exact(ro.1 h3).symm
 ·intro r v;obtain⟨i,d,rfl⟩:=qK v;rw[ze]at d;rw[wh];have f:n+i<(bL (fd a b) n).2.length:=i4
  have e:=bE f;have c:=cB t.1 f;rw[<-e,c];refine eK (n:=n+w) c k8 λj o=>?_;rw[cC];by_cases x:j<n
  ·rw[q j x (n+i) i4,g0 i4]
  ·obtain⟨k,rfl⟩:∃k,j=n+k:=⟨j-n,i4⟩
   have h3:=y k i4 _ ((m _).1 (Span.row t.1 (mem_row f)))
   rwa [XO λj o=>by rw[q j o (n+i) i4,g0 i4]]at h3
theorem rp(h:ii a=ii b)(e:bc n a)(g:bc w b)(p:ce a=n)(B:lI n a b):fI n w a b (gp n a b):=by
 have m:=nr h e g;have u:=hO m n;obtain⟨o,F,s⟩:=Tu h e g p;have z:=rn a e;obtain⟨D,s2⟩:=xY h e g p;refine(MI h e g D s2).2 λk E v y=>?_;refine Span.lin u.1 (Av n (gp n a b) k) ?_ (λc x t G u=>XL n _ k c x t) (λr q=>?_) ((o v).2 y)
 ·unfold Av;rw[cC,fU _ _ n λi _=>cC _ _];rfl
 ·obtain⟨i,A,rfl⟩:=fk q;by_cases f:i<n
  ·rw[Tv f λj l=>s j l i i4,XN h e p f,Ts];exact me _
  ·rw[XO λj l=>by rw[s j l i i4,g0 i4]];have:aE (bL (fd a b) n).2 i∈(bL (fd a b) n).2.drop n:=by
    rw[bE A];obtain⟨d,rfl⟩:∃d,i=n+d:=⟨i-n,i4⟩
    rw[<-wh (h:=by rw[ze];omega)];exact qg _
   rw[B _ this,cC]
theorem VX(h:ii a=ii b)(e:bc n a)(g:bc w b)(i:ii a=n):lI n a b:=by have c:=nr h e g;have f:=hO c n;intro r d;rw[zg (by rw[f.2,mR h];omega)]at d;cases d
end
def Tw(l:aC):Prop:=∀a b,a<ii l->b<ii l->lN l a=lN l b->a=b
theorem JC{l:aC}{i:Nat}(h:i<ii l):lN l i=l[i]:=by rw[lN,qe,qd h];rfl
theorem aeu{l:aC}{i j k:Nat}(d:i<ii l)(c:j<ii l):lN (tH l i j) k=if k=j then lN l i else if k=i then lN l j else lN l k:=by
 simp only[lN,tH,qe,q7,zh];by_cases a:j=k
 ·subst a;simp[c]
 ·by_cases b:i=k
  ·subst b;simp[a,d];omega
  ·simp[a,b];omega
theorem swap_inj{l:aC}{i j:Nat}(o:i<ii l)(g:j<ii l)(h:Tw l):Tw (tH l i j):=by
 intro a b m n p;rw[Tl]at m n;have d:∀k,k<ii l->∃σ,σ<ii l/\lN (tH l i j) k=lN l σ/\(σ=if k=j then i else if k=i then j else k):=λk r=>by
  rw[aeu o g];by_cases f:k=j
  ·rw[f9 f,f9 f];exact⟨i,o,i0,i0⟩
  ·rw[g0 f,g0 f];by_cases e:k=i
   ·rw[f9 e,f9 e];exact⟨j,g,i0,i0⟩
   ·rw[g0 e,g0 e];exact⟨k,r,i0,i0⟩
 obtain⟨s,u,q,w⟩:=d a m;obtain⟨t,v,e2,c⟩:=d b n;rw[q,e2]at p;have:=h s t u v p;subst this;rw[w]at c;split at c<;>split at c<;>(try split at c)<;>(try split at c)<;>omega
theorem abl{l:aC}(h:Tw l):l.Nodup:=by rw[List.nodup_iff_pairwise_ne,zx];intro i j b a d c;have:=h i j b a (by rw[JC b,JC a];exact c);omega
theorem aev(n:Nat):Tw (upto n):=by intro a b e c d;rw[hY]at e c;rw[JC (by rw[hY];exact e),JC (by rw[hY];exact c)]at d;simp[upto]at d;omega
theorem Tx(n:Nat)(s:Int):∀k,k<=n->n<=64->Tw (gM n s (upto n) k).2
 |0,_,_=>aev n
 |k+1,hk,hn=>by
  have a:=Am n s (upto n) k;rw[hY]at a;have:=Al (gM n s (upto n) k).1 ((n-k:Nat):Int);exact swap_inj i4 i4 (Tx n s k i4 hn)
theorem YU(s:Int)(n k:Nat)(a:k<=n)(b:n<=64):(Js s n k).Nodup:=by have h:=(abl (Tx n s k a b)).sublist (List.take_sublist k _);exact(wT _ _).nodup_iff.2 h
theorem Ez{n:Nat}(b:1<=n)(a:n<=20)(seed id:Int):(dz n seed id).Nodup:=YU _ _ _ (An _ n b a) i4
theorem VY(n:Nat)(seed id:Int):(dz n seed id).Pairwise (·<=·):=by have:=yB (le:=λx y:Int=>decide (x<=y)) (by intro a b c;simp;omega) (by intro a b;simp;omega) ((gM n (FI (FI (Hi seed id))) (upto n) (Jv (FI (Hi seed id)) n)).2.take (Jv (FI (Hi seed id)) n));exact this.imp i9
theorem OY{r:Row}{i j:Nat}{x:UInt8}(a:i<ii r):aQ (r.set i x) j=if j=i then x else aQ r j:=by
 simp only[aQ,qe,q7];by_cases h:i=j
 ·subst h;simp[a]
 ·simp[h];intro e;exact absurd e.symm h
theorem Qq(n:Nat)(l:aC)(c:Int):gw n (l++[c])=(gw n l).set c.toNat 1:=by rw[gw,zN];rfl
theorem EB{n:Nat}:∀(l:aC) (_:∀x∈l,0<=x/\x<(n:Int)) (j:Nat),aQ (gw n l) j=if(j:Int)∈l then 1 else 0:=by
 intro l;have d:∀k,k<=ii l->(∀x∈l,0<=x/\x<(n:Int))->∀j:Nat,aQ (gw n (l.take k)) j=if(j:Int)∈l.take k then 1 else 0:=by
  intro k
  induction k with
  |zero=>intro _ _ j;simp[gw];exact cC n j
  |succ k ih=>
   intro g b j;have f:=b _ (qg (show k<ii l by omega));rw[zK i4,Qq,OY (by rw[sU];omega),ih i4 b];have a:(j:Int)∈l.take k++[l[k]]↔(j:Int)∈l.take k∨(j:Int)=l[k]:=by rw[qA,qC]
   by_cases h:j=l[k].toNat
   ·rw[f9 h,f9 (a.2 (.inr i4))]
   ·rw[g0 h];by_cases c:(j:Int)∈l.take k
    ·rw[f9 c,f9 (a.2 (.inl c))]
    ·rw[g0 c,g0 λe=>(a.1 e).elim c λh3=>h i4]
 intro b j;have:=d l.length (qm _) b j
 rwa [qi (qm _)]at this
theorem Lk{f f' g:Nat->UInt8}{c:Nat}(b:f c=0)(d:∀i,f' i=if i=c then 1 else f i):∀k,bW f' g k=bW f g k^^^if c<k then g c else 0
 |0=>by simp[bW]
 |k+1=>by
  rw[bW,bW,Lk b d k,d k];by_cases a:k=c
  ·subst a;rw[f9 i0,g0 i4,f9 i4,Gf.one_mul,b,Gf.zero_mul]
  ·rw[g0 a];by_cases h:c<k
   ·rw[f9 h,f9 i4];ac_rfl
   ·rw[g0 h,g0 i4];simp
def fW(w:Nat)(X:aP)(l:aC):Row:=l.foldl (λs c=>cX 1 (aE X c.toNat) s) (aM w)
theorem EC(w:Nat)(X:aP)(l:aC)(c:Int):fW w X (l++[c])=cX 1 (aE X c.toNat) (fW w X l):=by rw[fW,zN];rfl
theorem rq{n w:Nat}{X:aP}(b:bc w X)(e:ii X=n){l:aC}(a:∀x∈l,0<=x/\x<(n:Int)):∀k,k<=ii l->ii (fW w X (l.take k))=w:=by
 intro k
 induction k with
 |zero=>intro _;simp[fW,aM]
 |succ k ih=>
  intro d;have c:=a _ (qg (show k<ii l by omega));rw[zK i4,EC,ca (by rw[cB b,ih i4])];exact ih i4
theorem XP{n w:Nat}{X:aP}(b:bc w X)(c:ii X=n){l:aC}(a:∀x∈l,0<=x/\x<(n:Int)):ii (fW w X l)=w:=by
 have:=rq b c a l.length (qm _)
 rwa [qi (qm _)]at this
theorem ahc{n w:Nat}{X:aP}(a:bc w X)(b:ii X=n){l:aC}(d:∀x∈l,0<=x/\x<(n:Int))(o:l.Nodup):fW w X l=sX w (gw n l) X n:=by
 have h:∀k,k<=ii l->fW w X (l.take k)=sX w (gw n (l.take k)) X n:=by
  intro k
  induction k with
  |zero=>
   intro _;refine eK (n:=w) (by simp[fW,aM]) (iS a b _ n (qm _)) λj _=>?_;rw[ic a b _ j n (qm _),fU _ _ n λi _=>by simp only[vJ,gw,wu];exact cC n i];simp only[vJ,fW,wu];exact cC w j
  |succ k ih=>
   intro r;have q:=d _ (qg (show k<ii l by omega));have p:=rq a b d k i4;rw[zK i4,EC,Qq,ih i4];refine eK (n:=w) ?_ (iS a b _ n (qm _)) λj _=>?_
   ·rw[ca (by rw[cB a,iS a b _ n (qm _)])];exact iS a b _ n (qm _)
   ·rw[cP (by rw[cB a,iS a b _ n (qm _)]),ic a b _ j n (qm _),ic a b _ j n (qm _)];have g:l[k]∉l.take k:=λm=>by
     have e:l=l.take k++l[k]::l.drop (k+1):=by rw[<-qP i4,qE]
     rw[e,List.nodup_append]at o;exact o.2.2 _ m _ qN i0
    have h0:aQ (gw n (l.take k)) l[k].toNat=0:=by
     rw[EB _ λx q=>d x (zA q),g0];intro m;apply g;have:((l[k].toNat:Nat):Int)=l[k]:=i4
     rwa [this]at m
    rw[Lk (f:=λi=>aQ (gw n (l.take k)) i) (c:=l[k].toNat) h0 (λi=>OY (by rw[sU];omega)) n,f9 i4,Gf.one_mul]
 have:=h l.length (qm _)
 rwa [qi (qm _)]at this
open Go Go.Vc
def gT(K H w:Nat)(d:Row):aP:=qh H (aM w)++(qy K).map (GY d w)
def dv(p:Int×Int×Int)(seed:Int)(d:Row):aP:=gp (bK p).toNat (dR p seed (fV p)) (gT p.1.toNat p.2.1.toNat p.2.2.toNat d)
structure cw (p:Int×Int×Int) (seed:Int) (d:Row) (K H w n:Nat):Prop where
 may:bP p=eL
 full:gC p seed (fV p)=eL
 k:p.1=K
 h:p.2.1=H
 s:p.2.2=w
 n:n=K+H
 k1:1<=K
 k2:K<=16
 h1:1<=H
 h2:H<=4
 w1:1<=w
 w2:w<=24
 len:ii d=K*w
theorem YV{p:Int×Int×Int}{seed:Int}{d:Row}(b:bP p=eL)(e:gC p seed (fV p)=eL)(a:(ii d:Int)=p.1*p.2.2):∃K H w n,cw p seed d K H w n:=by
 have:=(cu p).1 b;refine⟨p.1.toNat,p.2.1.toNat,p.2.2.toNat,p.1.toNat+p.2.1.toNat,b,e,i4,i4,i4,i0,i4,i4,i4,i4,i4,i4,?_⟩;have c:p.1=(p.1.toNat:Int):=i4
 have e2:p.2.2=(p.2.2.toNat:Int):=i4
 rw[c,e2,<-Int.natCast_mul]at a;exact Int.ofNat.inj a
section
variable {p:Int×Int×Int} {seed:Int} {d:Row} {K H w n:Nat}
theorem cw.cY(B:cw p seed d K H w n):bK p=n:=by rw[pm B.may,B.k,B.h,B.n];rfl
theorem cw.ru(B:cw p seed d K H w n):(bK p).toNat=n:=by rw[B.cY];rfl
theorem YW(a:p.1=(K:Int))(h:K<=16):fV p=upto K:=by rw[fV];congr 1;omega
theorem VZ(h:K<=16):(upto K).filter bZ=upto K:=by rw[List.filter_eq_self];intro x b;simp[upto]at b;obtain⟨a,c,rfl⟩:=b;simp[bZ];omega
theorem cw.Te(B:cw p seed d K H w n):dR p seed (fV p)=bG K H++(qy K).map λi:Nat=>pf n seed (i:Int):=by rw[dR,f9 B.may,YW B.k B.k2,VZ B.k2,B.k,B.h,B.ru,ql,ql,upto,List.map_map];rfl
theorem cw.Hr(B:cw p seed d K H w n):ii (dR p seed (fV p))=n:=by rw[B.Te,qx,qz,zE,bG,qz,zE,B.n];omega
theorem cw.JD(B:cw p seed d K H w n):bc n (dR p seed (fV p)):=by
 have:=jP p seed (fV p)
 rwa [B.ru]at this
theorem cw.OZ(B:cw p seed d K H w n):ce (dR p seed (fV p))=n:=by have h:=B.full;rw[gC,B.may,B.cY,oW]at h;simp at h;exact Int.ofNat.inj h
theorem Hs(K H w:Nat)(d:Row):ii (gT K H w d)=K+H:=by simp[gT];omega
theorem xE(b:ii d=K*w):bc w (gT K H w d):=λr c=>by
 rcases qA.1 c with h|h
 ·rw[(List.mem_replicate.1 h).2];simp[aM]
 ·obtain⟨i,a,rfl⟩:=qu.1 h;rw[qJ]at a;exact agU (by rw[b];exact zH w a)
theorem abm{i:Nat}(a:i<H):aE (gT K H w d) i=aM w:=by rw[aE,gT,qe,qo j8];simp[a]
theorem YX{i:Nat}(a:i<K):aE (gT K H w d) (H+i)=GY d w i:=by rw[aE,gT,qe,qj i9];simp[a]
theorem cw.FK(B:cw p seed d K H w n):dv p seed d=gp n (dR p seed (fV p)) (gT K H w d):=by rw[dv,B.ru,B.k,B.h,B.s];rfl
theorem cw.lens(B:cw p seed d K H w n):ii (dR p seed (fV p))=ii (gT K H w d):=by rw[B.Hr,Hs,B.n]
theorem cw.oD(B:cw p seed d K H w n):ii (dv p seed d)=n/\bc w (dv p seed d):=by rw[B.FK];exact xY B.lens B.JD (xE B.len) B.OZ
theorem cw.fI(B:cw p seed d K H w n):fI n w (dR p seed (fV p)) (gT K H w d) (dv p seed d):=by rw[B.FK];exact rp B.lens B.JD (xE B.len) B.OZ (VX B.lens B.JD (xE B.len) B.Hr)
theorem cw.aiq(B:cw p seed d K H w n){i:Nat}(a:i<H):aE (dR p seed (fV p)) i=mu K H i:=by rw[B.Te,aE,qe,qo (by simpa[bG]using a)];simp[bG,a]
theorem cw.ahe(B:cw p seed d K H w n){i:Nat}(a:i<K):aE (dR p seed (fV p)) (H+i)=pf n seed (i:Int):=by rw[B.Te,aE,qe,qj (by simp[bG])];simp[bG,a]
theorem cw.low(B:cw p seed d K H w n){i:Nat}(a:i<H):sX w (mu K H i) (dv p seed d) n=aM w:=by
 have:=B.fI.2.2 i (by rw[B.Hr,B.n];omega)
 rwa [B.aiq a,abm a]at this
theorem cw.high(B:cw p seed d K H w n){i:Nat}(a:i<K):sX w (pf n seed (i:Int)) (dv p seed d) n=GY d w i:=by
 have:=B.fI.2.2 (H+i) (by rw[B.Hr,B.n];omega)
 rwa [B.ahe a,YX a]at this
theorem cw.n1(B:cw p seed d K H w n):1<=n:=by have:=B.n;have:=B.k1;omega
theorem cw.n2(B:cw p seed d K H w n):n<=20:=by have:=B.n;have:=B.k2;have:=B.h2;omega
theorem cw.sym(B:cw p seed d K H w n)(id:Int):fW w (dv p seed d) (dz n seed id)=sX w (pf n seed id) (dv p seed d) n:=
 ahc B.oD.2 B.oD.1 (λ_ a=>nk B.n1 B.n2 a) (Ez B.n1 B.n2 seed id)
theorem cw.aew(B:cw p seed d K H w n){i:Nat}(a:i<K):fW w (dv p seed d) (dz n seed (i:Int))=GY d w i:=by rw[B.sym,B.high a]
theorem cw.abn(B:cw p seed d K H w n)(id:Int):ii (fW w (dv p seed d) (dz n seed id))=w:=
 XP B.oD.2 B.oD.1 λ_ a=>nk B.n1 B.n2 a
end
end Wl
namespace Go.Vc
open Go
theorem Wa{α:Type}{c k:Nat}{f:α->bg}:∀{rs:List Sl} {ll:List (List α)} (a:List Sl) (b:List (List α)),ii rs=ii ll->bF c k f (rs++a) (ll++b)=bF c k f rs ll++bF c k f a b:=by intro rs ll a b h;unfold bF;exact yE h
theorem aa.aex{B:aD}{a h:f8}{X:HP}:∀{L M:List HP},aa B a h (L++X::M)->aa B a h (L++M):=λ{L M} H=>by
 have:=H.del L.length
 rwa [List.eraseIdx_append_of_length_le (qm _),zc,List.eraseIdx_cons_zero]at this
section
variable {α:Type} {C:Ctx} {B:aD} {h0 h h':f8} {As:List HP} {e e2 k t t2 by_:Nat} {s s2:Sl} {f:α->bg} {ll l2:List (List α)}
theorem aa.ahf(z:C.Ok)(H:aa B h0 h (dK e s e2 k f ll::dK e s2 e2 k f l2::As))(F:bY C.toDi t e 1 [.slice eH 0 0] 24)(y:∃i e2,C.T.get t2=dB i/\i.cZ=.slice e2)(E:ii ll+ii l2<=2^32){ty:Nat}{K:Sl->f8->Prop}
  (x:∀d h',aa B h0 h' (dK e d e2 k f (ll++l2)::As)->K d h'):
  aB C.P (qt #[t,t2] ty #[.slice s.ptr s.len s.cap,.slice s2.ptr s2.len s2.cap]) (.one (.sc .slc)) h K:=by
 obtain⟨rs,p,o⟩:=H.Es;obtain⟨c,g⟩:∃c,c=bF e2 k f rs ll:=⟨_,rfl⟩
 rw[<-g]at o;have u:aa B h0 h (dK e s2 e2 k f l2::(As++(ak e s 1 bw rs::c))):=o.front;obtain⟨a,l,r⟩:=u.Es;obtain⟨L2,j⟩:∃L2,L2=bF e2 k f a l2:=⟨_,rfl⟩
 rw[<-j]at r;have q:=r.front;rw[qp]at q;have A:=q.front;have n:aa B h0 h (ak e s 1 bw rs::(c++(ak e s2 1 bw a::(L2++As)))):=by
  have G:(ak e s 1 bw rs::c++(ak e s2 1 bw a::L2))++As=ak e s 1 bw rs::(c++(ak e s2 1 bw a::(L2++As))):=i9
  rw[<-G];exact A
 have v:Seq h (λb=>b<h.size) s2 1 bw a:=n.seq (ii c+1) (by rw[qw,qj (qm _),zc];rfl) λ_=>rfl;refine n.append z 0 i0 F y i0 i5 (λ_=>rfl) v kh i4 λd h' m=>x d h' ?_;have m:aa B h0 h' ((ak e d 1 bw (rs++a)::c)++(ak e s2 1 bw a::(L2++As))):=m;have D:=aa.aex m;refine aa.He (rs:=rs++a) (by simp[p,l]) ?_;rw[Wa a l2 p,<-g,<-j];have w:(ak e d 1 bw (rs++a)::(c++L2))++As=(ak e d 1 bw (rs++a)::c)++(L2++As):=i9
 rw[w];exact D
end
end Go.Vc
