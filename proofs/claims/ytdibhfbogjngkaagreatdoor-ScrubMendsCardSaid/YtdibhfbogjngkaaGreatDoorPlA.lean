/- Lemmas for the proof of the law; no condition. -/
import Derived.Test.YtdibhfbogjngkaaGreatDoorVcA
import Derived.Sort.Grow
import Derived.Lib.SlicesCompact
import Derived.Lib.RowBridge
set_option linter.unusedVariables false
set_option linter.unusedSimpArgs false
open Nat renaming min_eq_left -> yx
open Array renaming ext' -> yu, getElem?_eq_some_iff -> yD, range -> vV, toList_map -> vJ
open List renaming exists_mem_of_ne_nil -> yI, filter_cons_of_pos -> yZ, getElem?_cons_zero -> yX, getElem?_mapIdx -> vh, getElem?_take -> y7, mem_or_eq_of_mem_set -> wk, range -> qw, replicate -> qg, set_comm -> vo, set_eq_take_append_cons_drop -> w5, take_left -> vU, take_zero -> vB, zipWith -> zh
open Go.Value renaming int -> xi
open Go.IntKind renaming bits -> ql, i64 -> xo, signed -> yY, u32 -> xq, u64 -> xr, u8 -> xp, wrap -> qc
open Go.Builtin renaming append_ -> qu, clear_ -> yV, copy_ -> w8, firstCells -> wG, nextslicecap -> vg, zeroCells -> yo
open Go.Instr renaming alloc -> qP, box -> qO, buildSlice -> qp, fill -> wy, makeSlice -> qG, storeAt -> qf
open Int renaming fdiv -> q9, fdiv_eq_ediv_of_nonneg -> vi, tmod -> wj
open Option renaming some -> zT
open UInt8 renaming lt_iff_toNat_lt -> zY, ofNat -> yB
open Prod renaming fst -> qM
open BitVec renaming ofInt -> qF, ofNat_toNat -> vx, setWidth_eq -> vy
set_option maxRecDepth 100000
open Option renaming some -> dB, none -> eH
open Bool renaming true -> eR, false -> eS
open Go renaming Value -> eX, Addr -> fz
open Go.Vc renaming cellOf -> f7, Heap -> f8
open List renaming length -> i0
namespace Go.Vc
open Go
section
variable {A B:Prop}
theorem ai{p:Prop}[Decidable p](a:p->A)(b:¬p->B):Br (decide p) A B:=by
 by_cases h:p
 ·rw[g9 h];exact a h
 ·rw[hZ h];exact b h
theorem de{a b:Int}(c:a=b->A)(d:a≠b->B):Br (a==b) A B:=by
 by_cases h:a=b
 ·rw[beq_iff_eq.2 h];exact c h
 ·rw[beq_eq_false_iff_ne.2 h];exact d h
theorem bQ{a b:Int}(c:a≠b->A)(d:a=b->B):Br (a !=b) A B:=by
 by_cases h:a=b
 ·rw[show(a !=b)=eS by simp[h]];exact d h
 ·rw[show(a !=b)=eR by simp[h]];exact c h
theorem bD{b:Bool}(a:b=eR->A)(c:b=eS->B):Br b A B:=by
 cases b
 ·exact c i4
 ·exact a i4
theorem bh{b:Bool}(a:b=eS->A)(c:b=eR->B):Br (!b) A B:=by
 cases b
 ·exact a i4
 ·exact c i4
theorem GC{b:Bool}(h:b=eR)(a:A):Br b A B:=by subst h;exact a
theorem xY{b:Bool}(h:b=eS)(a:B):Br b A B:=by subst h;exact a
end
theorem bj{σ:Type}{rest:σ->f8->Prop}{B:(σ->f8->Prop)->Prop}(h:B rest):bg rest B:=⟨rest,λ_ _ x=>x,h⟩
theorem bY{σ:Type}{rest:σ->f8->Prop}{B:(σ->f8->Prop)->Prop}(R:σ->f8->Prop)(a:B R)(b:∀s h,R s h->rest s h):bg rest B:=⟨R,b,a⟩
theorem aw{σ:Type}{B:σ->(σ->f8->Prop)->f8->Prop}{s:σ}{h:f8}{τ:Type}(V:τ->σ)(I:τ->f8->Prop)(μ:τ->Nat)(t0:τ)(e:s=V t0)(d:I t0 h)
  (b:∀t h,I t h->B (V t) (λc h'=>∃a,c=V a/\I a h'/\μ a<μ t) h):aJ B s h:=⟨τ,V,I,μ,t0,e,d,b⟩
abbrev aB:=Nat->Prop
def aY(p:aB)(h h':f8):Prop:=h.size<=h'.size/\∀b,b<h.size->p b->h'[b]?=h[b]?
def Sl.on(s:Sl)(b:Nat):Prop:=∃o,s.ptr=dB ⟨b,o,eH⟩
section
variable {p q:aB} {h h' h'':f8}
theorem aY.refl(p:aB)(h:f8):aY p h h:=⟨qk _,λ_ _ _=>rfl⟩
theorem aY.trans(a:aY p h h')(b:aY p h' h''):aY p h h'':=⟨za a.1 b.1,λk d c=>(b.2 k (q7 d a.1) c).trans (a.2 k d c)⟩
theorem aY.then(a:aY p h h')(b:aY q h' h'')(e:∀k,k<h.size->p k->q k):aY p h h'':=⟨za a.1 b.1,λk c d=>(b.2 k (q7 c a.1) (e k c d)).trans (a.2 k c d)⟩
theorem aY.mono(a:aY p h h')(e:∀b,b<h.size->q b->p b):aY q h h':=⟨a.1,λk c d=>a.2 k c (e k c d)⟩
theorem aY.push(p:aB)(h:f8)(o:Obj):aY p h (h.push o):=⟨jj,λb a _=>by rw[Array.getElem?_push,g0 i5]⟩
theorem vH{a:fz}{v:eX}(b:f7 h a=dB v):a.block<h.size:=by
 unfold f7 at b;cases hb:h[a.block]? with
 |none=>rw[hb]at b;cases b
 |some o=>exact(yD.1 hb).1
theorem lt_of_block{b:Nat}{o:Obj}(a:h[b]?=dB o):b<h.size:=(yD.1 a).1
theorem aY.cell(a:aY p h h'){x:fz}{v:eX}(c:p x.block)(b:f7 h x=dB v):f7 h' x=dB v:=by have:=a.2 _ (vH b) c;unfold f7 at*;rw[this];exact b
theorem aY.block(a:aY p h h'){b:Nat}{o:Obj}(d:p b)(c:h[b]?=dB o):h'[b]?=dB o:=by rw[a.2 b (lt_of_block c) d];exact c
theorem aY.cells(a:aY p h h'){x:fz}(b:p x.block):∀{vs:bc} {i:Nat},an h x i vs->an h' x i vs
 |[],_,_=>trivial
 |v::r,i,hc=>⟨a.cell (by unfold Addr.add;split<;>exact b) hc.1,aY.cells a b hc.2⟩
end
theorem add_eq(b o n:Nat):(⟨b,o,eH⟩:fz).add n=⟨b,o+n,eH⟩:=by
 unfold Addr.add;split
 ·rename_i h;subst h;rfl
 ·rfl
theorem add_zero(a:fz):a.add 0=a:=rfl
theorem Ec{h:f8}{b o:Nat}{c:Array eX}{e:TypeId}{f:Nat×Nat}(a:h[b]?=dB (.cells c e f)):f7 h ⟨b,o,eH⟩=c[o]?:=by unfold f7;rw[a];rfl
theorem adf{h:f8}{b o:Nat}{c:Array eX}{e:TypeId}(a:h[b]?=dB (.cells c e (0,0))):XI h ⟨b,o,eH⟩=eS:=by unfold XI;rw[a];simp
structure Seq {α:Type} (h:f8) (p:aB) (s:Sl) (k:Nat) (f:α->bc) (l:List α):Prop where
 len:s.len=i0 l
 elem:∀i x,l[i]?=dB x->∃b o,s.ptr=dB ⟨b,o,eH⟩/\p b/\an h ⟨b,o+i*k,eH⟩ 0 (f x)
section
variable {α:Type} {h h':f8} {p q:aB} {s:Sl} {k:Nat} {f:α->bc} {l:List α}
theorem Seq.ag(a:Seq h p s k f l)(d:aY p h h'):Seq h' p s k f l:=⟨a.len,λi x g=>by
 obtain⟨b,o,e,c,h3⟩:=a.elem i x g;exact⟨b,o,e,c,d.cells c h3⟩⟩
theorem Seq.mono(a:Seq h p s k f l)(c:∀b,p b->q b):Seq h q s k f l:=⟨a.len,λi x g=>by
 obtain⟨b,o,d,e,h3⟩:=a.elem i x g;exact⟨b,o,d,c b e,h3⟩⟩
theorem Seq.nil(h:f8)(p:aB)(c:Nat)(a:aO)(k:Nat)(f:α->bc):Seq h p ⟨a,0,c⟩ k f []:=⟨i4,λi x b=>by simp at b⟩
theorem Seq.bC{X:Type}{g:X->eX}(c:Seq h p s 1 f l){i:Int}(n:Nat)(m:i=n)(d:n<i0 l)(x:X)(e:f l[n]=[g x]){K:X->Prop}(k:K x):
  ∃a:fz,(s.ptr=dB a/\0<=i/\i<((s.len:Nat):Int))/\∃x:X,f7 h (a.add (i.toNat*1))=dB (g x)/\K x:=by
 subst m;obtain⟨b,o,j,_,h3⟩:=c.elem n l[n] (qd d);refine⟨_,⟨j,i5,p8⟩,x,?_,k⟩;rw[e]at h3;have:=h3.1;rw[add_eq,wV]at this;rw[add_eq];simpa using this
theorem Seq.eJ{X:Type}{g:X->bc}(c:Seq h p s k f l){i:Int}(n:Nat)(q:i=n)(d:n<i0 l)(x:X)(e:f l[n]=g x){K:X->Prop}(m:K x):
  ∃a:fz,(s.ptr=dB a/\0<=i/\i<((s.len:Nat):Int))/\∃x:X,an h (a.add (i.toNat*k)) 0 (g x)/\K x:=by
 subst q;obtain⟨b,o,j,_,h3⟩:=c.elem n l[n] (qd d);refine⟨_,⟨j,i5,p8⟩,x,?_,m⟩;rw[add_eq];rw[e]at h3;simpa using h3
end
def aq(n:Int):bc:=[xi xo n]
def aD(n:UInt8):bc:=[xi xp n.toNat]
def fi(b:Bool):bc:=[.bool b]
def bs(s:Sl):bc:=[.slice s.ptr s.len s.cap]
structure iH {α:Type} (h:f8) (p:aB) (s:Sl) (k:Nat) (f:α->bc) (ll:List (List α)) (rs:List Sl):Prop where
 top:Seq h p s 1 bs rs
 len:i0 rs=i0 ll
 row:∀(i:Nat) (r:Sl) (l:List α),rs[i]?=dB r->ll[i]?=dB l->Seq h p r k f l
section
variable {α:Type} {h h':f8} {p q:aB} {s:Sl} {k:Nat} {f:α->bc} {ll:List (List α)} {rs:List Sl}
theorem iH.ag(a:iH h p s k f ll rs)(b:aY p h h'):iH h' p s k f ll rs:=⟨a.top.ag b,a.len,λi r l c d=>(a.row i r l c d).ag b⟩
theorem iH.mono(a:iH h p s k f ll rs)(c:∀b,p b->q b):iH h q s k f ll rs:=⟨a.top.mono c,a.len,λi r l d e=>(a.row i r l d e).mono c⟩
theorem iH.Ss(a:iH h p s k f ll rs):s.len=i0 ll:=by rw[a.top.len,a.len]
theorem iH.get(c:iH h p s k f ll rs){i:Int}(n:Nat)(j:i=n)(d:n<i0 ll){K:Sl->Prop}(g:∀r,Seq h p r k f ll[n]->rs[n]?=dB r->K r):
  ∃a:fz,(s.ptr=dB a/\0<=i/\i<((s.len:Nat):Int))/\∃x:Sl,f7 h (a.add (i.toNat*1))=dB (.slice x.ptr x.len x.cap)/\K x:=by
 have b:n<i0 rs:=by rw[c.len];exact d
 have e:rs[n]?=dB rs[n]:=qd b;exact c.top.bC n j b rs[n] i4 (g _ (c.row n _ _ e (qd d)) e)
end
structure Own {α:Type} (h:f8) (e:TypeId) (s:Sl) (k:Nat) (f:α->bc) (l:List α):Prop where
 len:s.len=i0 l
 head:(s.ptr=eH/\s.cap=0/\l=[])∨∃b rest,s.ptr=dB ⟨b,0,eH⟩/\h[b]?=dB (.cells (l.flatMap f++rest).toArray e (0,0))/\rest.length=(s.cap-s.len)*k/\s.len<=s.cap
theorem eu{α:Type}{k:Nat}{f:α->bc}(a:∀x,i0 (f x)=k):∀(l:List α),i0 (l.flatMap f)=i0 l*k
 |[]=>jj
 |x::r=>by rw[zg,qy,a,eu a r,zi,zG];omega
theorem KJ{α:Type}{k:Nat}{f:α->bc}(a:∀x,i0 (f x)=k):∀(l:List α) (i:Nat) (x:α),l[i]?=dB x->∃pre post,l.flatMap f=pre++f x++post/\pre.length=i*k
 |y::r,0,x,h=>by simp at h;subst h;exact⟨[],r.flatMap f,jj,jj⟩
 |y::r,i+1,x,h=>by
  obtain⟨pre,post,b,c⟩:=KJ a r i x j7;exact⟨f y++pre,post,oi,by rw[qy,a,c,zG];omega⟩
theorem Cm{h:f8}{b o:Nat}{e:TypeId}{fr:Nat×Nat}:∀{vs pre post:bc} {i:Nat},h[b]?=dB (.cells (pre++vs++post).toArray e fr)->i0 pre=o+i->an h ⟨b,o,eH⟩ i vs
 |[],_,_,_,_,_=>trivial
 |v::r,pre,post,i,hb,hl=>by
  refine⟨?_,Cm (pre:=pre++[v]) (post:=post) (by simpa using hb) i9⟩;rw[add_eq,Ec hb,<-hl];simp
def kt(h:f8)(b:Nat)(o:Obj):f8:=h.setIfInBounds b o
theorem jt{h:f8}{b c:Nat}{o x:Obj}(a:h[b]?=dB x):(kt h b o)[c]?=if b=c then dB o else h[c]?:=by
 unfold kt;rw[Array.getElem?_setIfInBounds];split
 ·rename_i e;subst e;rw[f9 (lt_of_block a)]
 ·rfl
theorem ZT{h:f8}{b o:Nat}{c:Array eX}{e:TypeId}{f:Nat×Nat}{v:eX}(a:h[b]?=dB (.cells c e f)):XJ h ⟨b,o,eH⟩ v=kt h b (.cells (c.setIfInBounds o v) e f):=by
 apply yE;intro i;rw[jt a];simp only[XJ,wz];split
 ·rename_i d;subst d;rw[a];rfl
 ·rfl
theorem ZU(h:f8)(b:Nat)(o a:Obj):kt (kt h b o) b a=kt h b a:=by unfold kt;simp
theorem aY.kt{p:aB}{h:f8}{b:Nat}{o x:Obj}(a:h[b]?=dB x)(d:¬p b):aY p h (kt h b o):=⟨by simp[Go.Vc.kt],λc _ f=>by
 rw[jt a,g0 λe=>d (by rw[e];exact f)]⟩
theorem fX{P:Program}{b o:Nat}{e:TypeId}{K:Unit->f8->Prop}:∀{vs pre old post:bc} {i:Nat} {h:f8},h[b]?=dB (.cells (pre++old++post).toArray e (0,0))->i0 old=i0 vs->i0 pre=o+i->
  (∀v∈vs,v.oneCell'=eR)->K () (kt h b (.cells (pre++vs++post).toArray e (0,0)))->af P (storeCells ⟨b,o,eH⟩ vs i) h K
 |[],pre,old,post,i,h,hb,hl,hp,hv,hk=>by
  have:old=[]:=q8 (by simpa using hl);subst this;refine af.pure' ?_;have f:kt h b (.cells (pre++[]++post).toArray e (0,0))=h:=by
   apply yE;intro c;rw[jt hb];split
   ·rename_i d;subst d;exact hb.symm
   ·rfl
  rw[f]at hk;exact hk
 |v::r,pre,old,post,i,h,hb,hl,hp,hv,hk=>by
  cases old with
  |nil=>simp at hl
  |cons u old=>
   simp only[storeCells];refine af.bind ?_;rw[add_eq];have d:f7 h ⟨b,o+i,eH⟩=dB u:=by rw[Ec hb,<-hp];simp
   refine af.ahe (hv v jj) d (adf hb) ?_;rw[ZT hb];have a:(pre++(u::old)++post).toArray.setIfInBounds (o+i) v=((pre++[v])++old++post).toArray:=by rw[<-hp];apply yu;simp
   rw[a];refine fX (e:=e) (pre:=pre++[v]) (old:=old) (post:=post) ?_ (by simpa using hl) i9 (λx g=>hv x pa) ?_
   ·rw[jt hb,f9 rfl]
   ·rw[ZU];simpa using hk
theorem Oq{P:Program}{h:f8}{a:fz}{vs:bc}{n:Nat}{K:Array eX->f8->Prop}(b:i0 vs=n)(e:an h a 0 vs)(c:K vs.toArray h):af P (loadCells a n) h K:=λw d=>by
 subst d;refine⟨vs.toArray,w,?_,dm.refl w,c⟩;have:=run_loadCells (P:=P) (w:=w) (a:=a) vs 0 #[] e;rw[b]at this;unfold loadCells;rw[this];simp
section
variable {α:Type} {h h':f8} {p:aB} {e:TypeId} {s:Sl} {k:Nat} {f:α->bc} {l:List α}
theorem Own.lt(c:Own h e s k f l){b:Nat}(a:s.on b):b<h.size:=by
 rcases c.head with⟨h1,_,_⟩|⟨b',rest,h1,h2,_,_⟩
 ·obtain⟨o,h0⟩:=a;rw[h1]at h0;cases h0
 ·obtain⟨o,h0⟩:=a;rw[h1]at h0;cases h0;exact lt_of_block h2
theorem Own.ag(c:Own h e s k f l)(d:aY p h h')(a:∀b,s.on b->p b):Own h' e s k f l:=⟨c.len,by
 rcases c.head with h1|⟨b,rest,h1,h2,h3,h4⟩
 ·exact .inl h1
 ·exact .inr ⟨b,rest,h1,d.block (a b ⟨0,h1⟩) h2,h3,h4⟩⟩
theorem Own.seq(c:Own h e s k f l)(g:∀x,i0 (f x)=k)(a:∀b,s.on b->p b):Seq h p s k f l:=⟨c.len,λi x d=>by
 rcases c.head with⟨_,_,h1⟩|⟨b,rest,h1,h2,h3,h4⟩
 ·subst h1;simp at d
 ·obtain⟨pre,post,j,m⟩:=KJ g l i x d;refine⟨b,0,h1,a b ⟨0,h1⟩,Cm (e:=e) (fr:=(0,0)) (pre:=pre) (post:=post++rest) ?_ i5⟩;rw[h2,j];simp⟩
theorem Own.nil(h:f8)(e:TypeId)(k:Nat)(f:α->bc):Own h e ⟨eH,0,0⟩ k f []:=⟨i4,.inl ⟨i4,i4,i4⟩⟩
theorem Own.cap(a:Own h e s k f l):s.len<=s.cap:=by
 rcases a.head with⟨h1,h2,h3⟩|⟨b,rest,h1,h2,h3,h4⟩
 ·have:=a.len;rw[h3]at this;simp at this;omega
 ·exact h4
end
theorem af.always{α:Type}{P:Program}{s:Sem α}{v:α}{h:f8}{K:α->f8->Prop}(b:aL P s v)(a:K v h):af P s h K:=λw c=>⟨v,w,b w,dm.refl w,by rw[c];exact a⟩
structure cj (C:CU) (t e k:Nat) (z:bc) (by_:Nat):Prop where
 ex:∃i j,C.T.get t=dB i/\i.dc=.slice e/\C.T.get e=dB j/\j.size=k/\j.zero=z/\j.bytes=by_
section
variable {C:Ctx} {t e k:Nat} {z:bc} {by_:Nat}
theorem cj.under(d:cj C.toCU t e k z by_)(c:C.Ok):C.P.underlying t=dB (.slice e):=by obtain⟨i,j,a,b,_⟩:=d.ex;have:=c.dc a;rw[b]at this;exact kC this
theorem cj.size(d:cj C.toCU t e k z by_)(c:C.Ok):aL C.P (sizeOf e) k:=by obtain⟨i,j,_,_,a,b,_⟩:=d.ex;rw[<-b];exact ee c.toOk a
theorem cj.info(m:cj C.toCU t e k z by_)(l:C.Ok):∃f,C.P.info? e=dB f/\f.size=k/\f.bytes=by_/\∃a,f.zero=dB a/\a.cells=z.toArray:=by obtain⟨i,j,_,_,d,h,h3,p⟩:=m.ex;obtain⟨f,b,c,n,a,o,g⟩:=l.info d;exact⟨f,b,c.trans h,n.trans p,a,o,by apply yu;rw[g,h3]⟩
end
def jd(z:bc):Nat->bc
 |0=>[]
 |n+1=>z++jd z n
theorem oN(z:bc):∀n,i0 (jd z n)=n*i0 z
 |0=>by simp[jd]
 |n+1=>by rw[jd,qy,oN z n,zG];omega
theorem Su(z:bc):∀(n i:Nat),i<n*i0 z->(jd z n)[i]?=z[i%i0 z]?
 |0,i,h=>m6
 |n+1,i,h=>by
  have a:0<i0 z:=Nat.pos_of_ne_zero λe=>by rw[e]at h;simp at h
  rw[jd];by_cases b:i<i0 z
  ·rw[qo b,Nat.mod_eq_of_lt b]
  ·rw[qj i5,Su z n (i-i0 z) (by rw[zG]at h;omega)];congr 1
   conv=>rhs;rw[show i=(i-i0 z)+i0 z by omega,Nat.add_mod_right]
theorem Sv(z:bc)(n m:Nat)(c:m=n*i0 z):((vV m).map λi=>z.toArray[i%z.toArray.size]!)=(jd z n).toArray:=by
 apply yE;intro i;subst c;simp only[Array.getElem?_map,Array.getElem?_range,wc];by_cases b:i<n*i0 z
 ·rw[Su z n i b];have a:0<i0 z:=Nat.pos_of_ne_zero λe=>by rw[e]at b;simp at b
  have:=yw i a;simp[b,this]
 ·rw[qV (by rw[oN];omega)];simp[b]
theorem GD(z:bc)(n:Nat):yo z.toArray n=(jd z n).toArray:=Sv z n _ jj
theorem WW(a:Nat):∀(r c:Nat),Builtin.growBy a r c<=(c+768)*2^r
 |0,c=>by simp[Builtin.growBy]
 |r+1,c=>by
  unfold Builtin.growBy;split
  ·exact za (Nat.le_add_right c 768) (Nat.le_mul_of_pos_right _ (Nat.two_pow_pos _))
  ·refine za (WW a r _) ?_;rw[Nat.pow_succ,Nat.mul_comm (2^r) 2,<-Nat.mul_assoc];exact zt _ i5
theorem aiG(o n:Nat)(h:o<n):(o+768)*2^4<=16*n+16*768:=i5
theorem WX(a b:Nat)(h:b<a:=by omega):vg a b<=16*a+16*768:=by
 unfold vg;split
 ·omega
 ·split
  ·omega
  ·exact za (WW a 4 b) (aiG _ _ h)
section
variable {C:Ctx} {t t2 e k:Nat} {z:bc} {by_:Nat} {α:Type} {h:f8} {p:aB} {s v:Sl} {f:α->bc} {l l2:List α}
theorem iP{P:Program}{K:Array eX->f8->Prop}(t:∀x,i0 (f x)=k)(g:Seq h p v k f l)(s:K (l.flatMap f).toArray h):
  af P (wG k v.len (.slice v.ptr v.len v.cap)) h K:=by
 cases hp:v.ptr with
 |none=>
  have:l=[]:=by
   cases l with
   |nil=>rfl
   |cons x r=>obtain⟨b,o,c,_⟩:=g.elem 0 x jj;rw[hp]at c;cases c
  subst this;exact af.pure' s
 |some a=>
  refine Oq (by rw[eu t,<-g.len]) ?_ s;cases l with
  |nil=>trivial
  |cons w r0=>
   obtain⟨b,o,c,_,_⟩:=g.elem 0 w jj;rw[hp]at c;cases c;have j:∀(r:List α) (n:Nat),(∀i x,r[i]?=dB x->an h ⟨b,o+(n+i)*k,eH⟩ 0 (f x))->an h ⟨b,o,eH⟩ (n*k) (r.flatMap f):=by
    intro r
    induction r with
    |nil=>intro n _;trivial
    |cons x r ih=>
     intro n q;have h0:=q 0 x jj;have e:=ih (n+1) (λi y z=>by have:=q (i+1) y (by simpa using z);rw[show n+1+i=n+(i+1)by omega];exact this);rw[zg];have app:∀(us vs:bc) (i:Nat),an h ⟨b,o,eH⟩ i us->an h ⟨b,o,eH⟩ (i+i0 us) vs->an h ⟨b,o,eH⟩ i (us++vs):=by
      intro us
      induction us with
      |nil=>intro vs i _ e;simpa using e
      |cons u us ih=>intro vs i c e;exact⟨c.1,ih vs (i+1) c.2 (by rw[show i+1+i0 us=i+(i0 us+1)by omega];exact e)⟩
     refine app _ _ _ ?_ (by rw[t,<-zG];exact e);have d:∀(us:bc) (i m:Nat),an h ⟨b,o+m,eH⟩ i us->an h ⟨b,o,eH⟩ (m+i) us:=by
      intro us
      induction us with
      |nil=>intros;trivial
      |cons u us ih=>
       intro i m c;refine⟨?_,ih (i+1) m c.2⟩;have:=c.1;rw[add_eq]at this⊢;rw[<-w9];exact this
     have:=d (f x) 0 ((n+0)*k) h0;simpa using this
   have:=j (w::r0) 0 (λi x A=>by
    obtain⟨D,B,c,_,h3⟩:=g.elem i x A;rw[hp]at c;cases c;simpa using h3)
   simpa using this
theorem XS(y:C.Ok)(Q:cj C.toCU t e k z by_)(h2:∃i e2,C.T.get t2=dB i/\i.dc=.slice e2)(Z:i0 z=k)(D:0<by_/\by_<=128)(m:∀x,i0 (f x)=k)
  (A:Own h e s k f l) (L:Seq h p v k f l2) (n:∀x,∀c∈f x,c.oneCell'=eR) (ah:i0 l+i0 l2<=2^32) {ty:Nat} {K:Sl->f8->Prop}
  (G:∀O h',Own h' e O k f (l++l2)->aY (λb=>¬s.on b) h h'->(∀b,O.on b->s.on b∨h.size<=b)->K O h'):
  aA C.P (qu #[t,t2] ty #[.slice s.ptr s.len s.cap,.slice v.ptr v.len v.cap]) (.one (.sc .slc)) h K:=by
 obtain⟨i2,e2,g1,g2⟩:=h2;have I:C.P.underlying t2=dB (.slice e2):=by have:=y.dc g1;rw[g2]at this;exact kC this
 obtain⟨F,w,x2,x3,zv,x4,U⟩:=Q.info y;unfold aA qu;simp only[wc,yX,qB];refine af.bind (af.always (aU (Q.under y)) ?_);refine af.bind (af.always (Q.size y) ?_);refine af.bind (af.always (aU I) ?_);refine af.bind (af.pure' ?_);simp only[zj,if_false,ya,if_true];refine af.bind (af.pure' ?_);have q:=A.len;have B:=L.len;by_cases d:s.len+v.len<=s.cap
 ·rw[f9 d];refine af.bind (iP m L ?_);rcases A.head with⟨p1,p2,p3⟩|⟨b,rest,p1,p2,p3,p4⟩
  ·rw[p1];have H:l2=[]:=q8 i5;subst H;refine af.pure' ⟨⟨eH,s.len+v.len,s.cap⟩,i4,G _ _ ⟨?_,.inl ⟨i4,p2,by simp[p3]⟩⟩ (aY.refl _ _) ?_⟩
   ·simp;omega
   ·rintro R ⟨o,g⟩;cases g
  ·rw[p1];refine af.bind ?_;rw[add_eq,wJ];have j:=eu m l;have a:=eu m l2;have E:i0 (l2.flatMap f)<=i0 rest:=by rw[a,p3];exact zt k i5
   refine fX (e:=e) (pre:=l.flatMap f) (old:=rest.take (l2.flatMap f).length) (post:=rest.drop (l2.flatMap f).length) ?_ ?_ ?_ ?_ ?_
   ·rw[qq,qK];exact p2
   ·rw[zb];exact yx E
   ·rw[j,q];omega
   ·intro c W;obtain⟨x,_,J⟩:=zD.1 W;exact n x c J
   ·refine af.pure' ⟨⟨dB ⟨b,0,eH⟩,s.len+v.len,s.cap⟩,i4,G _ _ ⟨?_,.inr ⟨b,rest.drop (l2.flatMap f).length,i4,?_,?_,d⟩⟩ ?_ ?_⟩
    ·simp;omega
    ·rw[jt p2,f9 rfl];simp
    ·rw[ze,p3,a,<-Nat.sub_mul];show(s.cap-s.len-i0 l2)*k=(s.cap-(s.len+v.len))*k;congr 1;omega
    ·exact aY.kt p2 (λX=>X ⟨0,p1⟩)
    ·rintro R ⟨o,g⟩;cases g;exact .inl ⟨0,p1⟩
 ·rw[g0 d];have u:Seq h (λ_=>True) s k f l:=A.seq m λ_ _=>trivial;have S:=A.cap;refine af.bind (af.always (dv w) ?_);rw[g0 λhh=>by rcases hh.2 with h|h<;>first|exact h|(rw[x3]at h;omega)];refine af.bind (af.always (dv w) ?_);have ad:=WX (s.len+v.len) s.cap;rw[g0 (by
   have:vg (s.len+v.len) s.cap*F.bytes<=(16*2^32+16*768)*128:=z7 i5 (by rw[x3];exact D.2);omega)]
  refine af.bind (af.Ol ⟨λV=>(by cases V),λ_ Y=>?_⟩);refine af.bind (af.always (dv w) ?_);refine af.bind (af.KD ?_);refine af.bind (iP m u ?_);refine af.bind (iP m L ?_);have N:aL C.P (zeroValue e) zv:=(dv w).bind (by rw[x4];exact .pure);refine af.bind (af.always N ?_);rw[U,GD];unfold newRow;refine af.bind (af.bind (af.sj (af.pure' (af.pure' ?_))));generalize M:Question.cut (Question.appendCap (s.len+v.len) s.cap e) Y=cc;have r:s.len+v.len<=cc:=by rw[<-M];simp only[Question.cut];omega
  refine⟨⟨dB ⟨h.size,0,eH⟩,s.len+v.len,cc⟩,i4,G _ _ ⟨?_,.inr ⟨h.size,jd z (cc-(s.len+v.len)),i4,?_,?_,r⟩⟩ (aY.push _ _ _) ?_⟩
  ·simp;omega
  ·simp
  ·rw[oN,Z]
  ·rintro R ⟨o,g⟩;cases g;exact .inr (qk _)
end
structure cv (h:f8) (a:fz) (e:TypeId) (cs:bc):Prop where
 off:a.off=0
 spot:a.spot=eH
 fP:h[a.block]?=dB (.cells cs.toArray e (0,0))
section
variable {h h':f8} {a:fz} {e:TypeId} {cs:bc} {p:aB}
theorem cv.addr(c:cv h a e cs):a=⟨a.block,0,eH⟩:=by
 obtain⟨b,o,s⟩:=a;have:=c.off;have:=c.spot
 simp_all
theorem cv.ag(b:cv h a e cs)(d:aY p h h')(c:p a.block):cv h' a e cs:=⟨b.off,b.spot,d.block c b.fP⟩
theorem cv.lt(b:cv h a e cs):a.block<h.size:=lt_of_block b.fP
theorem cv.cell(b:cv h a e cs){j:Nat}{v:eX}(c:cs[j]?=dB v):f7 h (a.add j)=dB v:=by rw[b.addr,add_eq,Ec b.fP];simpa using c
theorem cv.cell0(b:cv h a e cs){v:eX}(c:cs[0]?=dB v):f7 h a=dB v:=b.cell (j:=0) c
theorem cv.cells(c:cv h a e cs)(j:Nat)(vs:bc)(d:(cs.drop j).take vs.length=vs):an h (a.add j) 0 vs:=by
 rw[c.addr,add_eq,wJ];have b:i0 vs<=i0 (cs.drop j):=by have:=congrArg List.length d;rw[zb]at this;omega
 rcases Nat.lt_or_ge cs.length j with hj|hj
 ·rw[ze]at b;have:vs=[]:=q8 i5;subst this;trivial
 ·refine Cm (e:=e) (fr:=(0,0)) (pre:=cs.take j) (post:=(cs.drop j).drop vs.length) ?_ i9;have:cs.take j++vs++(cs.drop j).drop vs.length=cs:=by
   conv=>lhs;rw[qq];arg 2;arg 1;rw[<-d]
   rw[qK,qK]
  rw[this];exact c.fP
theorem cv.aS(b:cv h a e cs)(vs:bc)(c:cs.take vs.length=vs):an h a 0 vs:=b.cells 0 vs c
end
section
variable {C:Ctx} {t:Nat} {i:TI} {h:f8}
theorem Bx(e:C.Ok)(f:C.T.get t=dB i){K:fz->f8->Prop}(d:∀a h',a.block=h.size->cv h' a t i.zero->aY (λ_=>True) h h'->h'.size=h.size+1->K a h'):
  aQ C.P (qP t eR (.tuple #[])) h K:=by
 obtain⟨z,c,b⟩:=sY e.toOk f;unfold aQ qP;refine af.bind (af.always c ?_);refine af.bind (af.bind (af.bind (af.sj (af.pure' (af.pure' (af.pure' ?_))))));refine⟨⟨h.size,0,eH⟩,i4,d _ _ i4 ⟨i4,i4,?_⟩ (aY.push _ _ _) jj⟩;rw[<-b];simp
theorem WY{v:eX}{P:Program}{K:fz->f8->Prop}(b:∀a h',a.block=h.size->cv h' a t v.cells.toList->aY (λ_=>True) h h'->h'.size=h.size+1->K a h'):
  aQ P (qO t v) h K:=by
 unfold aQ qO;refine af.bind (af.bind (af.bind (af.sj (af.pure' (af.pure' (af.pure' ?_))))));refine⟨⟨h.size,0,eH⟩,i4,b _ _ i4 ⟨i4,i4,?_⟩ (aY.push _ _ _) jj⟩;simp
theorem run_store(m:C.Ok){a:fz}{e:TypeId}{b:bc}(c:cv h a e b)(n:C.T.get t=dB i)(off:Nat){v:eX}(vs:bc)(o:v.cells=vs.toArray)(f:i.size=i0 vs)
  (d:vs.all (·.oneCell')=eR) (g:off+i0 vs<=i0 b) {K:Unit->f8->Prop}
  (j:∀h',cv h' a e (b.take off++vs++b.drop (off+i0 vs))->aY (·≠a.block) h h'->h'.size=h.size->K () h'):
  af C.P (qf t (.pointer (dB (a.add off))) v) h K:=by
 have k:=c.addr;unfold qf;refine af.bind (af.pure' ?_);unfold storeVar;refine af.bind (af.always (ee m.toOk n) ?_);rw[o,f];simp only[yb,ne_eq,not_true,if_false];rw[k,add_eq,wJ];refine fX (e:=e) (pre:=b.take off) (old:=(b.drop off).take vs.length) (post:=b.drop (off+i0 vs)) ?_ ?_ ?_ ?_ ?_
 ·have:b.take off++(b.drop off).take vs.length++b.drop (off+i0 vs)=b:=by rw[<-zN,qq,qK,qK]
  rw[this];exact c.fP
 ·simp;omega
 ·simp;omega
 ·intro x l;have:=qL.1 d x l;exact this
 ·refine j _ ⟨c.off,c.spot,?_⟩ (aY.kt c.fP jj) (by simp[kt]);rw[jt c.fP,f9 rfl]
theorem Ed(k:C.Ok){a:fz}{e:TypeId}{c:bc}(g:cv h a e c)(l:C.T.get t=dB i){v:eX}(vs:bc)(m:v.cells=vs.toArray)(d:i.size=i0 vs)
  (b:vs.all (·.oneCell')=eR) (f:i0 vs<=i0 c) {K:Unit->f8->Prop}
  (j:∀h',cv h' a e (vs++c.drop vs.length)->aY (·≠a.block) h h'->h'.size=h.size->K () h'):
  af C.P (qf t (.pointer (dB a)) v) h K:=
 run_store k g l 0 vs m d b i5 (λh' x y z=>j h' (by simpa using x) y z)
end
section
variable {C:Ctx} {t e k:Nat} {z:bc} {by_:Nat} {α:Type} {h:f8} {p:aB} {s v:Sl} {f:α->bc} {l l2:List α}
theorem GF{a:α}(b:f a=z):∀n,jd z n=(qg n a).flatMap f
 |0=>rfl
 |n+1=>by rw[jd,List.replicate_succ,zg,b,GF b n]
theorem ak(x:Int)(b:-9223372036854775808<=x:=by omega)(c:x<=9223372036854775807:=by omega):qc xo x=x:=by
 show(if(eR&&decide (x%2^64>=2^63))=eR then x%2^64-2^64 else x%2^64)=x;by_cases a:x%2^64>=2^63
 ·rw[f9 (by rw[zJ];exact g9 a)];omega
 ·rw[g0 (by rw[zJ];exactλh=>a (ii h))];omega
theorem run_make(w:C.Ok)(y:cj C.toCU t e k z by_)(l:0<by_/\by_<=128)(r:α)(B:f r=z)(d:i0 z=k){I L:IntKind}{n c:Int}(m b:Nat)(F:n=m)(E:c=b)(s:m<=b)(q:b<=2^32)
  {K:Sl->f8->Prop} (G:∀j h',Own h' e j k f (qg m r)->j.ptr=dB ⟨h.size,0,eH⟩->j.cap=b->aY (λ_=>True) h h'->h'.size=h.size+1->K j h'):
  aA C.P (qG t (.int I n) (.int L c)) (.one (.sc .slc)) h K:=by
 subst F;subst E;obtain⟨p,A,x2,x3,N,J,D⟩:=y.info w;unfold aA qG;refine af.bind (af.always (aU (y.under w)) ?_);refine af.bind (af.pure' ?_);refine af.bind (af.pure' ?_);refine af.bind (af.always (dv A) ?_);have H:qc xo (m:Int)=m:=ak _;have M:qc xo (b:Int)=b:=ak _;have O:¬((p.bytes:Int)*(b:Int)>2^48):=by
  rw[x3];have:by_*b<=128*2^32:=z7 l.2 q;have:((by_:Int)*(b:Int))<=((128*2^32:Nat):Int):=by exact_mod_cast this
  omega
 simp only[H,M];rw[g0 i9];refine af.bind (af.KD ?_);refine af.bind (af.always (y.size w) ?_);have u:aL C.P (zeroValue e) N:=(dv A).bind (by rw[J];exact .pure);have fin:∀g:Array eX,(b*k≠0->g=z.toArray)->af C.P (do
   let a<-newRow e ((vV (b*k)).map (g[·%g.size]!))
   pure (Value.slice (dB a) m b)) h (λv h'=>∃x:(Rt.one (.sc .slc)).den,v=(Rt.one (.sc .slc)).enc x/\K x h'):=by
  intro g o;have i:((vV (b*k)).map (g[·%g.size]!))=(jd z b).toArray:=by
   by_cases h0:b*k=0
   ·rw[h0];have:jd z b=[]:=q8 (by rw[oN,d,h0]);rw[this];simp
   ·rw[o h0];exact Sv z b _ (by rw[d])
  rw[i];refine af.bind (af.bind (af.sj (af.pure' (af.pure' ?_))));refine⟨⟨dB ⟨h.size,0,eH⟩,m,b⟩,i4,G _ _ ⟨jj,.inr ⟨h.size,jd z (b-m),i4,?_,?_,s⟩⟩ i4 i4 (aY.push _ _ _) jj⟩
  ·have:jd z b=(qg m r).flatMap f++jd z (b-m):=by rw[GF B,GF B,<-zk,List.replicate_append_replicate];congr 2;omega
   rw[this];simp
  ·rw[oN,d]
 simp only[qm];by_cases h0:b*k=0
 ·rw[f9 h0];exact af.bind (af.pure' (fin _ λh=>absurd h0 h))
 ·rw[g0 h0];refine af.bind (af.always u ?_);exact af.bind (af.pure' (fin _ λ_=>D))
theorem Ot(p:C.Ok)(q:cj C.toCU t e k z by_)(d:i0 z=k){n:Nat}{parts:Array (Nat×eX)}(l:List α)(u:i0 l=n)(D:n*k<=2^20)
  (b:wy (λi=>dB (i*k,k)) (jd z n).toArray parts.toList=dB (l.flatMap f).toArray) {K:Sl->f8->Prop}
  (w:∀o h',Own h' e o k f l->o.ptr=dB ⟨h.size,0,eH⟩->aY (λ_=>True) h h'->h'.size=h.size+1->K o h'):
  aA C.P (qp t n parts) (.one (.sc .slc)) h K:=by
 obtain⟨y,r,x2,x3,B,A,s⟩:=q.info p;unfold aA qp;refine af.bind (af.always (aU (q.under p)) ?_);refine af.bind (af.always (q.size p) ?_);rw[g0 i5];have m:aL C.P (zeroValue e) B:=(dv r).bind (by rw[A];exact .pure);have fin:∀c:Array eX,(n*k≠0->c=z.toArray)->af C.P (do
   let dB cells:=wy (λi=>dB (i*k,k)) ((vV (n*k)).map (c[·%c.size]!)) parts.toList
    |stuck "buildSlice: a part of the wrong size"
   pure (Value.slice (dB (<-newRow e cells)) n n)) h (λv h'=>∃x:(Rt.one (.sc .slc)).den,v=(Rt.one (.sc .slc)).enc x/\K x h'):=by
  intro c j;have g:((vV (n*k)).map (c[·%c.size]!))=(jd z n).toArray:=by
   by_cases h0:n*k=0
   ·rw[h0];have:jd z n=[]:=q8 (by rw[oN,d,h0]);rw[this];simp
   ·rw[j h0];exact Sv z n _ (by rw[d])
  rw[g,b];refine af.bind (af.bind (af.sj (af.pure' (af.pure' ?_))));refine⟨⟨dB ⟨h.size,0,eH⟩,n,n⟩,i4,w _ _ ⟨u.symm,.inr ⟨h.size,[],i4,jj,jj,qk _⟩⟩ i4 (aY.push _ _ _) jj⟩
 by_cases h0:n*k=0
 ·rw[f9 h0];exact af.bind (af.pure' (fin _ λh=>absurd h0 h))
 ·rw[g0 h0];refine af.bind (af.always m ?_);exact af.bind (af.pure' (fin _ λ_=>s))
theorem Own.set{i:TI}(E:C.Ok)(v:Own h e s k f l)(p:∀x,i0 (f x)=k)(F:C.T.get t=dB i){x:Int}(n:Nat)(B:x=n)(q:n<i0 l){o:eX}(y:α)(G:o.cells=(f y).toArray)(u:i.size=k)
  (j:(f y).all (·.oneCell')=eR) {K:f8->Prop} (A:∀h',Own h' e s k f (l.set n y)->aY (λb=>¬s.on b) h h'->h'.size=h.size->K h'):
  ∃a:fz,(s.ptr=dB a/\0<=x/\x<((s.len:Nat):Int))/\af C.P (qf t (.pointer (dB (a.add (x.toNat*k)))) o) h λ_ h'=>K h':=by
 subst B;rcases v.head with⟨_,_,h3⟩|⟨b,rest,h1,h2,h3,h4⟩
 ·subst h3;simp at q
 ·refine⟨_,⟨h1,i5,by rw[v.len];omega⟩,?_⟩;unfold qf;refine af.bind (af.pure' ?_);unfold storeVar;refine af.bind (af.always (ee E.toOk F) ?_);rw[G,u];have r:=p y;simp only[yb,r,ne_eq,not_true,if_false];rw[add_eq,wJ,qm];have d:l=l.take n++l[n]::l.drop (n+1):=by rw[<-qQ q,qK]
  have m:l.set n y=l.take n++y::l.drop (n+1):=w5.trans (f9 q);have g:i0 ((l.take n).flatMap f)=n*k:=by rw[eu p,zb,yx i5]
  refine fX (e:=e) (pre:=(l.take n).flatMap f) (old:=f l[n]) (post:=(l.drop (n+1)).flatMap f++rest) ?_ ?_ ?_ ?_ ?_
  ·have:l.flatMap f++rest=(l.take n).flatMap f++f l[n]++((l.drop (n+1)).flatMap f++rest):=by have w:=congrArg (List.flatMap f) d;rw[zk,zg]at w;rw[w];simp
   rw[<-this];exact h2
  ·rw[p,p]
  ·rw[g];omega
  ·intro c z;have:=qL.1 j c z;exact this
  ·refine A _ ⟨by rw[zA];exact v.len,.inr ⟨b,rest,h1,?_,h3,h4⟩⟩ (aY.kt h2 λD=>D ⟨0,h1⟩) (by simp[kt]);rw[jt h2,f9 i4,m];simp
end
def grow(c:Nat->Nat)(n i:Nat):Nat->Nat:=λb=>if b<n then c b else i
theorem gF{c:Nat->Nat}{n i b:Nat}(h:b<n):grow c n i b=c b:=f9 h
theorem so{c:Nat->Nat}{n i b:Nat}(h:n<=b:=by omega):grow c n i b=i:=g0 i5
structure dO {α:Type} (h:f8) (c:Nat->Nat) (i:Nat) (e:TypeId) (s:Sl) (k:Nat) (f:α->bc) (l:List α):Prop where
 own:Own h e s k f l
 bv:∀b,s.on b->c b=i
structure kV (h:f8) (c:Nat->Nat) (i:Nat) (a:fz) (e:TypeId) (cs:bc):Prop where
 box:cv h a e cs
 bv:c a.block=i
structure nc (h0 h:f8) (c:Nat->Nat):Prop where
 ag:aY (λb=>b<h0.size) h0 h
 bv:∀b,b<h0.size->c b=0
section
variable {α:Type} {h h' h0:f8} {c:Nat->Nat} {i j n m:Nat} {e:TypeId} {s:Sl} {k:Nat} {f:α->bc} {l:List α} {a:fz} {cs:bc}
theorem dO.keep(d:dO h c j e s k f l)(n:aY (λb=>c b≠i) h h')(g:j≠i):dO h' (grow c h.size m) j e s k f l:=
 ⟨d.own.ag n λb a=>by rw[d.bv b a];exact g,λb a=>by rw[gF (d.own.lt a)];exact d.bv b a⟩
theorem kV.keep(d:kV h c j a e cs)(g:aY (λb=>c b≠i) h h')(f:j≠i):kV h' (grow c h.size m) j a e cs:=
 ⟨d.box.ag g (by rw[d.bv];exact f),by rw[gF d.box.lt];exact d.bv⟩
theorem nc.keep(d:nc h0 h c)(e:aY (λb=>c b≠i) h h')(f:i≠0):nc h0 h' (grow c h.size m):=
 ⟨d.ag.then e λb a _=>by rw[d.bv b a];exact f.symm,λb a=>by rw[gF (q7 a d.ag.1)];exact d.bv b a⟩
theorem nc.refl(h:f8):nc h h (λ_=>0):=⟨aY.refl _ _,λ_ _=>rfl⟩
theorem dO.seq(a:dO h c j e s k f l)(d:∀x,i0 (f x)=k):Seq h (λb=>c b=j) s k f l:=a.own.seq d a.bv
theorem dO.XT(a:dO h c j e s k f l)(g:∀x,i0 (f x)=k):Seq h (λb=>b<h.size) s k f l:=a.own.seq g λ_ d=>a.own.lt d
theorem dO.nil(h:f8)(c:Nat->Nat)(i:Nat)(e:TypeId)(k:Nat)(f:α->bc):dO h c i e ⟨eH,0,0⟩ k f []:=⟨Own.nil h e k f,λb a=>by obtain⟨o,d⟩:=a;cases d⟩
theorem aY.bv(a:aY (λ_=>True) h h')(c:Nat->Nat)(i:Nat):aY (λb=>c b≠i) h h':=a.mono λ_ _ _=>trivial
end
section
variable {α:Type} {C:Ctx} {h h' h0:f8} {c:Nat->Nat} {i:Nat} {e t t2:Nat} {s v:Sl} {k by_:Nat} {f:α->bc} {l l2:List α} {a:fz} {cs z:bc} {p:aB} {ti:TI}
theorem vO(e:C.Ok)(_:nc h0 h c)(i:Nat)(f:C.T.get t=dB ti){K:fz->f8->Prop}(d:∀a h',kV h' (grow c h.size i) i a t ti.zero->aY (λb=>c b≠i) h h'->K a h'):
  aQ C.P (qP t eR (.tuple #[])) h K:=
 Bx e f λa h' x y z _=>d a h' ⟨y,by rw[so]⟩ (z.bv c i)
theorem Sw(P:Program)(_:nc h0 h c)(i:Nat){v:eX}{K:fz->f8->Prop}(d:∀a h',kV h' (grow c h.size i) i a t v.cells.toList->aY (λb=>c b≠i) h h'->K a h'):
  aQ P (qO t v) h K:=
 WY λa h' x y z _=>d a h' ⟨y,by rw[so]⟩ (z.bv c i)
theorem kV.store(n:C.Ok)(g:kV h c i a e cs)(o:C.T.get t=dB ti)(off:Nat){v:eX}(vs:bc)(p:v.cells=vs.toArray)(k:ti.size=i0 vs)
  (d:vs.all (·.oneCell')=eR) (f:off+i0 vs<=i0 cs) {K:Unit->f8->Prop}
  (l:∀h',kV h' (grow c h.size i) i a e (cs.take off++vs++cs.drop (off+i0 vs))->aY (λb=>c b≠i) h h'->K () h'):
  af C.P (qf t (.pointer (dB (a.add off))) v) h K:=
 run_store n g.box o off vs p k d f λh' x y z=>l h' ⟨x,by rw[gF g.box.lt];exact g.bv⟩ (y.mono λb _ j m=>j (by rw[m];exact g.bv))
theorem kV.lE(l:C.Ok)(j:kV h c i a e cs)(m:C.T.get t=dB ti){v:eX}(vs:bc)(n:v.cells=vs.toArray)(f:ti.size=i0 vs)
  (d:vs.all (·.oneCell')=eR) (g:i0 vs<=i0 cs) {K:Unit->f8->Prop}
  (k:∀h',kV h' (grow c h.size i) i a e (vs++cs.drop vs.length)->aY (λb=>c b≠i) h h'->K () h'):
  af C.P (qf t (.pointer (dB a)) v) h K:=
 j.store l m 0 vs n f d i5 (λh' x y=>k h' (by simpa using x) y)
theorem By(B:C.Ok)(_:nc h0 h c)(i:Nat)(f:α->bc)(E:cj C.toCU t e k z by_)(d:0<by_/\by_<=128)(l:α)(u:f l=z)(g:i0 z=k){A D:IntKind}{n p:Int}(m:Nat)(s:n=m)(r:p=m)(j:m<=2^32)
  {K:Sl->f8->Prop} (v:∀a h',dO h' (grow c h.size i) i e a k f (qg m l)->aY (λb=>c b≠i) h h'->K a h'):
  aA C.P (qG t (.int A n) (.int D p)) (.one (.sc .slc)) h K:=
 run_make B E d l u g m m s r (qk _) j λa h' x y _ z _=>v a h' ⟨x,λb w=>by obtain⟨o,q⟩:=w;rw[y]at q;cases q;rw[so (qk _)]⟩ (z.bv c i)
theorem KK(s:C.Ok)(_:nc h0 h c)(i:Nat)(f:α->bc)(u:cj C.toCU t e k z by_)(g:i0 z=k){n:Nat}{parts:Array (Nat×eX)}(l:List α)(p:i0 l=n)(j:n*k<=2^20)
  (a:wy (λi=>dB (i*k,k)) (jd z n).toArray parts.toList=dB (l.flatMap f).toArray) {K:Sl->f8->Prop}
  (q:∀d h',dO h' (grow c h.size i) i e d k f l->aY (λb=>c b≠i) h h'->K d h'):
  aA C.P (qp t n parts) (.one (.sc .slc)) h K:=
 Ot s u g l p j a λd h' x y z _=>q d h' ⟨x,λb r=>by obtain⟨o,m⟩:=r;rw[y]at m;cases m;rw[so (qk _)]⟩ (z.bv c i)
theorem dO.append(B:C.Ok)(g:dO h c i e s k f l)(D:cj C.toCU t e k z by_)(n:∃i e2,C.T.get t2=dB i/\i.dc=.slice e2)(q:i0 z=k)(j:0<by_/\by_<=128)(u:∀x,i0 (f x)=k)
  (E:Seq h p v k f l2) (a:∀x,∀c∈f x,c.oneCell'=eR) (o:i0 l+i0 l2<=2^32) {ty:Nat} {K:Sl->f8->Prop}
  (r:∀d h',dO h' (grow c h.size i) i e d k f (l++l2)->aY (λb=>c b≠i) h h'->K d h'):
  aA C.P (qu #[t,t2] ty #[.slice s.ptr s.len s.cap,.slice v.ptr v.len v.cap]) (.one (.sc .slc)) h K:=
 XS B D n q j u g.own E a o λd h' x y w=>r d h' ⟨x,λb A=>by
  rcases w b A with w|w
  ·rw[gF (g.own.lt w)];exact g.bv b w
  ·exact so w⟩ (y.mono λb _ m n=>m (g.bv b n))
theorem dO.set(B:C.Ok)(j:dO h c i e s k f l)(u:∀x,i0 (f x)=k)(D:C.T.get t=dB ti){x:Int}(n:Nat)(v:x=n)(q:n<i0 l){g:eX}(y:α)(E:g.cells=(f y).toArray)(o:ti.size=k)
  (d:(f y).all (·.oneCell')=eR) {K:f8->Prop} (r:∀h',dO h' (grow c h.size i) i e s k f (l.set n y)->aY (λb=>c b≠i) h h'->K h'):
  ∃a:fz,(s.ptr=dB a/\0<=x/\x<((s.len:Nat):Int))/\af C.P (qf t (.pointer (dB (a.add (x.toNat*k)))) g) h λ_ h'=>K h':=
 j.own.set B u D n v q y E o d λh' z w _=>r h' ⟨z,λb p=>by rw[gF (j.own.lt p)];exact j.bv b p⟩ (w.mono λb _ m A=>m (j.bv b A))
end
section
variable {α:Type} {C:Ctx} {h h' h0:f8} {c:Nat->Nat} {i j n m:Nat} {e t:Nat} {s v:Sl} {k by_:Nat} {f:α->bc} {l l2:List α} {z:bc} {p:aB}
theorem grow_grow{c:Nat->Nat}{n m i:Nat}(h:n<=m):grow (grow c n i) m i=grow c n i:=by
 funext b;unfold grow;split
 ·rfl
 ·rw[g0 i5]
theorem aY.step(a:aY (λb=>c b≠i) h h'){d:f8}(b:aY (λb=>grow c h.size i b≠i) h' d):aY (λb=>c b≠i) h d:=
 a.then b λx e f=>by rw[gF e];exact f
theorem dO.push(H:C.Ok)(A:dO h c i e s k f l)(B:cj C.toCU t e k z by_)(E:i0 z=k)(o:0<by_/\by_<=128)(F:∀x,i0 (f x)=k)
  (d:∀x,∀c∈f x,c.oneCell'=eR) (x:α) {parts:Array (Nat×eX)} (a:wy (λi=>dB (i*k,k)) (jd z 1).toArray parts.toList=dB ([x].flatMap f).toArray)
  (y:1*k<=2^20) (w:i0 l+1<=2^32) {ty:Nat} {K:Sl->f8->Prop}
  (J:∀n h',dO h' (grow c h.size i) i e n k f (l++[x])->aY (λb=>c b≠i) h h'->K n h'):
  aA C.P (qp t 1 parts) (.one (.sc .slc)) h λv g=>aA C.P (qu #[t,t] ty #[.slice s.ptr s.len s.cap,.slice v.ptr v.len v.cap]) (.one (.sc .slc)) g K:=by
 refine Ot H B E [x] i4 y a λv g O L q _=>?_;have D:aY (λb=>c b≠i) h g:=q.bv c i;have u:dO g (grow c h.size i) i e s k f l:=⟨A.own.ag q λ_ _=>trivial,λb G=>by rw[gF (A.own.lt G)];exact A.bv b G⟩
 have j:h.size<=g.size:=q.1;obtain⟨M,Q,I,x2,_⟩:=B.ex;refine u.append H B ⟨M,e,I,x2⟩ E o F (O.seq (p:=λ_=>True) F λ_ _=>trivial) d w λn N m r=>?_;rw[grow_grow j]at m;exact J n N m (D.step r)
structure ajt (h:f8) (c:Nat->Nat) (top lo:Nat) (e:TypeId) (s:Sl) (k:Nat) (f:α->bc) (ll:List (List α)) (rs:List Sl):Prop where
 own:dO h c top e s 1 bs rs
 len:i0 rs=i0 ll
 row:∀(i:Nat) r l,rs[i]?=dB r->ll[i]?=dB l->Seq h (λb=>b<h.size/\lo<=c b/\c b<lo+i0 ll) r k f l
theorem kb:∀x,∀c∈bs x,c.oneCell'=eR:=by intro x c a;simp only[bs,qx]at a;subst a;rfl
end
structure aju {α:Type} (h:f8) (r:Nat) (g:α->eX) (kvs:List (Int×α)):Prop where
 ex:∃es clock,h[r]?=dB (.map es clock)/\es.toList.map (λe=>(e.key,e.val))=kvs.map (λp=>(Value.int .i64 p.1,g p.2))
section
variable {α:Type} {P:Program} {h h':f8} {r:Nat} {g:α->eX} {kvs:List (Int×α)}
end
theorem Sx(x n:Int)(b:0<n):x%n=if x.tmod n<0 then x.tmod n+n else x.tmod n:=by
 have c:=vw x b;have d:-n<x.tmod n:=Int.lt_tmod_of_pos x b;have e:=Int.tmod_add_mul_tdiv x n;have a:0<=(if x.tmod n<0 then x.tmod n+n else x.tmod n)/\(if x.tmod n<0 then x.tmod n+n else x.tmod n)<n:=by split<;>omega
 have e2:x=(if x.tmod n<0 then x.tmod n+n else x.tmod n)+n*(if x.tmod n<0 then x.tdiv n-1 else x.tdiv n):=by
  split
  ·rw[Int.mul_sub];omega
  ·omega
 conv=>lhs;rw[e2]
 rw[Int.add_mul_emod_self_left];exact Int.emod_eq_of_lt a.1 a.2
theorem aG{α:Type}(l:List α)(k:Nat)(h:k<i0 l:=by omega):l.take (k+1)=l.take k++[l[k]]:=zH h
theorem fN:∀x,∀c∈aq x,c.oneCell'=eR:=by intro x c a;simp only[aq,qx]at a;subst a;rfl
theorem gV:∀x,∀c∈aD x,c.oneCell'=eR:=by intro x c a;simp only[aD,qx]at a;subst a;rfl
theorem up{h c d:f8}(a:aY (λb=>b<h.size) h c)(b:aY (λb=>b<c.size) c d):aY (λb=>b<h.size) h d:=
 a.then b λ_ e _=>q7 e a.1
theorem any{h c:f8}(a:aY (λ_=>True) h c):aY (λb=>b<h.size) h c:=a.mono λ_ _ _=>trivial
theorem Seq.up{α:Type}{h h':f8}{s:Sl}{k:Nat}{f:α->bc}{l:List α}(d:Seq h (λb=>b<h.size) s k f l)(a:aY (λb=>b<h.size) h h'):Seq h' (λb=>b<h'.size) s k f l:=
 (d.ag a).mono λ_ c=>q7 c a.1
theorem iH.up{α:Type}{h h':f8}{s:Sl}{k:Nat}{f:α->bc}{l:List (List α)}{rs:List Sl}(d:iH h (λb=>b<h.size) s k f l rs)(a:aY (λb=>b<h.size) h h'):iH h' (λb=>b<h'.size) s k f l rs:=
 (d.ag a).mono λ_ c=>q7 c a.1
theorem Seq.drop{α:Type}{h:f8}{p:aB}{s:Sl}{w:Nat}{f:α->bc}{l:List α}(c:Seq h p s w f l)(k:Nat)(m:s.len<=s.cap):
  Seq h p ⟨if s.cap=k then s.ptr else s.ptr.map (·.add (k*w)),s.len-k,s.cap-k⟩ w f (l.drop k):=by
 have d:=c.len;refine⟨pb,λi x a=>?_⟩;rw[wH]at a;obtain⟨b,o,e,g,h3⟩:=c.elem _ x a;have j:=(qn.1 a).1;refine⟨b,o+k*w,?_,g,?_⟩
 ·dsimp only;rw[g0 i5,e,qT,add_eq]
 ·rw[show o+k*w+i*w=o+(k+i)*w by rw[Nat.add_mul];omega];exact h3
theorem Seq.take{α:Type}{h:f8}{p:aB}{s:Sl}{w:Nat}{f:α->bc}{l:List α}(b:Seq h p s w f l)(k:Nat)(c:k<=i0 l):
  Seq h p ⟨s.ptr,k,s.cap⟩ w f (l.take k):=by
 refine⟨i9,λi x a=>?_⟩;rw[y7]at a;split at a
 ·exact b.elem i x a
 ·cases a
theorem getD_lt{α:Type}{l:List α}{d:α}{i:Nat}(h:i<i0 l:=by omega):l.getD i d=l[i]:=by rw[qe,qd h];rfl
structure HP where
 p:f8->aB->Prop
 loc:∀{h h':f8} {q:aB},p h q->aY q h h'->p h' q
 mono:∀{h:f8} {q q':aB},p h q->(∀b,q b->q' b)->p h q'
def emp:HP:=⟨λ_ _=>True,λ_ _=>trivial,λ_ _=>trivial⟩
def al{α:Type}(e:TypeId)(s:Sl)(k:Nat)(f:α->bc)(l:List α):HP:=
 ⟨λh q=>Own h e s k f l/\∀b,s.on b->q b,λa d=>⟨a.1.ag d a.2,a.2⟩,λa g=>⟨a.1,λb c=>g b (a.2 b c)⟩⟩
def ao(a:fz)(e:TypeId)(b:bc):HP:=
 ⟨λh q=>cv h a e b/\q a.block,λx c=>⟨x.1.ag c x.2,x.2⟩,λx d=>⟨x.1,d _ x.2⟩⟩
def ux{α:Type}(s:Sl)(k:Nat)(f:α->bc)(l:List α):HP:=
 ⟨λh q=>Seq h q s k f l,λa b=>a.ag b,λa c=>a.mono c⟩
def fQ{α:Type}(e:TypeId)(s:Sl)(k:Nat)(f:α->bc)(m:List (List α)):HP:=
 ⟨λh q=>∃(rs:List Sl) (j:aB),Own h e s 1 bs rs/\(∀b,s.on b->q b/\¬j b)/\(∀b,j b->q b)/\rs.length=i0 m/\∀(i:Nat) r l,rs[i]?=dB r->m[i]?=dB l->Seq h j r k f l,
  λ⟨rs,j,a,b,c,d,e⟩ hp=>⟨rs,j,a.ag hp λx g=>(b x g).1,b,c,d,λi r l n o=>(e i r l n o).ag (hp.mono λx _ g=>c x g)⟩,
  λ⟨rs,j,a,b,c,d,e⟩ hq=>⟨rs,j,a,λx g=>⟨hq x (b x g).1,(b x g).2⟩,λx g=>hq x (c x g),d,e⟩⟩
structure aa (B:aB) (h0 h:f8) (As:List HP):Prop where
 low:∀b,B b->b<h0.size
 ag:aY B h0 h
 ex:∃c:Nat->Nat,(∀b,B b->c b=0)/\∀(i:Nat) (A:HP),As[i]?=dB A->A.p h (λb=>b<h.size/\c b=i+1)
abbrev Sp(a h:f8)(As:List HP):Prop:=aa (λb=>b<a.size) a h As
section
variable {B:aB} {h0 h h':f8} {As Bs:List HP} {A A2 D:HP} {c:Nat->Nat} {i j:Nat}
theorem Sp.refl(h:f8):Sp h h []:=⟨λ_ h=>h,aY.refl _ _,λ_=>0,λ_ _=>rfl,λi A a=>by simp at a⟩
theorem aa.at(H:aa B h0 h As)(i:Nat)(e:As[i]?=dB A):A.p h (λb=>b<h.size):=by obtain⟨c,_,d⟩:=H.ex;exact A.mono (d i A e) λ_ a=>a.1
theorem aa.fin(H:aa B h0 h As)(i:Nat)(g:As[i]?=dB A):A.p h (λb=>¬B b/\b<h.size):=by obtain⟨c,e,f⟩:=H.ex;exact A.mono (f i A g) λb d=>⟨λa=>by have:=e b a;omega,d.1⟩
theorem Sp.fresh(H:Sp h0 h As)(i:Nat)(c:As[i]?=dB A):A.p h (λb=>h0.size<=b/\b<h.size):=
 A.mono (aa.fin H i c) λb a=>⟨i5,a.2⟩
theorem aa.comp(H:aa B h0 h As)(R:Sp h h' Bs):aa B h0 h' (As++Bs):=by
 obtain⟨j,g,n,q,o⟩:=H;obtain⟨_,e,k,m,p⟩:=R;have c:=g.1;refine⟨j,g.then e λb a _=>q7 a c,λb=>if b<h.size then n b else if k b=0 then 0 else As.length+k b,λb a=>?_,λi A d=>?_⟩
 ·dsimp only;rw[f9 (q7 (j b a) c)];exact q b a
 ·by_cases l:i<i0 As
  ·rw[qo l]at d;refine A.mono (A.loc (o i A d) (e.mono λb _ a=>a.1)) λb a=>⟨q7 a.1 e.1,?_⟩
   dsimp only;rw[f9 a.1];exact a.2
  ·rw[qj i5]at d;refine A.mono (p _ A d) λb a=>⟨a.1,?_⟩
   have:¬b<h.size:=λf=>by have:=m b f;omega
   dsimp only;rw[g0 this,g0 i5];omega
theorem aa.up(H:aa B h0 h As)(R:aY (λb=>b<h.size) h h'):aa B h0 h' As:=by have:=H.comp (Bs:=[]) ⟨λ_ h=>h,R,λ_=>0,λ_ _=>rfl,λi A a=>by simp at a⟩;simpa using this
theorem Sp.one(R:aY (λb=>b<h.size) h h')(d:A.p h' λb=>h.size<=b/\b<h'.size):Sp h h' [A]:=by
 refine⟨λ_ h=>h,R,λb=>if b<h.size then 0 else 1,λb a=>f9 a,λi A2 c=>?_⟩;cases i with
 |succ i=>simp at c
 |zero=>
  simp at c;subst c;exact A.mono d λb a=>⟨a.2,by dsimp only;rw[g0 i5]⟩
theorem Sp.zip(R:aY (λb=>b<h.size) h h'):Sp h h' []:=aa.up (Sp.refl h) R
theorem aa.enter(q:aB)(c:Nat->Nat)(e:∀b,q b->b<h.size)(a:∀(i:Nat) (A:HP),As[i]?=dB A->A.p h λb=>q b/\c b=i+1):aa (λb=>b<h.size/\¬q b) h h As:=by
 classical
 refine⟨λb d=>d.1,aY.refl _ _,λb=>if q b then c b else 0,λb d=>g0 d.2,λi A f=>A.mono (a i A f) λb d=>⟨e b d.1,?_⟩⟩;dsimp only;rw[f9 d.1];exact d.2
theorem aa.ZV(q:aB)(e:∀b,q b->b<h.size)(a:A.p h q):aa (λb=>b<h.size/\¬q b) h h [A]:=
 .enter q (λ_=>1) e λi A2 c=>by
  cases i with
  |succ i=>simp at c
  |zero=>simp at c;subst c;exact A.mono a λb d=>⟨d,i4⟩
theorem aa.Ee(l:∀b,B b->b<h0.size)(f:aY B h0 h)(z:∀b,B b->c b=0)(a:∀(i:Nat) (A:HP),As[i]?=dB A->A.p h λb=>b<h.size/\c b=i+1)
  (k:aY (λb=>¬(b<h.size/\c b=i+1)) h h') (n:D.p h' λb=>b<h'.size/\((b<h.size/\c b=i+1)∨h.size<=b)):aa B h0 h' (As.set i D):=by
 refine⟨l,f.then k λb _ d m=>by have:=z b d;omega,grow c h.size (i+1),λb d=>?_,λj A e=>?_⟩
 ·rw[gF (q7 (l b d) f.1)];exact z b d
 ·rw[zd]at e;split at e
  ·rename_i g;subst g;split at e
   ·injection e with e
    subst e;refine D.mono n λb d=>⟨d.1,?_⟩
    rcases d.2 with h1|h1
    ·rw[gF h1.1];exact h1.2
    ·exact so h1
   ·cases e
  ·rename_i g;refine A.mono (A.loc (a j A e) (k.mono λb _ d m=>i5)) λb d=>⟨q7 d.1 k.1,?_⟩
   rw[gF d.1];exact d.2
theorem aa.step(H:aa B h0 h As)(i:Nat)(k:As[i]?=dB A)(j:∀q:aB,A.p h q->(∀b,q b->b<h.size)->aY (λb=>¬q b) h h'/\D.p h' λb=>b<h'.size/\(q b∨h.size<=b)):aa B h0 h' (As.set i D):=by obtain⟨f,p,c,z,a⟩:=H;obtain⟨e,g⟩:=j _ (a i A k) λb d=>d.1;exact aa.Ee f p z a e g
theorem aa.gg(H:aa B h0 h As)(i:Nat)(f:As[i]?=dB A)(e:∀q:aB,A.p h q->D.p h q):aa B h0 h (As.set i D):=
 H.step i f λq d a=>⟨aY.refl _ _,D.mono (e q d) λb c=>⟨a b c,.inl c⟩⟩
theorem aa.merge(H:aa B h0 h As)(i j:Nat)(s:i≠j)(u:As[i]?=dB A)(o:As[j]?=dB A2)
  (t:∀l m:aB,(∀b,l b->¬m b)->A.p h l->A2.p h m->D.p h λb=>l b∨m b):aa B h0 h ((As.set i D).set j emp):=by
 obtain⟨r,p,c,z,a⟩:=H;refine⟨r,p,λb=>if c b=j+1 then i+1 else c b,λb f=>?_,λk n d=>?_⟩
 ·have:=z b f;dsimp only;rw[g0 i5];exact this
 ·rw[zd]at d;split at d
  ·split at d
   ·cases d;trivial
   ·cases d
  ·rename_i q;rw[zd]at d;split at d
   ·rename_i g;subst g;split at d
    ·injection d with d
     subst d;refine D.mono (t _ _ (λb e v=>i5) (a i A u) (a j A2 o)) λb f=>?_;rcases f with e|e
     ·exact⟨e.1,by dsimp only;rw[g0 i5];exact e.2⟩
     ·exact⟨e.1,by dsimp only;rw[f9 e.2]⟩
    ·cases d
   ·rename_i g;refine n.mono (a k n d) λb f=>⟨f.1,?_⟩
    dsimp only;rw[g0 i5];exact f.2
theorem aa.pick(H:aa B h0 h As)(f:Nat->Nat)(l:∀i j,f i=f j->i=j)(k:∀(i:Nat) (A2:HP),Bs[i]?=dB A2->As[f i]?=dB A2):aa B h0 h Bs:=by
 obtain⟨m,p,c,z,a⟩:=H
 classical
 refine⟨m,p,λb=>if e:∃i,c b=f i+1 then e.choose+1 else 0,λb e=>?_,λi A2 g=>?_⟩
 ·have:=z b e;dsimp only;rw[dif_neg];rintro⟨i,g⟩;omega
 ·refine A2.mono (a _ _ (k i A2 g)) λb e=>⟨e.1,?_⟩
  have d:∃i,c b=f i+1:=⟨i,e.2⟩
  dsimp only;rw[dif_pos d];have o:=d.choose_spec;have n:=l d.choose i i5;rw[n]
theorem aa.take(H:aa B h0 h As)(n:Nat)(a:∀(i:Nat) (A2:HP),Bs[i]?=dB A2->As[n+i]?=dB A2):aa B h0 h Bs:=H.pick (λi=>n+i) (λ_ _ h=>i5) a
end
section
variable {B:aB} {α:Type} {C:Ctx} {h0 h h':f8} {As:List HP} {i e t t2:Nat} {s v:Sl} {k by_:Nat} {f:α->bc} {l l2:List α} {a:fz} {cs z:bc} {p:aB} {ti:TI}
theorem aa.own(H:aa B h0 h As)(i:Nat)(a:As[i]?=dB (al e s k f l)):Own h e s k f l:=(H.at i a).1
theorem aa.seq(H:aa B h0 h As)(i:Nat)(a:As[i]?=dB (al e s k f l))(c:∀x,i0 (f x)=k):Seq h (λb=>b<h.size) s k f l:=(H.at i a).1.seq c (H.at i a).2
theorem aa.rd(H:aa B h0 h As)(i:Nat)(a:As[i]?=dB (ux s k f l)):Seq h (λb=>b<h.size) s k f l:=H.at i a
theorem aa.box(H:aa B h0 h As)(i:Nat)(b:As[i]?=dB (ao a e cs)):cv h a e cs:=(H.at i b).1
theorem aa.pd(H:aa B h0 h As)(i:Nat)(q:As[i]?=dB (al e s k f l)){β:Type}{o n:Nat}{g:β->bc}{l':List β}(m:aY (λb=>¬s.on b) h h')(p:Own h' o s n g l'):aa B h0 h' (As.set i (al o s n g l')):=
 H.step i q λ_ d c=>⟨m.mono λb _ a j=>a (d.2 b j),p,λb a=>⟨q7 (c b (d.2 b a)) m.1,.inl (d.2 b a)⟩⟩
theorem aa.CW(H:aa B h0 h As)(i:Nat)(m:As[i]?=dB (ao a e cs)){c:bc}(j:aY (λb=>b≠a.block) h h')(l:cv h' a e c):aa B h0 h' (As.set i (ao a e c)):=
 H.step i m λq f d=>⟨j.mono λb _ k g=>k (by rw[g];exact f.2),l,⟨q7 (d _ f.2) j.1,.inl f.2⟩⟩
theorem aa.freeze(H:aa B h0 h As)(i:Nat)(c:As[i]?=dB (al e s k f l))(b:∀x,i0 (f x)=k):aa B h0 h (As.set i (ux s k f l)):=H.gg i c λ_ a=>a.1.seq b a.2
theorem aa.set(r:C.Ok)(H:aa B h0 h As)(i:Nat)(g:As[i]?=dB (al e s k f l))(o:∀x,i0 (f x)=k)(q:C.T.get t=dB ti){x:Int}(n:Nat)(p:x=n)(j:n<i0 l){c:eX}(y:α)(u:c.cells=(f y).toArray)(d:ti.size=k)
  (b:(f y).all (·.oneCell')=eR) {K:f8->Prop} (m:∀h',aa B h0 h' (As.set i (al e s k f (l.set n y)))->K h'):
  ∃a:fz,(s.ptr=dB a/\0<=x/\x<((s.len:Nat):Int))/\af C.P (qf t (.pointer (dB (a.add (x.toNat*k)))) c) h λ_ h'=>K h':=
 (H.own i g).set r o q n p j y u d b λh' z w _=>m h' (H.pd i g w z)
theorem aa.push(M:C.Ok)(H:aa B h0 h As)(i:Nat)(Q:As[i]?=dB (al e s k f l))(O:cj C.toCU t e k z by_)(D:i0 z=k)(p:0<by_/\by_<=128)(G:∀x,i0 (f x)=k)
  (m:∀x,∀c∈f x,c.oneCell'=eR) (x:α) {parts:Array (Nat×eX)} (g:wy (λi=>dB (i*k,k)) (jd z 1).toArray parts.toList=dB ([x].flatMap f).toArray)
  (u:1*k<=2^20) (r:i0 l+1<=2^32) {ty:Nat} {K:Sl->f8->Prop}
  (F:∀o h',aa B h0 h' (As.set i (al e o k f (l++[x])))->K o h'):
  aA C.P (qp t 1 parts) (.one (.sc .slc)) h λv E=>aA C.P (qu #[t,t] ty #[.slice s.ptr s.len s.cap,.slice v.ptr v.len v.cap]) (.one (.sc .slc)) E K:=by
 obtain⟨L,I,c,J,a⟩:=H;have w:=a i _ Q;have N:dO h c (i+1) e s k f l:=⟨w.1,λb j=>(w.2 b j).2⟩
 refine N.push M O D p G m x g u r λo h' d q=>F o h' ?_;refine aa.Ee L I J a (q.mono λb j A y=>A ⟨j,y⟩) ⟨d.own,λb j=>⟨d.own.lt j,?_⟩⟩;have:=d.bv b j;by_cases n:b<h.size
 ·rw[gF n]at this;exact .inl ⟨n,this⟩
 ·exact .inr i5
theorem aa.append(L:C.Ok)(H:aa B h0 h As)(i:Nat)(O:As[i]?=dB (al e s k f l))(N:cj C.toCU t e k z by_)(J:∃i e2,C.T.get t2=dB i/\i.dc=.slice e2)(A:i0 z=k)(o:0<by_/\by_<=128)(E:∀x,i0 (f x)=k)
  (Q:Seq h p v k f l2) (j:∀x,∀c∈f x,c.oneCell'=eR) (r:i0 l+i0 l2<=2^32) {ty:Nat} {K:Sl->f8->Prop}
  (D:∀n h',aa B h0 h' (As.set i (al e n k f (l++l2)))->K n h'):
  aA C.P (qu #[t,t2] ty #[.slice s.ptr s.len s.cap,.slice v.ptr v.len v.cap]) (.one (.sc .slc)) h K:=by
 obtain⟨I,F,c,G,a⟩:=H;have u:=a i _ O;have M:dO h c (i+1) e s k f l:=⟨u.1,λb g=>(u.2 b g).2⟩
 refine M.append L N J A o E Q j r λn h' d q=>D n h' ?_;refine aa.Ee I F G a (q.mono λb g y w=>y ⟨g,w⟩) ⟨d.own,λb g=>⟨d.own.lt g,?_⟩⟩;have:=d.bv b g;by_cases m:b<h.size
 ·rw[gF m]at this;exact .inl ⟨m,this⟩
 ·exact .inr i5
theorem Ou{h h':f8}{n:Nat}(i:n=h.size)(d:Own h' e s k f l)(g:s.ptr=dB ⟨n,0,eH⟩)(c:aY (λ_=>True) h h'):Sp h h' [al e s k f l]:=
 .one (any c) ⟨d,λb a=>⟨by obtain⟨o,a⟩:=a;rw[g]at a;cases a;omega,d.lt a⟩⟩
theorem aa.make(v:C.Ok)(H:aa B h0 h As)(f:α->bc)(D:cj C.toCU t e k z by_)(c:0<by_/\by_<=128)(i:α)(q:f i=z)(d:i0 z=k){u A:IntKind}{n l:Int}(m b:Nat)(p:n=m)(o:l=b)(j:m<=b)(g:b<=2^32)
  {K:Sl->f8->Prop} (r:∀a h',a.len=m->a.cap=b->aa B h0 h' (As++[al e a k f (qg m i)])->K a h'):
  aA C.P (qG t (.int u n) (.int A l)) (.one (.sc .slc)) h K:=
 run_make v D c i q d m b p o j g λa h' x y w s _=>r a h' (by rw[x.len];simp) w (H.comp (Ou i4 x y s))
theorem aa.lit(o:C.Ok)(H:aa B h0 h As)(f:α->bc)(p:cj C.toCU t e k z by_)(c:i0 z=k){n:Nat}{parts:Array (Nat×eX)}(l:List α)(g:i0 l=n)(d:n*k<=2^20)
  (a:wy (λi=>dB (i*k,k)) (jd z n).toArray parts.toList=dB (l.flatMap f).toArray) {K:Sl->f8->Prop}
  (j:∀b h',aa B h0 h' (As++[al e b k f l])->K b h'):
  aA C.P (qp t n parts) (.one (.sc .slc)) h K:=
 Ot o p c l g d a λb h' x y m _=>j b h' (H.comp (Ou i4 x y m))
theorem Ov{h h':f8}(d:a.block=h.size)(c:cv h' a e cs)(b:aY (λ_=>True) h h'):Sp h h' [ao a e cs]:=
 .one (any b) ⟨c,i5,c.lt⟩
theorem aa.alloc(d:C.Ok)(H:aa B h0 h As)(e:C.T.get t=dB ti){K:fz->f8->Prop}(c:∀a h',aa B h0 h' (As++[ao a t ti.zero])->K a h'):
  aQ C.P (qP t eR (.tuple #[])) h K:=
 Bx d e λa h' x y b _=>c a h' (H.comp (Ov x y b))
theorem aa.boxed(H:aa B h0 h As){P:Program}{v:eX}{K:fz->f8->Prop}(c:∀a h',aa B h0 h' (As++[ao a t v.cells.toList])->K a h'):
  aQ P (qO t v) h K:=
 WY λa h' x y b _=>c a h' (H.comp (Ov x y b))
theorem aa.store(k:C.Ok)(H:aa B h0 h As)(i:Nat)(f:As[i]?=dB (ao a e cs))(g:C.T.get t=dB ti)(off:Nat){v:eX}(vs:bc)(l:v.cells=vs.toArray)(d:ti.size=i0 vs)
  (b:vs.all (·.oneCell')=eR) (c:off+i0 vs<=i0 cs) {K:Unit->f8->Prop}
  (j:∀h',aa B h0 h' (As.set i (ao a e (cs.take off++vs++cs.drop (off+i0 vs))))->K () h'):
  af C.P (qf t (.pointer (dB (a.add off))) v) h K:=
 run_store k (H.box i f) g off vs l d b c λh' x y _=>j h' (H.CW i f y x)
theorem aa.lE(j:C.Ok)(H:aa B h0 h As)(i:Nat)(k:As[i]?=dB (ao a e cs))(f:C.T.get t=dB ti){v:eX}(vs:bc)(l:v.cells=vs.toArray)(c:ti.size=i0 vs)
  (b:vs.all (·.oneCell')=eR) (d:i0 vs<=i0 cs) {K:Unit->f8->Prop}
  (g:∀h',aa B h0 h' (As.set i (ao a e (vs++cs.drop vs.length)))->K () h'):
  af C.P (qf t (.pointer (dB a)) v) h K:=
 H.store j i k f 0 vs l c b i5 (λh' x=>g h' (by simpa using x))
theorem aa.nil(H:aa B h0 h As)(e k:Nat)(f:α->bc):aa B h0 h (As++[al e ⟨eH,0,0⟩ k f []]):=
 H.comp (.one (aY.refl _ _) ⟨Own.nil h e k f,λb a=>by obtain⟨o,a⟩:=a;cases a⟩)
theorem aa.LX(H:aa B h0 h As)(e k:Nat)(f:α->bc):aa B h0 h (As++[fQ e ⟨eH,0,0⟩ k f []]):=
 H.comp (.one (aY.refl _ _) ⟨[],λ_=>False,Own.nil h e 1 bs,λb a=>(by obtain⟨o,a⟩:=a;cases a),λ_ a=>a.elim,rfl,λi r l h=>m6⟩)
theorem aa.xN(hC:C.Ok)(H:aa B h0 h As)(i j:Nat)(z:i≠j){J:List (List α)}{r:Sl}{x:List α}(U:As[i]?=dB (fQ e s k f J))(V:As[j]?=dB (ux r k f x))(he:cj C.toCU t e 1 [.slice eH 0 0] 24)
  (ad:i0 J+1<=2^32) {ty:Nat} {K:Sl->f8->Prop} (hk:∀O h',aa B h0 h' ((As.set j emp).set i (fQ e O k f (J++[x])))->K O h'):
  aA C.P (qp t 1 #[(0,.slice r.ptr r.len r.cap)]) (.one (.sc .slc)) h λv o=>aA C.P (qu #[t,t] ty #[.slice s.ptr s.len s.cap,.slice v.ptr v.len v.cap]) (.one (.sc .slc)) o K:=by
 have H2:=H.merge i j z U V (D:=⟨λh q=>∃(rs:List Sl) (g:aB),Own h e s 1 bs rs/\(∀b,s.on b->q b/\¬g b)/\(∀b,g b->q b)/\rs.length=i0 J/\(∀(i:Nat) r l,rs[i]?=dB r->J[i]?=dB l->Seq h g r k f l)/\Seq h g r k f x,
  λ⟨rs,g,a,b,c,d,e,f⟩ hp=>⟨rs,g,a.ag hp λx n=>(b x n).1,b,c,d,λi r l o y=>(e i r l o y).ag (hp.mono λx _ n=>c x n),f.ag (hp.mono λx _ n=>c x n)⟩,
  λ⟨rs,g,a,b,c,d,e,f⟩ hq=>⟨rs,g,a,λx n=>⟨hq x (b x n).1,(b x n).2⟩,λx n=>hq x (c x n),d,e,f⟩⟩)
  (λg q2 hd hA hB=>by
   obtain⟨rs,q3,a,b,c,d,e'⟩:=hA;refine⟨rs,λb=>q3 b∨q2 b,a,λx n=>⟨.inl (b x n).1,λN=>N.elim (b x n).2 (hd x (b x n).1)⟩,λx n=>n.elim (λh=>.inl (c x h)) .inr,d,λi r l o y=>(e' i r l o y).mono λ_ h=>.inl h,Seq.mono hB λ_ h=>.inr h⟩)
 have u:i<i0 As:=(qn.1 U).1;obtain⟨lo,pp,c,zz,a⟩:=H2;have ha:=a i _ (by rw[zI (Ne.symm z),zp u]);obtain⟨rs,g,a1,a2,a3,a4,a5,W⟩:=ha;let T:Nat->Nat:=λb=> @ite _ (g b) (Classical.propDecidable _) (i0 As+2) (c b);have G:∀b,g b->b<h.size/\c b=i+1:=a3;have ho:dO h T (i+1) e s 1 bs rs:=⟨a1,λb m=>by
  have:=a2 b m;show @ite _ (g b) (Classical.propDecidable _) _ _=_;rw[g0 this.2];exact this.1.2⟩
 refine ho.push hC he i4 i6 (λ_=>rfl) kb r i4 i6 i5 λO h' E F=>hk O h' ?_;rw[vo _ _ (Ne.symm z)];rw[<-yO (l:=As) (i:=i),vo _ _ z];have L:∀b,g b->T b≠i+1:=λb m=>by
  show @ite _ (g b) (Classical.propDecidable _) _ _≠_;rw[f9 m];omega
 refine aa.Ee lo pp zz a (F.mono λb m Z Y=>Z ⟨m,?_⟩) ⟨rs++[r],λb=>g b/\b<h.size,E.own,λb m=>?_,λb m=>⟨q7 m.2 F.1,.inl ⟨m.2,(G b m.1).2⟩⟩,by simp[a4],λQ r' l' o y=>?_⟩
 ·by_cases A:g b
  ·exact(G b A).2
  ·have w:@ite _ (g b) (Classical.propDecidable _) (i0 As+2) (c b)=i+1:=Y;rw[g0 A]at w;exact w
 ·have p:=E.bv b m;by_cases u:b<h.size
  ·rw[gF u]at p;have I:¬g b:=λA=>L b A p;have w:@ite _ (g b) (Classical.propDecidable _) (i0 As+2) (c b)=i+1:=p;rw[g0 I]at w;exact⟨⟨E.own.lt m,.inl ⟨u,w⟩⟩,λN=>I N.1⟩
  ·exact⟨⟨E.own.lt m,.inr i5⟩,λN=>u N.2⟩
 ·have M:∀{S:Sl} {l:List α},Seq h g S k f l->Seq h' (λb=>g b/\b<h.size) S k f l:=λX=>
   (X.mono (q:=λb=>g b/\b<h.size) λb m=>⟨m,(G b m).1⟩).ag (F.mono λb _ m=>L b m.1)
  by_cases R:Q<i0 rs
  ·rw[qo R]at o;rw[qo i5]at y;exact M (a5 Q r' l' o y)
  ·have:Q=i0 rs:=by have:=(qn.1 o).1;simp at this;omega
   subst this;simp at o;rw[a4]at y;simp at y;subst o;subst y;exact M W
theorem aa.rows(H:aa B h0 h As)(i:Nat){g:List (List α)}(o:As[i]?=dB (fQ e s k f g)):∃rs,iH h (λb=>b<h.size) s k f g rs:=by obtain⟨rs,p,a,b,c,d,e⟩:=H.at i o;exact⟨rs,a.seq (λ_=>rfl) λx n=>(b x n).1,d,λi r l j m=>(e i r l j m).mono c⟩
end
theorem adg(vs:bc):∀(pre old post:bc),i0 old=i0 vs->((vs.zipIdx 0).foldl (λ(cs:Array eX) (p:eX×Nat)=>cs.setIfInBounds (i0 pre+p.2) p.1) (pre++old++post).toArray)=(pre++vs++post).toArray:=by
 have b:∀(vs pre old post:bc) (k:Nat),i0 old=i0 vs->i0 pre=i0 pre->∀n,n+k=i0 pre->((vs.zipIdx k).foldl (λ(cs:Array eX) (p:eX×Nat)=>cs.setIfInBounds (n+p.2) p.1) (pre++old++post).toArray)=(pre++vs++post).toArray:=by
  intro vs
  induction vs with
  |nil=>intro pre old post k a _ n _;rw[q8 a];rfl
  |cons v vs ih=>
   intro pre old post k a _ n c;cases old with
   |nil=>simp at a
   |cons u old=>
    rw[List.zipIdx_cons,zB];have e:(pre++(u::old)++post).toArray.setIfInBounds (n+k) v=((pre++[v])++old++post).toArray:=by rw[c];apply yu;simp
    dsimp only;rw[e,ih (pre++[v]) old post (k+1) j9 i4 n i9];simp
 intro pre old post h;exact b vs pre old post 0 h i4 pre.length i5
theorem Sy{a:Nat->Option (Nat×Nat)}{i:Nat}{v:eX}{vs pre old post:bc}{rest:List (Nat×eX)}(d:v.cells=vs.toArray)(b:a i=dB (i0 pre,i0 vs))(c:i0 old=i0 vs):
  wy a (pre++old++post).toArray ((i,v)::rest)=wy a (pre++vs++post).toArray rest:=by
 conv=>lhs;unfold wy
 simp only[b,d];rw[g0 i9];congr 1;have:=adg vs pre old post c;simpa using this
section
variable {C:Ctx} {t:Nat} {i:TI} {h:f8}
theorem GG(j:C.Ok)(o:C.T.get t=dB i){m:List (Nat×TypeId)}(h:i.dc=.struct m){c:List (Nat×Nat)}(d:placesOf C.T m=dB c){vs:List (Nat×eX)}{cells:Array eX}
  (a:wy (λn=>c[n]?) i.zero.toArray vs=dB cells):aL C.P (Instr.build t vs.toArray) (.agg cells):=by
 obtain⟨z,q,e⟩:=sY j.toOk o;have b:i.zero.toArray=z.cells:=by rw[<-e]
 have l:=j.dc o;rw[h]at l;obtain⟨r,p,rfl⟩:=pM l;refine q.bind ((aU p).bind ?_);have k:aL C.P (r.mapM λf=>(do pure (f.offset,<-sizeOf f.type):Sem (Nat×Nat))) c.toArray:=by rw[Array.mapM_eq_mapM_toList];intro w;have:=od j.toOk d w;rw[map_eq_pure_bind,Sem.run_bind,this];rfl
 refine k.bind ?_;have g:wy (λn=>c.toArray[n]?) z.cells vs.toArray.toList=dB cells:=by rw[<-b];simpa using a
 rw[g];exact .pure
end
theorem take_set{α:Type}(l:List α)(n:Nat)(x:α)(h:n<i0 l):l.take n++[x]++l.drop (n+1)=l.set n x:=by rw[w5,f9 h];simp
section
variable {B:aB} {C:Ctx} {h0 h h':f8} {As:List HP} {e t:Nat} {a:fz} {cs:bc} {ti:TI}
theorem aa.storeAt(j:C.Ok)(H:aa B h0 h As)(i:Nat)(k:As[i]?=dB (ao a e cs))(f:C.T.get t=dB ti){off:Nat}{v:eX}(l:v.cells=#[v])(d:ti.size=1)
  (b:v.oneCell'=eR) (c:off<i0 cs) {K:Unit->f8->Prop}
  (g:∀h',aa B h0 h' (As.set i (ao a e (cs.set off v)))->K () h'):
  af C.P (qf t (.pointer (dB (a.add off))) v) h K:=
 H.store j i k f off [v] l d oi i9 λh' x=>g h' (by rw[<-take_set _ _ _ c];simpa using x)
theorem aa.storeAll(j:C.Ok)(H:aa B h0 h As)(i:Nat)(k:As[i]?=dB (ao a e cs))(f:C.T.get t=dB ti){v:eX}(vs:bc)(l:v.cells=vs.toArray)(c:ti.size=i0 vs)
  (b:vs.all (·.oneCell')=eR) (d:i0 vs=i0 cs) {K:Unit->f8->Prop}
  (g:∀h',aa B h0 h' (As.set i (ao a e vs))->K () h'):
  af C.P (qf t (.pointer (dB a)) v) h K:=
 H.lE j i k f vs l c b i5 λh' x=>g h' (by rw[zf i5,qN]at x;exact x)
end
theorem wb(n:Nat)(a:n<=9223372036854775807:=by omega):qc xo (n:Int)=n:=ak _
abbrev Rd{α:Type}(h:f8)(s:Sl)(k:Nat)(f:α->bc)(l:List α):Prop:=Seq h (λb=>b<h.size) s k f l
abbrev fO{α:Type}(h:f8)(s:Sl)(k:Nat)(f:α->bc)(a:List (List α)):Prop:=∃rs,iH h (λb=>b<h.size) s k f a rs
section
variable {α:Type} {B:aB} {h0 h h':f8} {As:List HP} {s:Sl} {k e:Nat} {f:α->bc} {l:List α} {ll:List (List α)}
theorem fO.up(a:fO h s k f ll)(c:aY (λb=>b<h.size) h h'):fO h' s k f ll:=by obtain⟨rs,a⟩:=a;exact⟨rs,iH.up a c⟩
theorem fO.len(a:fO h s k f ll):s.len=i0 ll:=by obtain⟨rs,a⟩:=a;exact a.Ss
theorem fO.get(b:fO h s k f ll){i:Int}(n:Nat)(g:i=n)(c:n<i0 ll){K:Sl->Prop}(e:∀r,Rd h r k f ll[n]->K r):
  ∃a:fz,(s.ptr=dB a/\0<=i/\i<((s.len:Nat):Int))/\∃x:Sl,f7 h (a.add (i.toNat*1))=dB (.slice x.ptr x.len x.cap)/\K x:=by
 obtain⟨rs,b⟩:=b;exact b.get n g c λr d _=>e r d
theorem Seq.isSome{p:aB}(d:Seq h p s k f l)(c:l≠[]):s.ptr.isNone=eS:=by
 cases l with
 |nil=>exact absurd i4 c
 |cons x t=>obtain⟨b,o,a,_⟩:=d.elem 0 x jj;rw[a];rfl
theorem Seq.isNil{p:aB}(b:Seq h p s k f l)(a:s.ptr.isNone=eR):l=[]:=by
 cases l with
 |nil=>rfl
 |cons x t=>rw[b.isSome jj]at a;cases a
theorem aa.GH(H:aa B h0 h As)(i:Nat)(a:As[i]?=dB (fQ e s k f ll)):fO h s k f ll:=H.rows i a
end
section
variable {B:aB} {h0 h h':f8} {As Bs:List HP} {A D:HP}
theorem aa.del(H:aa B h0 h As)(i:Nat):aa B h0 h (As.eraseIdx i):=
 H.pick (λj=>if j<i then j else j+1) (λa b d=>by split at d<;>split at d<;>omega) λj A e=>by
  rw[List.getElem?_eraseIdx]at e;split at e
  ·rename_i c;rw[f9 c];exact e
  ·rename_i c;rw[g0 c];exact e
theorem aa.call(H:aa B h0 h As)(i:Nat)(F:As[i]?=dB A)(q:aB)(L:∀q':aB,A.p h q'->∀b,q b->q' b)(R:aa (λb=>b<h.size/\¬q b) h h' (D::Bs)):aa B h0 h' (As.set i D++Bs):=by
 classical
 obtain⟨y,w,g,G,z⟩:=H;obtain⟨_,s,j,J,E⟩:=R;have t:=w.1;have x:=(qn.1 F).1;have n:∀b,q b->b<h.size/\g b=i+1:=L _ (z i A F);have v:∀b,B b->b<h.size/\¬q b:=λb a=>⟨q7 (y b a) t,λr=>by have:=G b a;have:=n b r;omega⟩
 let c:Nat->Nat:=λb=>if b<h.size/\¬q b then(if g b=i+1 then 0 else g b)else if j b=0 then 0 else if j b=1 then i+1 else As.length+j b-1
 have e:∀b,b<h.size/\¬q b->g b≠i+1->c b=g b:=λb a I=>by show ite _ _ _=_;rw[f9 a,g0 I]
 have f:∀b,j b≠0->c b=if j b=1 then i+1 else As.length+j b-1:=λb a=>by
  have:¬(b<h.size/\¬q b):=λr=>a (J b r);show ite _ _ _=_;rw[g0 this,g0 a]
 refine⟨y,w.then s λb _ a=>v b a,c,λb a=>?_,λk o d=>?_⟩
 ·have:=G b a;rw[e b (v b a) i5];exact this
 ·by_cases u:k<i0 As
  ·rw[qo p9,zd]at d;split at d
   ·rename_i m;subst m;injection d with d
    subst d;refine D.mono (E 0 D i4) λb a=>⟨a.1,?_⟩
    rw[f b i5,f9 a.2]
   ·rename_i m;have l:∀b,b<h.size/\g b=k+1->b<h.size/\¬q b:=λb a=>⟨a.1,λr=>by have:=n b r;omega⟩
    refine o.mono (o.loc (z k o d) (s.mono λb _ a=>l b a)) λb a=>⟨q7 a.1 s.1,?_⟩
    rw[e b (l b a) i5];exact a.2
  ·rw[qj p9]at d;rw[zA]at d;have K:=E (k-i0 As+1) o n5;refine o.mono K λb a=>⟨a.1,?_⟩
   rw[f b i5,g0 i5];omega
end
section
variable {B:aB} {α:Type} {h0 h h':f8} {As Bs:List HP} {A D:HP} {e k:Nat} {s:Sl} {f:α->bc} {l:List α}
theorem aa.off(H:aa B h0 h As)(i j:Nat)(n:i≠j)(o:As[i]?=dB (al e s k f l))(m:As[j]?=dB A):A.p h (λb=>b<h.size/\¬s.on b):=by
 obtain⟨_,_,c,_,a⟩:=H;refine A.mono (a j A m) λb g=>⟨g.1,λd=>?_⟩
 have:=(a i _ o).2 b d;omega
theorem aa.base(H:aa B h0 h As)(i:Nat)(j:As[i]?=dB (al e s k f l)){b:Nat}(g:B b):¬s.on b:=λd=>by
 obtain⟨_,_,c,z,a⟩:=H;have:=(a i _ j).2 b d;have:=z b g;omega
theorem aa.ahl(H:aa B h0 h (As++[D]))(i:Nat)(k:i<i0 As):aa B h0 h (As.set i D):=
 H.pick (λj=>if j<i0 As then(if j=i then As.length else j)else j+1) (λa b c=>by split at c<;>split at c<;>(try split at c)<;>(try split at c)<;>omega) λj A f=>by
  have e:j<i0 As:=by have:=(qn.1 f).1;simpa using this
  rw[f9 e];rw[zd]at f;split at f
  ·rename_i d;subst d;rw[f9 i4,qj (qk _),zc];exact f
  ·rename_i d;rw[g0 λg=>d g.symm,qo e];exact f
theorem aa.aff(H:aa B h0 h As)(i j:Nat){A2:HP}(n:As[i]?=dB A)(m:As[j]?=dB A2):aa B h0 h ((As.set i A2).set j A):=by
 have k:=(qn.1 n).1;have g:=(qn.1 m).1;refine H.pick (λx=>if x=j then i else if x=i then j else x) (λa b c=>by split at c<;>split at c<;>(try split at c)<;>(try split at c)<;>omega) λx o d=>?_;rw[zd,zd]at d;by_cases e:j=x
 ·subst e;simp[g]at d;subst d;simpa using n
 ·by_cases l:i=x
  ·subst l;simp[e,k]at d;subst d;rw[g0 λf=>e f.symm,f9 rfl];exact m
  ·simp[e,l]at d;rw[g0 λf=>e f.symm,g0 λf=>l f.symm];exact d
end
def bG{α:Type}(e k:Nat)(f:α->bc)(rs:List Sl)(a:List (List α)):List HP:=zh (λr l=>al e r k f l) rs a
section
variable {α:Type} {e k:Nat} {f:α->bc} {rs:List Sl} {ll:List (List α)}
theorem Vm(h:i0 rs=i0 ll):i0 (bG e k f rs ll)=i0 ll:=by simp[bG,h]
theorem iZ(h:i0 rs=i0 ll)(i:Nat)(b:i<i0 ll):(bG e k f rs ll)[i]?=dB (al e (rs[i]'(by omega)) k f ll[i]):=by
 have a:i<i0 rs:=i5
 simp[bG,wA,qd b,qd a]
theorem xZ(h:i0 rs=i0 ll)(r:Sl)(l:List α):bG e k f (rs++[r]) (ll++[l])=bG e k f rs ll++[al e r k f l]:=by unfold bG;rw[yz h];rfl
theorem kW(h:i0 rs=i0 ll)(i:Nat)(r:Sl)(l:List α):(bG e k f rs ll).set i (al e r k f l)=bG e k f (rs.set i r) (ll.set i l):=by
 apply zO;intro j;simp only[bG,zd,wA,List.length_zipWith];by_cases a:i=j
 ·subst a;by_cases b:i<i0 ll
  ·have:i<i0 rs:=i5
   simp[b,this];omega
  ·have:¬i<i0 rs:=i5
   simp[b];omega
 ·simp[a]
theorem Sz(h:i0 rs=i0 ll)(i:Nat)(a:i<i0 ll)(l:List α):(bG e k f rs ll).set i (al e (rs[i]'(by omega)) k f l)=bG e k f rs (ll.set i l):=by rw[kW h,List.set_getElem_self]
theorem aa.SB{B:aB}{n h:f8}{s:Sl}{a:Nat}(H:aa B n h (al a s 1 bs rs::bG e k f rs ll))(c:i0 rs=i0 ll)(m:∀x,i0 (f x)=k):fO h s k f ll:=by
 refine⟨rs,H.seq 0 i4 λ_=>rfl,c,λi r l d b=>?_⟩;have g:i<i0 ll:=(qn.1 b).1;have j:=iZ (e:=e) (k:=k) (f:=f) c i g;have h3:=H.seq (i+1) (by simpa using j) m;have a:rs[i]'(by omega)=r:=by rw[qd i5]at d;simpa using d
 have e2:ll[i]=l:=by rw[qd g]at b;simpa using b
 rw[a,e2]at h3;exact h3
end
section
variable {α:Type} {h:f8} {p:aB} {s:Sl} {f:α->bc} {l:List α}
theorem Seq.RW{X:Type}{g:X->eX}(c:Seq h p s 1 f l){i:Int}(n:Nat)(r:i=n)(j:n<i0 l)(x:X)(q:f l[n]=[g x]){K:fz->X->Prop}(m:∀a:fz,f7 h (a.add (i.toNat*1))=dB (g x)->K a x):
  ∃a:fz,(s.ptr=dB a/\0<=i/\i<((s.len:Nat):Int))/\∃x:X,f7 h (a.add (i.toNat*1))=dB (g x)/\K a x:=by
 subst r;obtain⟨b,o,k,_,h3⟩:=c.elem n l[n] (qd j);rw[q]at h3;have d:=h3.1;rw[add_eq,wV]at d;have e:f7 h ((⟨b,o,eH⟩:fz).add ((n:Int).toNat*1))=dB (g x):=by rw[add_eq];simpa using d
 exact⟨_,⟨k,i5,p8⟩,x,e,m _ e⟩
end
theorem Seq.nX{h:f8}{p:aB}{s:Sl}{rs:List Sl}(c:Seq h p s 1 bs rs){i:Int}(n:Nat)(l:i=n)(f:n<i0 rs){K:fz->Sl->Prop}
  (j:∀a:fz,f7 h (a.add (i.toNat*1))=dB (.slice rs[n].ptr rs[n].len rs[n].cap)->p (a.add (i.toNat*1)).block->K a rs[n]):
  ∃a:fz,(s.ptr=dB a/\0<=i/\i<((s.len:Nat):Int))/\∃x:Sl,f7 h (a.add (i.toNat*1))=dB (.slice x.ptr x.len x.cap)/\K a x:=by
 subst l;obtain⟨b,o,g,k,h3⟩:=c.elem n rs[n] (qd f);have d:=h3.1;rw[add_eq,wV]at d;have e:f7 h ((⟨b,o,eH⟩:fz).add ((n:Int).toNat*1))=dB (.slice rs[n].ptr rs[n].len rs[n].cap):=by rw[add_eq];simpa using d
 exact⟨_,⟨g,i5,p8⟩,rs[n],e,j _ e (by rw[add_eq];exact k)⟩
section
variable {B:aB} {α:Type} {h0 h:f8} {As:List HP} {e k:Nat} {s:Sl} {f:α->bc} {l:List α}
theorem Own.cut(a:Own h e s k f l)(c:∀x,i0 (f x)=k)(j:Nat)(d:j<=i0 l):Own h e ⟨s.ptr,j,s.cap⟩ k f (l.take j):=by
 have g:=a.len;refine⟨i9,?_⟩;rcases a.head with⟨h1,h2,h3⟩|⟨b,rest,h1,h2,h3,h4⟩
 ·subst h3;exact .inl ⟨h1,h2,jj⟩
 ·refine .inr ⟨b,(l.drop j).flatMap f++rest,h1,?_,?_,i7⟩
  ·rw[<-qq,<-zk,qK];exact h2
  ·rw[qy,eu c,ze,h3,<-Nat.add_mul];dsimp only;congr 1;omega
end
section
variable {B:aB} {α:Type} {C:Ctx} {h0 h:f8} {As:List HP} {e t k:Nat} {s:Sl} {f:α->bc} {l:List α} {ti:TI}
end
section
variable {C:Ctx} {t t2 ty e k:Nat} {z:bc} {by_:Nat} {α:Type} {h h0:f8} {p B:aB} {s v:Sl} {f:α->bc} {l l2:List α} {As:List HP}
theorem Own.LY(D:C.Ok)(E:cj C.toCU t e k z by_)(u:∀x,i0 (f x)=k)(B:Own h e s k f l)(F:Seq h p v k f l2)(d:∀x,∀c∈f x,c.oneCell'=eR){K:Int->f8->Prop}
  (r:∀n h',Own h' e s k f (l2.take l.length++l.drop l2.length)->aY (λb=>¬s.on b) h h'->K n h'):
  aA C.P (w8 #[t,t2] ty #[.slice s.ptr s.len s.cap,.slice v.ptr v.len v.cap]) (.one (.sc (.int .i64))) h K:=by
 unfold aA w8;simp only[wc,yX,qB];refine af.bind (af.always (aU (E.under D)) ?_);refine af.bind (af.pure' ?_);refine af.bind (af.always (E.size D) ?_);have a:=B.len;have g:=F.len;obtain⟨m,i⟩:∃m,m=Nat.min v.len s.len:=⟨_,rfl⟩
 rw[<-i];have A:m<=i0 l2:=by rw[i,<-g];exact Nat.min_le_left _ _
 have q:m<=i0 l:=by rw[i,<-a];exact Nat.min_le_right _ _
 have J:m=min l2.length l.length:=by rw[i,a,g]
 have j:=F.take m A;have I:l2.take l.length++l.drop l2.length=l2.take m++l.drop m:=by
  rcases Nat.le_total l2.length l.length with hh|hh
  ·rw[qi hh,show m=i0 l2 by omega,qW]
  ·rw[show m=i0 l by omega,zf hh,List.drop_length]
 rw[I]at r;have y:wG k m (.slice v.ptr v.len v.cap)=wG k m (.slice v.ptr m v.cap):=by cases v.ptr<;>rfl
 rw[y];refine af.bind (iP (v:=⟨v.ptr,m,v.cap⟩) u j ?_);rcases B.head with⟨h1,h2,h3⟩|⟨b,rest,h1,h2,h3,h4⟩
 ·rw[h1];subst h3;have:m=0:=o9
  subst this;refine af.pure' ⟨_,i4,r _ h ?_ (aY.refl _ _)⟩;simpa using B
 ·rw[h1];refine af.bind ?_;have o:l.flatMap f++rest=(l.take m).flatMap f++((l.drop m).flatMap f++rest):=by rw[<-qq,<-zk,qK]
  rw[o]at h2;refine fX (e:=e) (pre:=[]) (old:=(l.take m).flatMap f) (post:=(l.drop m).flatMap f++rest) (by simpa using h2) (by rw[eu u,eu u,zb,zb];congr 1;omega) i4 ?_ ?_
  ·intro c G;obtain⟨x,_,w⟩:=zD.1 G;exact d x c w
  ·refine af.pure' ⟨_,i4,r _ _ ⟨by rw[a,qy,zb,ze];omega,.inr ⟨b,rest,h1,?_,h3,h4⟩⟩ (aY.kt h2 λH=>H ⟨0,h1⟩)⟩;rw[jt h2,f9 i4,zk];simp
theorem aa.LY(g:C.Ok)(H:aa B h0 h As)(i:Nat)(b:As[i]?=dB (al e s k f l))(j:cj C.toCU t e k z by_)(m:∀x,i0 (f x)=k)(o:Seq h p v k f l2)(a:∀x,∀c∈f x,c.oneCell'=eR){K:Int->f8->Prop}
  (d:∀n h',aa B h0 h' (As.set i (al e s k f (l2.take l.length++l.drop l2.length)))->K n h'):
  aA C.P (w8 #[t,t2] ty #[.slice s.ptr s.len s.cap,.slice v.ptr v.len v.cap]) (.one (.sc (.int .i64))) h K:=
 (H.own i b).LY g j m o a λn h' x y=>d n h' (H.pd i b y x)
end
def Ow(d:Sl)(w i:Nat):Sl:=⟨if d.cap=i*w then d.ptr else d.ptr.map (·.add (i*w*1)),(i+1)*w-i*w,d.cap-i*w⟩
def GI{α:Type}(l:List α)(w i:Nat):List α:=(l.drop (i*w)).take w
theorem Seq.piece{α:Type}{h:f8}{p:aB}{s:Sl}{f:α->bc}{l:List α}(c:Seq h p s 1 f l)(d:s.len<=s.cap)(w i:Nat)(g:(i+1)*w<=i0 l):Seq h p (Ow s w i) 1 f (GI l w i):=by
 have a:=c.drop (i*w) d;have e:(i+1)*w=i*w+w:=zG i w;have b:=a.take w l4;have e2:(i+1)*w-i*w=w:=i5
 unfold Ow GI;rw[e2];exact b
theorem afX{α:Type}{l:List α}{w i:Nat}(a:(i+1)*w<=i0 l):i0 (GI l w i)=w:=by have e:(i+1)*w=i*w+w:=zG i w;simp only[GI,zb,ze];omega
def HP.sep(A D:HP):HP:=
 ⟨λh q=>∃f g:aB,(∀b,f b->¬g b)/\(∀b,f b->q b)/\(∀b,g b->q b)/\A.p h f/\D.p h g,
  λ⟨f,g,a,b,c,d,e⟩ hp=>⟨f,g,a,b,c,A.loc d (hp.mono λx _ i=>b x i),D.loc e (hp.mono λx _ i=>c x i)⟩,
  λ⟨f,g,a,b,c,d,e⟩ hq=>⟨f,g,a,λx i=>hq x (b x i),λx i=>hq x (c x i),d,e⟩⟩
def HP.ex{ι:Type}(F:ι->HP):HP:=⟨λh q=>∃i,(F i).p h q,λ⟨i,a⟩ hp=>⟨i,(F i).loc a hp⟩,λ⟨i,a⟩ hq=>⟨i,(F i).mono a hq⟩⟩
def HP.and(A:HP)(P:Prop):HP:=⟨λh q=>A.p h q/\P,λa b=>⟨A.loc a.1 b,a.2⟩,λa c=>⟨A.mono a.1 c,a.2⟩⟩
section
variable {B:aB} {h0 h h':f8} {As Bs:List HP} {A D E:HP} {i j:Nat}
theorem aa.split(H:aa B h0 h As)(i:Nat)(n:As[i]?=dB (A.sep D)):aa B h0 h (As.set i A++[D]):=by
 classical
 obtain⟨s,p,c,z,a⟩:=H;obtain⟨w,v,o,m,s2,q,t⟩:=a i _ n;have u:=(qn.1 n).1;refine⟨s,p,λb=>if v b then As.length+1 else c b,λb e=>?_,λj X d=>?_⟩
 ·have r:=z b e;dsimp only;rw[g0];exact r;intro l;have:=(s2 b l).2;omega
 ·by_cases g:j<i0 As
  ·rw[qo k9,zd]at d;split at d
   ·rename_i f;subst f
    first|rw[f9 g]at d|skip
    injection d with d
    subst d;refine A.mono q λb e=>⟨(m b e).1,?_⟩
    dsimp only;rw[g0 (o b e)];exact(m b e).2
   ·rename_i f;refine X.mono (a j X d) λb e=>⟨e.1,?_⟩
    dsimp only;rw[g0];exact e.2;intro l;have:=(s2 b l).2;omega
  ·rw[qj k9]at d;rw[zA]at d;have k:j=i0 As:=by have:=(qn.1 d).1;simp at this;omega
   subst k;simp at d;subst d;refine D.mono t λb e=>⟨(s2 b e).1,?_⟩
   dsimp only;rw[f9 e]
theorem aa.join(H:aa B h0 h As)(i j:Nat)(b:i≠j)(l:As[i]?=dB A)(f:As[j]?=dB D):aa B h0 h ((As.set i (A.sep D)).set j emp):=
 H.merge i j b l f λc k e g d=>⟨c,k,e,λ_ a=>.inl a,λ_ a=>.inr a,g,d⟩
theorem aa.XU{ι:Type}{F:ι->HP}(H:aa B h0 h As)(i:Nat)(g:As[i]?=dB (HP.ex F)):∃x,aa B h0 h (As.set i (F x)):=by
 obtain⟨f,p,c,z,a⟩:=H;obtain⟨x,e⟩:=a i _ g;refine⟨x,f,p,c,z,λj X b=>?_⟩;rw[zd]at b;split at b
 ·rename_i d;subst d;split at b
  ·injection b with b;subst b;exact e
  ·cases b
 ·exact a j X b
theorem aa.close'{ι:Type}{F:ι->HP}(H:aa B h0 h As)(i:Nat)(x:ι)(b:As[i]?=dB (F x)):aa B h0 h (As.set i (HP.ex F)):=H.gg i b λ_ a=>⟨x,a⟩
theorem aa.fact{P:Prop}(H:aa B h0 h As)(i:Nat)(a:As[i]?=dB (A.and P)):P:=(H.at i a).2
theorem aa.afg{P:Prop}(H:aa B h0 h As)(i:Nat)(b:As[i]?=dB (A.and P)):aa B h0 h (As.set i A):=H.gg i b λ_ a=>a.1
theorem aa.aiH{P:Prop}(H:aa B h0 h As)(i:Nat)(c:As[i]?=dB A)(a:P):aa B h0 h (As.set i (A.and P)):=H.gg i c λ_ b=>⟨b,a⟩
theorem aa.cons(H:aa B h0 h As)(i:Nat)(g:As[i]?=dB A):aa B h0 h (A::As.set i emp):=by
 obtain⟨l,p,c,z,a⟩:=H;have k:=(qn.1 g).1;refine⟨l,p,λb=>if c b=i+1 then 1 else if c b=0 then 0 else c b+1,λb e=>?_,λj X d=>?_⟩
 ·have:=z b e;dsimp only;rw[g0 i5,f9 this]
 ·cases j with
  |zero=>
   simp at d;subst d;refine A.mono (a i A g) λb e=>⟨e.1,by dsimp only;rw[f9 e.2]⟩
  |succ j=>
   rw[qB,zd]at d;split at d
   ·rename_i f;injection d with d;subst d;trivial
   ·rename_i f;refine X.mono (a j X d) λb e=>⟨e.1,by dsimp only;rw[g0 i5,g0 i5];omega⟩
theorem aa.rest(H:aa B h0 h (A::As)):aa B h0 h As:=H.pick (λj=>j+1) (λa b h=>i5) λj X c=>oo
end
structure jz (α β:Type) where
 p:f8->aB->α->β->Prop
 loc:∀{h h':f8} {q:aB} {a:α} {b:β},p h q a b->aY q h h'->p h' q a b
 mono:∀{h:f8} {q q':aB} {a:α} {b:β},p h q a b->(∀x,q x->q' x)->p h q' a b
def cu{α:Type}(k:Nat)(f:α->bc):jz Sl (List α):=⟨λh q s l=>Seq h q s k f l,λa b=>a.ag b,λa c=>a.mono c⟩
def uy{α:Type}(k:Nat)(f:α->bc):jz Sl (List α):=⟨λh q s l=>Seq h q s k f l/\(l=[]->s.ptr=eH),λa b=>⟨a.1.ag b,a.2⟩,λa c=>⟨a.1.mono c,a.2⟩⟩
def bL{α β:Type}(E:jz α β)(k:Nat)(f:α->bc):jz Sl (List β):=
 ⟨λh q s ll=>∃rs:List α,Seq h q s k f rs/\rs.length=i0 ll/\∀(i:Nat) r l,rs[i]?=dB r->ll[i]?=dB l->E.p h q r l,
  λ⟨rs,a,b,c⟩ hp=>⟨rs,a.ag hp,b,λi r l d e=>E.loc (c i r l d e) hp⟩,λ⟨rs,a,b,c⟩ hq=>⟨rs,a.mono hq,b,λi r l d e=>E.mono (c i r l d e) hq⟩⟩
def ahm{α β:Type}(E:jz α β)(P:α->β->Prop):jz α β:=⟨λh q a b=>E.p h q a b/\P a b,λa c=>⟨E.loc a.1 c,a.2⟩,λa d=>⟨E.mono a.1 d,a.2⟩⟩
def EA{α β:Type}(E:jz α β)(a:α)(b:β):HP:=⟨λh q=>E.p h q a b,λx c=>E.loc x c,λx d=>E.mono x d⟩
abbrev dT{α β:Type}(E:jz α β)(h:f8)(a:α)(b:β):Prop:=E.p h (λb=>b<h.size) a b
def cm{α β:Type}(e:TypeId)(s:Sl)(k:Nat)(f:α->bc)(E:jz α β)(m:List β):HP:=
 ⟨λh q=>∃(rs:List α) (j:aB),Own h e s k f rs/\(∀b,s.on b->q b/\¬j b)/\(∀b,j b->q b)/\rs.length=i0 m/\∀(i:Nat) r l,rs[i]?=dB r->m[i]?=dB l->E.p h j r l,
  λ⟨rs,j,a,b,c,d,e⟩ hp=>⟨rs,j,a.ag hp λx g=>(b x g).1,b,c,d,λi r l n o=>E.loc (e i r l n o) (hp.mono λx _ g=>c x g)⟩,
  λ⟨rs,j,a,b,c,d,e⟩ hq=>⟨rs,j,a,λx g=>⟨hq x (b x g).1,(b x g).2⟩,λx g=>hq x (c x g),d,e⟩⟩
section
variable {α β:Type} {E:jz α β} {k:Nat} {f:α->bc} {h h':f8} {q:aB} {s:Sl} {ll:List β} {a:α} {b:β}
theorem dT.up(x:dT E h a b)(c:aY (λb=>b<h.size) h h'):dT E h' a b:=E.mono (E.loc x c) λ_ d=>q7 d c.1
theorem bL.kD(x:(bL E k f).p h q s ll):∃rs:List α,Seq h q s k f rs/\rs.length=i0 ll/\∀(i:Nat) (d:i<i0 rs) (e:i<i0 ll),E.p h q rs[i] ll[i]:=by obtain⟨rs,a,b,c⟩:=x;exact⟨rs,a,b,λi d e=>c i _ _ (qd d) (qd e)⟩
theorem bL.len(x:(bL E k f).p h q s ll):s.len=i0 ll:=by obtain⟨rs,a,b,c⟩:=x;rw[a.len,b]
theorem bL.nil(h:f8)(q:aB)(a:aO)(c:Nat):(bL E k f).p h q ⟨a,0,c⟩ []:=⟨[],Seq.nil h q c a k f,i4,λi r l b=>by simp at b⟩
theorem bL.take(x:(bL E k f).p h q s ll)(n:Nat)(j:n<=i0 ll):(bL E k f).p h q ⟨s.ptr,n,s.cap⟩ (ll.take n):=by
 obtain⟨rs,a,b,c⟩:=x;refine⟨rs.take n,a.take n i5,oi,λi r l d e=>?_⟩;rw[y7]at d e;split at d
 ·rename_i g;rw[f9 g]at e;exact c i r l d e
 ·cases d
theorem bL.get{X:Type}{g:X->eX}(x:(bL E 1 f).p h q s ll){i:Int}(n:Nat)(e:i=n)(b:n<i0 ll)(u:α->X)(j:∀r,f r=[g (u r)]){K:X->Prop}(d:∀r,E.p h q r ll[n]->K (u r)):
  ∃a:fz,(s.ptr=dB a/\0<=i/\i<((s.len:Nat):Int))/\∃x:X,f7 h (a.add (i.toNat*1))=dB (g x)/\K x:=by
 obtain⟨rs,c,k,h3⟩:=bL.kD x;exact c.bC n e i5 (u (rs[n]'(by omega))) (j _) (d _ (h3 n i5 b))
theorem bL.nX{E:jz Sl β}(x:(bL E 1 bs).p h q s ll){i:Int}(n:Nat)(d:i=n)(b:n<i0 ll){K:Sl->Prop}(c:∀r,E.p h q r ll[n]->K r):
  ∃a:fz,(s.ptr=dB a/\0<=i/\i<((s.len:Nat):Int))/\∃x:Sl,f7 h (a.add (i.toNat*1))=dB (.slice x.ptr x.len x.cap)/\K x:=
 bL.get (g:=λr:Sl=>Value.slice r.ptr r.len r.cap) x n d b id (λ_=>rfl) c
theorem bL.tofO{γ:Type}{d:Nat}{g:γ->bc}{l:List (List γ)}(x:dT (bL (cu d g) 1 bs) h s l):fO h s d g l:=by obtain⟨rs,a,b,c⟩:=x;exact⟨rs,a,b,c⟩
theorem bL.impl{α':Type}{e:Type}{E':jz α e}(u:β->e)(j:∀{h q a b},E.p h q a b->E'.p h q a (u b))(x:(bL E k f).p h q s ll):(bL E' k f).p h q s (ll.map u):=by
 obtain⟨rs,a,b,c⟩:=x;refine⟨rs,a,oi,λi r l g d=>?_⟩;rw[qS]at d;cases h3:ll[i]? with
 |none=>rw[h3]at d;cases d
 |some y=>rw[h3]at d;simp at d;subst d;exact j (c i r y g h3)
end
section
variable {α β:Type} {E:jz α β} {C:Ctx} {k e t:Nat} {f:α->bc} {B:aB} {h0 h h':f8} {As:List HP} {s:Sl} {ll:List β} {z:bc} {by_:Nat}
theorem aa.KL(H:aa B h0 h As)(e k:Nat)(f:α->bc)(E:jz α β):aa B h0 h (As++[cm e ⟨eH,0,0⟩ k f E []]):=
 H.comp (.one (aY.refl _ _) ⟨[],λ_=>False,Own.nil h e k f,λb a=>(by obtain⟨o,a⟩:=a;cases a),λ_ a=>a.elim,rfl,λi r l h=>m6⟩)
theorem aa.PH(H:aa B h0 h As)(i:Nat)(o:As[i]?=dB (cm e s k f E ll))(m:∀x,i0 (f x)=k):dT (bL E k f) h s ll:=by obtain⟨rs,p,a,b,c,d,e⟩:=H.at i o;exact⟨rs,a.seq m λx n=>(b x n).1,d,λi r l g j=>E.mono (e i r l g j) c⟩
theorem aa.WZ(H:aa B h0 h As)(i:Nat)(o:As[i]?=dB (cm e s k f E ll))(m:∀x,i0 (f x)=k):aa B h0 h (As.set i (EA (bL E k f) s ll)):=
 H.gg i o λq ⟨rs,p,a,b,c,d,e⟩=>⟨rs,a.seq m λx n=>(b x n).1,d,λi r l g j=>E.mono (e i r l g j) c⟩
theorem aa.eAt{a:α}{b:β}(H:aa B h0 h As)(i:Nat)(c:As[i]?=dB (EA E a b)):dT E h a b:=H.at i c
theorem aa.adh(H:aa B h0 h As)(i:Nat)(g:As[i]?=dB (cm e s k f E ll)):s.len=i0 ll/\s.len<=s.cap:=by obtain⟨rs,j,a,b,c,d,e⟩:=H.at i g;exact⟨by rw[a.len,d],a.cap⟩
theorem aa.wd(hC:C.Ok)(H:aa B h0 h As)(i j:Nat)(G:i≠j){a:α}{b:β}(Y:As[i]?=dB (cm e s k f E ll))(hj:As[j]?=dB (EA E a b))(he:cj C.toCU t e k z by_)(hz:i0 z=k)(V:0<by_/\by_<=128)(hw:∀x,i0 (f x)=k)
  (R:∀x,∀c∈f x,c.oneCell'=eR) {parts:Array (Nat×eX)} (J:wy (λi=>dB (i*k,k)) (jd z 1).toArray parts.toList=dB ([a].flatMap f).toArray) (U:1*k<=2^20)
  (ad:i0 ll+1<=2^32) {ty:Nat} {K:Sl->f8->Prop} (hk:∀T h',aa B h0 h' ((As.set j emp).set i (cm e T k f E (ll++[b])))->K T h'):
  aA C.P (qp t 1 parts) (.one (.sc .slc)) h λv u=>aA C.P (qu #[t,t] ty #[.slice s.ptr s.len s.cap,.slice v.ptr v.len v.cap]) (.one (.sc .slc)) u K:=by
 have H2:=H.merge i j G Y hj (D:=⟨λh q=>∃(rs:List α) (g:aB),Own h e s k f rs/\(∀b,s.on b->q b/\¬g b)/\(∀b,g b->q b)/\rs.length=i0 ll/\(∀(i:Nat) r l,rs[i]?=dB r->ll[i]?=dB l->E.p h g r l)/\E.p h g a b,
  λ⟨rs,g,a,b,c,d,e,f⟩ hp=>⟨rs,g,a.ag hp λx n=>(b x n).1,b,c,d,λi r l u F=>E.loc (e i r l u F) (hp.mono λx _ n=>c x n),E.loc f (hp.mono λx _ n=>c x n)⟩,
  λ⟨rs,g,a,b,c,d,e,f⟩ hq=>⟨rs,g,a,λx n=>⟨hq x (b x n).1,(b x n).2⟩,λx n=>hq x (c x n),d,e,f⟩⟩)
  (λg q2 hd hA hB=>by
   obtain⟨rs,q3,a,b,c,d,e'⟩:=hA;refine⟨rs,λb=>q3 b∨q2 b,a,λx n=>⟨.inl (b x n).1,λQ=>Q.elim (b x n).2 (hd x (b x n).1)⟩,λx n=>n.elim (λh=>.inl (c x h)) .inr,d,λi r l u F=>E.mono (e' i r l u F) λ_ h=>.inl h,E.mono hB λ_ h=>.inr h⟩)
 have w:i<i0 As:=(qn.1 Y).1;obtain⟨lo,pp,c,zz,ax⟩:=H2;have ha:=ax i _ (by rw[zI (Ne.symm G),zp w]);obtain⟨rs,g,a1,a2,a3,a4,a5,a6⟩:=ha;let Z:Nat->Nat:=λb=> @ite _ (g b) (Classical.propDecidable _) (i0 As+2) (c b);have M:∀b,g b->b<h.size/\c b=i+1:=a3;have ho:dO h Z (i+1) e s k f rs:=⟨a1,λb m=>by
  have:=a2 b m;show @ite _ (g b) (Classical.propDecidable _) _ _=_;rw[g0 this.2];exact this.1.2⟩
 refine ho.push hC he hz V hw R a J U i5 λT h' I L=>hk T h' ?_;rw[vo _ _ (Ne.symm G)];rw[<-yO (l:=As) (i:=i),vo _ _ G];have N:∀b,g b->Z b≠i+1:=λb m=>by
  show @ite _ (g b) (Classical.propDecidable _) _ _≠_;rw[f9 m];omega
 refine aa.Ee lo pp zz ax (L.mono λb m hn hc=>hn ⟨m,?_⟩) ⟨rs++[a],λb=>g b/\b<h.size,I.own,λb m=>?_,λb m=>⟨q7 m.2 L.1,.inl ⟨m.2,(M b m.1).2⟩⟩,by simp[a4],λX r' l' u F=>?_⟩
 ·by_cases A:g b
  ·exact(M b A).2
  ·have o:@ite _ (g b) (Classical.propDecidable _) (i0 As+2) (c b)=i+1:=hc;rw[g0 A]at o;exact o
 ·have y:=I.bv b m;by_cases w:b<h.size
  ·rw[gF w]at y;have S:¬g b:=λA=>N b A y;have o:@ite _ (g b) (Classical.propDecidable _) (i0 As+2) (c b)=i+1:=y;rw[g0 S]at o;exact⟨⟨I.own.lt m,.inl ⟨w,o⟩⟩,λQ=>S Q.1⟩
  ·exact⟨⟨I.own.lt m,.inr i5⟩,λQ=>w Q.2⟩
 ·have O:∀{rr:α} {l:β},E.p h g rr l->E.p h' (λb=>g b/\b<h.size) rr l:=λhs=>
   E.loc (E.mono hs (q':=λb=>g b/\b<h.size) λb m=>⟨m,(M b m).1⟩) (L.mono λb _ m=>N b m.1)
  by_cases W:X<i0 rs
  ·rw[qo W]at u;rw[qo i5]at F;exact O (a5 X r' l' u F)
  ·have:X=i0 rs:=by have:=(qn.1 u).1;simp at this;omega
   subst this;simp at u;rw[a4]at F;simp at F;subst u;subst F;exact O a6
theorem aa.ajc{N:TI}(hC:C.Ok)(H:aa B h0 h As)(i j:Nat)(y:i≠j){a:α}{b:β}(Q:As[i]?=dB (cm e s k f E ll))(R:As[j]?=dB (EA E a b))(hw:∀x,i0 (f x)=k)(ht:C.T.get t=dB N){x:Int}(n:Nat)(g:x=n)(hn:n<i0 ll){I:eX}(hv:I.cells=(f a).toArray)(M:N.size=k)
  (G:(f a).all (·.oneCell')=eR) {K:f8->Prop} (Z:∀h',aa B h0 h' ((As.set j emp).set i (cm e s k f E (ll.set n b)))->K h'):
  ∃a:fz,(s.ptr=dB a/\0<=x/\x<((s.len:Nat):Int))/\af C.P (qf t (.pointer (dB (a.add (x.toNat*k)))) I) h λ_ h'=>K h':=by
 have H2:=H.merge i j y Q R (D:=⟨λh q=>∃(rs:List α) (m:aB),Own h e s k f rs/\(∀b,s.on b->q b/\¬m b)/\(∀b,m b->q b)/\rs.length=i0 ll/\(∀(i:Nat) r l,rs[i]?=dB r->ll[i]?=dB l->E.p h m r l)/\E.p h m a b,
  λ⟨rs,m,a,b,c,d,e,f⟩ hp=>⟨rs,m,a.ag hp λx g=>(b x g).1,b,c,d,λi r l o v=>E.loc (e i r l o v) (hp.mono λx _ g=>c x g),E.loc f (hp.mono λx _ g=>c x g)⟩,
  λ⟨rs,m,a,b,c,d,e,f⟩ hq=>⟨rs,m,a,λx g=>⟨hq x (b x g).1,(b x g).2⟩,λx g=>hq x (c x g),d,e,f⟩⟩)
  (λm q2 W X hB=>by
   obtain⟨rs,q3,a,b,c,d,e'⟩:=X;refine⟨rs,λb=>q3 b∨q2 b,a,λx g=>⟨.inl (b x g).1,λhh=>hh.elim (b x g).2 (W x (b x g).1)⟩,λx g=>g.elim (λh=>.inl (c x h)) .inr,d,λi r l o v=>E.mono (e' i r l o v) λ_ h=>.inl h,E.mono hB λ_ h=>.inr h⟩)
 have L:i<i0 As:=(qn.1 Q).1;obtain⟨lo,pp,c,zz,ax⟩:=H2;have Y:=ax i _ (by rw[zI (Ne.symm y),zp L]);obtain⟨rs,m,a1,J,a3,a4,a5,S⟩:=Y;refine a1.set hC hw ht n g i5 a hv M G λh' z w _=>Z h' ?_;rw[vo _ _ (Ne.symm y)];rw[<-yO (l:=As) (i:=i),vo _ _ y];have keep:∀{O:α} {l:β},E.p h m O l->E.p h' m O l:=λU=>E.loc U (w.mono λb _ u A=>(J b A).2 u);refine aa.Ee lo pp zz ax (w.mono λb _ u A=>u (J b A).1) ⟨rs.set n a,m,z,λb u=>⟨⟨q7 (J b u).1.1 w.1,.inl (J b u).1⟩,(J b u).2⟩,λb u=>⟨q7 (a3 b u).1 w.1,.inl (a3 b u)⟩,by simp[a4],λV r' l' o v=>?_⟩;rw[zd]at o v;split at o
 ·rename_i F;rw[f9 F]at v;split at o
  ·injection o with o;subst o
   have e:l'=b:=by rw[f9 i5]at v;exact(zT.inj v).symm
   subst e;exact keep S
  ·cases o
 ·rename_i F;rw[g0 F]at v;exact keep (a5 V r' l' o v)
end
section
variable {α β:Type} {E:jz α β} {k e:Nat} {f:α->bc} {B:aB} {h0 h:f8} {As:List HP} {s:Sl}
theorem aa.ahn(H:aa B h0 h As)(i j:Nat)(g:i≠j){a:α}{b:β}(v:As[i]?=dB (al e s k f [a]))(o:As[j]?=dB (EA E a b)):aa B h0 h ((As.set i (cm e s k f E [b])).set j emp):=
 H.merge i j g v o λw u p c t=>⟨[a],u,c.1,λx m=>⟨.inl (c.2 x m),p x (c.2 x m)⟩,λ_ q=>.inr q,i4,λi r l d n=>by
  cases i with
  |succ i=>simp at d
  |zero=>simp at d n;subst d;subst n;exact t⟩
theorem aa.Bz{α:Type}{f:α->bc}{l:List α}(H:aa B h0 h As)(i:Nat)(c:As[i]?=dB (al e s k f l))(b:∀x,i0 (f x)=k):aa B h0 h (As.set i (EA (cu k f) s l)):=H.gg i c λ_ a=>a.1.seq b a.2
end
section
variable {α:Type} {B:aB} {h0 h:f8} {As:List HP} {e e2 k:Nat} {s:Sl} {f:α->bc} {rs:List Sl} {ll:List (List α)}
theorem aa.afY(H:aa B h0 h (As++(al e s 1 bs rs::bG e2 k f rs ll)))(w:i0 rs=i0 ll)(G:∀x,i0 (f x)=k)(n:Nat)(J:n<=i0 ll):aa B h0 h (As++[cm e ⟨s.ptr,n,s.cap⟩ 1 bs (cu k f) (ll.take n)]):=by
 classical
 obtain⟨I,p,c,z,a⟩:=H;refine⟨I,p,λb=>if c b>i0 As then As.length+1 else c b,λb d=>?_,λj X g=>?_⟩
 ·have:=z b d;dsimp only;rw[g0 i5];exact this
 ·by_cases o:j<i0 As
  ·rw[qo o]at g;refine X.mono (a j X (by rw[qo o];exact g)) λb d=>⟨d.1,?_⟩
   dsimp only;rw[g0 i5];exact d.2
  ·rw[qj i5]at g;have u:j=i0 As:=by have:=(qn.1 g).1;simp at this;omega
   subst u;simp at g;subst g;have y:=a As.length (al e s 1 bs rs) (by rw[qj (qk _)];simp);refine⟨rs.take n,λb=>b<h.size/\c b>i0 As+1,y.1.cut (λ_=>rfl) n i5,λb d=>?_,λb d=>?_,by simp[w],λi r l m h3=>?_⟩
   ·have t:=y.2 b d;refine⟨⟨t.1,?_⟩,λK=>i5⟩;dsimp only;rw[f9 i5]
   ·refine⟨d.1,?_⟩;dsimp only;rw[f9 i5]
   ·rw[y7]at m h3;split at m
    ·rename_i v;rw[f9 v]at h3;have A:i<i0 ll:=(qn.1 h3).1;have F:=iZ (e:=e2) (k:=k) (f:=f) w i A;have q:=a (i0 As+(i+1)) _ (by rw[qj i5];simpa using F);have E:rs[i]'(by omega)=r:=by rw[qd i5]at m;simpa using m
     have D:ll[i]=l:=by rw[qd A]at h3;simpa using h3
     rw[E,D]at q;exact q.1.seq G λb d=>⟨(q.2 b d).1,by have:=(q.2 b d).2;omega⟩
    ·cases m
theorem aa.RX{s:Sl}{a:List (List α)}(H:aa B h0 h As)(i:Nat)(c:As[i]?=dB (fQ e s k f a)):aa B h0 h (As.set i (cm e s 1 bs (cu k f) a)):=H.gg i c λ_ b=>b
end
theorem PI{h h':f8}{p:aB}(a:aY p h h'):∀{L:av},L.ok h->(∀x∈L,p x.1.block)->L.ok h'
 |[],_,_=>trivial
 |x::L,hk,hq=>⟨a.cell (hq x jj) hk.1,PI a hk.2 λy b=>hq y oi⟩
theorem lX{h h':f8}(d:aY (λb=>b<h.size) h h'){L:av}(c:L.ok h):L.ok h':=PI d c (by
 clear d
 induction L with
 |nil=>intro x a;cases a
 |cons y L ih=>
  intro x a;rcases qX.1 a with rfl|a
  ·exact vH c.1
  ·exact ih c.2 x a)
theorem aA.both{P:Program}{s:Sem eX}{h:f8}{K:Sl->f8->Prop}{Q:f8->Prop}(e:aA P s (.one (.sc .slc)) h λ_ h'=>Q h')(g:aA P s (.one (.sc .slc)) h K):aA P s (.one (.sc .slc)) h λx h'=>Q h'/\K x h':=by intro w a;obtain⟨m,l,c,i,j,a3,a4⟩:=e w a;obtain⟨o,n,b,k,x2,f,d⟩:=g w a;rw[c]at b;cases b;exact⟨_,_,c,i,x2,f,a4,d⟩
theorem aa.sq{α:Type}{B:aB}{C:Ctx}{o h:f8}{As:List HP}{e t k c:Nat}{z:bc}{K:Sl->f8->Prop}(q:C.Ok)(H:aa B o h As)(f:α->bc)(r:cj C.toCU t e k z c)(b:i0 z=k){n:Nat}{parts:Array (Nat×eX)}(l:List α)(g:i0 l=n)(d:n*k<=2^20)
  (a:wy (λi=>dB (i*k,k)) (jd z n).toArray parts.toList=dB (l.flatMap f).toArray) {L:av} (j:L.ok h) (p:aA C.P (qp t n parts) (.one (.sc .slc)) h K):
  aA C.P (qp t n parts) (.one (.sc .slc)) h λx h'=>L.ok h'/\K x h':=
 aA.both ((Sp.refl h).lit q f r b l g d a λ_ _ m=>lX m.ag j) p
section
variable {B:aB} {h0 h h':f8} {As Bs:List HP} {A D E:HP} {i j:Nat}
theorem aa.front(H:aa B h0 h (As++Bs)):aa B h0 h (Bs++As):=
 H.pick (λj=>if j<i0 Bs then As.length+j else if j<i0 Bs+i0 As then j-i0 Bs else j)
  (λa b c=>by(try dsimp only at c);split at c<;>split at c<;>(try split at c)<;>(try split at c)<;>omega) λj X e=>by
  try dsimp only
  split
  ·rename_i d;rw[qo d]at e;rw[qj i5,zq];exact e
  ·rename_i d;rw[qj i5]at e;have:=(qn.1 e).1;rw[f9 i5,qo this];exact e
theorem aa.bw(H:aa B h0 h (As++[A])):aa B h0 h (A::As):=H.front
theorem aa.ca(H:aa B h0 h As)(R:Sp h h' [A]):aa B h0 h' (A::As):=(H.comp R).bw
theorem aa.oF(H:aa B h0 h (A::As)):aa B h0 h As:=H.rest
theorem aa.pO(H:aa B h0 h (A::D::As)):aa B h0 h (A::As):=H.del 1
theorem aa.ta{ι:Type}{F:ι->HP}(H:aa B h0 h (HP.ex F::As)):∃x,aa B h0 h (F x::As):=H.XU 0 i4
theorem aa.yT{ι:Type}{F:ι->HP}(x:ι)(H:aa B h0 h (F x::As)):aa B h0 h (HP.ex F::As):=H.close' 0 x i4
theorem aa.tH(H:aa B h0 h (A.sep D::As)):aa B h0 h (D::A::As):=(H.split 0 i4).bw
theorem aa.mi(H:aa B h0 h (D::A::As)):aa B h0 h (A.sep D::As):=by have a:aa B h0 h (emp::A.sep D::As):=H.join 1 0 i6 i4 i4;exact a.rest
theorem aa.oh(H:aa B h0 h (A::D::As)):aa B h0 h (D::A::As):=H.aff 0 1 i4 i4
end
theorem Seq.mS{h:f8}{p:aB}{s:Sl}{rs:List Sl}(d:Seq h p s 1 bs rs){i:Int}(n:Nat)(e:i=n)(b:n<i0 rs){K:Sl->Prop}(c:K rs[n]):
  ∃a:fz,(s.ptr=dB a/\0<=i/\i<((s.len:Nat):Int))/\∃x:Sl,f7 h (a.add (i.toNat*1))=dB (.slice x.ptr x.len x.cap)/\K x:=
 d.bC (g:=λr:Sl=>Value.slice r.ptr r.len r.cap) n e b rs[n] i4 c
def St(B:aB)(a:f8)(As:List HP)(Q:f8->Prop):Prop:=∀(Bs:List HP) (h':f8),aa B a h' (Bs++As)->Q h'
section
variable {B:aB} {h0 h h':f8} {As Bs:List HP} {A:HP} {Q:f8->Prop}
theorem St.at(x:St B h0 As Q)(Bs:List HP)(H:aa B h0 h (Bs++As)):Q h:=x Bs h H
theorem St.base(b:Q h0)(a:∀h',aY B h0 h'->Q h'):St B h0 As Q:=λ_ _ H=>a _ H.ag
theorem St.fj(j:Nat)(a:As[j]?=dB A)(c:∀h',A.p h' (λb=>b<h'.size)->Q h'):St B h0 As Q:=λBs h' H=>c _ (H.at (i0 Bs+j) (by rw[qj i5,zq];exact a))
theorem St.cons(x:St B h0 As Q):St B h0 (A::As) Q:=λBs h' H=>x (Bs++[A]) h' (by rw[qq];exact H)
end
section
variable {β:Type} {E:jz Sl β} {h:f8} {q:aB} {s:Sl} {ll:List β}
theorem bL.ajd(x:(bL E 1 bs).p h q s ll){i:Int}(n:Nat)(l:i=n)(j:n<i0 ll){K:Sl->Prop}(k:∀(a:fz) (r:Sl),s.ptr=dB a->f7 h (a.add (n*1))=dB (.slice r.ptr r.len r.cap)->E.p h q r ll[n]->K r):
  ∃a:fz,(s.ptr=dB a/\0<=i/\i<((s.len:Nat):Int))/\∃x:Sl,f7 h (a.add (i.toNat*1))=dB (.slice x.ptr x.len x.cap)/\K x:=by
 subst l;obtain⟨rs,d,m,h3⟩:=bL.kD x;obtain⟨b,o,c,e2,g⟩:=d.elem n (rs[n]'(by omega)) (qd i5);have e:=g.1;rw[add_eq,wV]at e;have f:f7 h ((⟨b,o,eH⟩:fz).add (n*1))=dB (.slice (rs[n]'(by omega)).ptr (rs[n]'(by omega)).len (rs[n]'(by omega)).cap):=by rw[add_eq];exact e
 refine⟨_,⟨c,i5,by rw[d.len];omega⟩,rs[n]'(by omega),by rw[qm];exact f,k _ _ c f (h3 n i5 j)⟩
theorem bL.pick(x:(bL E 1 bs).p h q s ll)(n:Nat)(j:n<i0 ll){a:fz}{r:Sl}(l:s.ptr=dB a)(i:f7 h (a.add (n*1))=dB (.slice r.ptr r.len r.cap)):E.p h q r ll[n]:=by
 obtain⟨rs,k,u,h3⟩:=bL.kD x;obtain⟨b,o,c,e2,g⟩:=k.elem n (rs[n]'(by omega)) (qd i5);rw[l]at c;injection c with c
 subst c;have e:=g.1;rw[add_eq,wV]at e;have d:f7 h ((⟨b,o,eH⟩:fz).add (n*1))=dB (.slice (rs[n]'(by omega)).ptr (rs[n]'(by omega)).len (rs[n]'(by omega)).cap):=by rw[add_eq];exact e
 rw[i]at d;have f:=h3 n i5 j;generalize rs[n]'(by omega)=r' at d f;obtain⟨t,l1,v⟩:=r;obtain⟨m,l2,w⟩:=r';simp at d;obtain⟨rfl,rfl,rfl⟩:=d;exact f
end
theorem GJ{α:Type}{l:List α}(f:l.Nodup){a b:Nat}(e:a<i0 l)(c:b<i0 l)(h:l[a]=l[b]):a=b:=by
 have d:=zm.1 f;rcases wM a b with hlt|he|hgt
 ·exact absurd h (d a b e c hlt)
 ·exact he
 ·exact absurd h.symm (d b a c e hgt)
theorem aa.cE{B:aB}{k h:f8}{As:List HP}(H:aa B k h As)(L:List Nat)(g:∀j∈L,j<i0 As:=by simp)(m:L.Nodup:=by decide):aa B k h (L.map λj=>As.getD j emp):=by
 refine H.pick (λi=>if h:i<i0 L then L[i]else As.length+i) (λa b c=>?_) λi A2 e=>?_
 ·try dsimp only at c
  split at c<;>split at c
  ·exact GJ m _ _ c
  ·have:=g _ (qh (l:=L) (n:=a) n8);omega
  ·have:=g _ (qh (l:=L) (n:=b) n8);omega
  ·omega
 ·try dsimp only
  rw[qS]at e;split
  ·rename_i d;rw[qd d]at e;have f:=g _ (qh d);simp only[qT,zT.injEq]at e;rw[<-e,qe,qd f];rfl
  ·rename_i d;rw[qV i5]at e;simp at e
theorem St.mk'{B:aB}{a:f8}{As:List HP}{Q:f8->Prop}(x:∀h',aa B a h' As->Q h'):St B a As Q:=λBs h' H=>x h' (H.take Bs.length λi A b=>by
 rw[qj i5,zq];exact b)
theorem St.here{B:aB}{a h:f8}{As:List HP}{Q:f8->Prop}(x:St B a As Q)(H:aa B a h As):Q h:=x [] h H
theorem St.mono{B:aB}{b:f8}{As:List HP}{Q a:f8->Prop}(x:St B b As Q)(c:∀h,Q h->a h):St B b As a:=λBs h' H=>c _ (x Bs h' H)
theorem aa.aZ{B:aB}{m h:f8}{As:List HP}(H:aa B m h As)(k:Nat)(L:List Nat)(p:k<=i0 As:=by simp)(f:∀j∈L,j<k:=by simp)(o:L.Nodup:=by decide):aa B m h (L.map (λj=>As.getD j emp)++As.drop k):=by
 refine H.pick (λi=>if h:i<i0 L then L[i]else k+(i-i0 L)) (λa b d=>?_) λi A2 e=>?_
 ·try dsimp only at d
  split at d<;>split at d
  ·exact GJ o _ _ d
  ·have:=f _ (qh (l:=L) (n:=a) n8);omega
  ·have:=f _ (qh (l:=L) (n:=b) n8);omega
  ·omega
 ·try dsimp only
  by_cases c:i<i0 L
  ·rw[dif_pos c];rw[qo oo,qS,qd c]at e;have g:=f _ (qh c);simp only[qT,zT.injEq]at e;rw[<-e,qe,qd i5];rfl
  ·rw[dif_neg c];rw[qj oo,qA,wH]at e;exact e
section
variable {α β:Type} {E:jz α β} {C:Ctx} {k e t by_:Nat} {f:α->bc} {B:aB} {h0 h h':f8} {As:List HP} {q:aB} {s:Sl} {rs:List α} {ll:List β} {ti:TI} {z:bc}
def Fix(E:jz α β)(k:Nat)(f:α->bc)(h:f8)(q:aB)(s:Sl)(rs:List α)(a:List β):Prop:=Seq h q s k f rs/\rs.length=i0 a/\∀(i:Nat) r l,rs[i]?=dB r->a[i]?=dB l->E.p h q r l
theorem Fix.ag(x:Fix E k f h q s rs ll)(a:aY q h h'):Fix E k f h' q s rs ll:=⟨x.1.ag a,x.2.1,λi r l b c=>E.loc (x.2.2 i r l b c) a⟩
theorem Fix.mono{q':aB}(x:Fix E k f h q s rs ll)(a:∀b,q b->q' b):Fix E k f h q' s rs ll:=⟨x.1.mono a,x.2.1,λi r l c d=>E.mono (x.2.2 i r l c d) a⟩
abbrev ol(E:jz α β)(k:Nat)(f:α->bc)(h:f8)(s:Sl)(rs:List α)(a:List β):Prop:=Fix E k f h (λb=>b<h.size) s rs a
theorem ol.up(x:ol E k f h s rs ll)(a:aY (λb=>b<h.size) h h'):ol E k f h' s rs ll:=(Fix.ag x a).mono λ_ c=>q7 c a.1
theorem Fix.row(x:Fix E k f h q s rs ll){i:Nat}(a:i<i0 ll):E.p h q (rs[i]'(by rw[x.2.1];exact a)) ll[i]:=x.2.2 i _ _ (qd _) (qd _)
theorem bL.fix(x:(bL E k f).p h q s ll):∃rs,Fix E k f h q s rs ll:=x
theorem Fix.elt(x:Fix E k f h q s rs ll):(bL E k f).p h q s ll:=⟨rs,x⟩
def cW(E:jz α β)(k:Nat)(f:α->bc)(s:Sl)(rs:List α)(c:List β):HP:=⟨λh q=>Fix E k f h q s rs c,λx a=>x.ag a,λx b=>x.mono b⟩
theorem aa.SC(H:aa B h0 h As)(i:Nat)(m:As[i]?=dB (cm e s k f E ll))(o:∀x,i0 (f x)=k):∃rs,aa B h0 h (As.set i (cW E k f s rs ll)):=by
 have g:i<i0 As:=(qn.1 m).1;have t:aa B h0 h (As.set i (HP.ex λrs=>cW E k f s rs ll)):=H.gg i m λq ⟨rs,v,a,b,c,d,e⟩=>⟨rs,a.seq o λx p=>(b x p).1,d,λi r l n u=>E.mono (e i r l n u) c⟩
 obtain⟨rs,j⟩:=t.XU i (zp g);exact⟨rs,by rw[yO]at j;exact j⟩
theorem aa.fR(H:aa B h0 h As)(i:Nat)(a:As[i]?=dB (cW E k f s rs ll)):ol E k f h s rs ll:=H.at i a
theorem aa.GK(e:C.Ok)(H:aa B h0 h As)(f:C.T.get t=dB ti){K:fz->f8->Prop}(d:∀a h',aY (λb=>b<h.size) h h'->aa B h0 h' (As++[ao a t ti.zero])->K a h'):
  aQ C.P (qP t eR (.tuple #[])) h K:=
 Bx e f λa h' x y c _=>d a h' (c.mono λ_ _ _=>trivial) (H.comp (Ov x y c))
theorem aa.LZ(A:C.Ok)(H:aa B h0 h As)(f:α->bc)(E:cj C.toCU t e k z by_)(d:0<by_/\by_<=128)(j:α)(s:f j=z)(g:i0 z=k){v D:IntKind}{n o:Int}(m c:Nat)(r:n=m)(q:o=c)(l:m<=c)(i:c<=2^32)
  {K:Sl->f8->Prop} (u:∀a h',a.len=m->aY (λb=>b<h.size) h h'->aa B h0 h' (As++[al e a k f (qg m j)])->K a h'):
  aA C.P (qG t (.int v n) (.int D o)) (.one (.sc .slc)) h K:=
 run_make A E d j s g m c r q l i λa h' x y w p _=>u a h' (by rw[x.len];simp) (p.mono λ_ _ _=>trivial) (H.comp (Ou i4 x y p))
end
section
variable {α:Type} {C:Ctx} {B:aB} {h0 h:f8} {As:List HP} {e t k:Nat} {s:Sl} {f:α->bc} {l:List α} {i:TI}
theorem Own.adi(I:C.Ok)(v:Own h e s k f l)(A:∀x,i0 (f x)=k)(J:C.T.get t=dB i){x:Int}(n:Nat)(F:x=n)(r:n<i0 l)(j:Nat)(vs:bc)(M:j+i0 vs<=k){q:eX}(y:α)(L:q.cells=vs.toArray)(u:i.size=i0 vs)
  (o:vs.all (·.oneCell')=eR) (D:f y=(f l[n]).take j++vs++(f l[n]).drop (j+i0 vs)) {K:f8->Prop} (E:∀h',Own h' e s k f (l.set n y)->aY (λb=>¬s.on b) h h'->K h'):
  ∃a:fz,(s.ptr=dB a/\0<=x/\x<((s.len:Nat):Int))/\af C.P (qf t (.pointer (dB ((a.add (x.toNat*k)).add j))) q) h λ_ h'=>K h':=by
 subst F;rcases v.head with⟨_,_,h3⟩|⟨b,rest,h1,h2,h3,h4⟩
 ·subst h3;simp at r
 ·refine⟨_,⟨h1,i5,by rw[v.len];omega⟩,?_⟩;unfold qf;refine af.bind (af.pure' ?_);unfold storeVar;refine af.bind (af.always (ee I.toOk J) ?_);rw[L,u];simp only[yb,ne_eq,not_true,if_false];rw[add_eq,add_eq,wJ,qm];have g:l=l.take n++l[n]::l.drop (n+1):=by rw[<-qQ r,qK]
  have p:l.set n y=l.take n++y::l.drop (n+1):=w5.trans (f9 r);have m:i0 ((l.take n).flatMap f)=n*k:=by rw[eu A,zb,yx i5]
  have G:=A l[n];have d:f l[n]=(f l[n]).take j++((f l[n]).drop j).take vs.length++(f l[n]).drop (j+i0 vs):=by rw[qq,<-zN,qK,qK]
  refine fX (e:=e) (pre:=(l.take n).flatMap f++(f l[n]).take j) (old:=((f l[n]).drop j).take vs.length) (post:=(f l[n]).drop (j+i0 vs)++((l.drop (n+1)).flatMap f++rest)) ?_ ?_ ?_ ?_ ?_
  ·have:l.flatMap f++rest=(l.take n).flatMap f++(f l[n]).take j++((f l[n]).drop j).take vs.length++((f l[n]).drop (j+i0 vs)++((l.drop (n+1)).flatMap f++rest)):=by
    have w:=congrArg (List.flatMap f) g;rw[zk,zg]at w;rw[w];generalize f l[n]=z at d;rw[qq]at d;simp only[qq];congr 1
    conv=>lhs;rw[d]
    simp only[qq]
   rw[<-this];exact h2
  ·simp;omega
  ·rw[qy,m,zb];omega
  ·intro c B;exact qL.1 o c B
  ·refine E _ ⟨by rw[zA];exact v.len,.inr ⟨b,rest,h1,?_,h3,h4⟩⟩ (aY.kt h2 λH=>H ⟨0,h1⟩);rw[jt h2,f9 i4,p,zk,zg,D];simp[qq]
theorem aa.adi(A:C.Ok)(H:aa B h0 h As)(g:Nat)(c:As[g]?=dB (al e s k f l))(u:∀x,i0 (f x)=k)(D:C.T.get t=dB i){x:Int}(n:Nat)(v:x=n)(p:n<i0 l)(j:Nat)(vs:bc)(o:j+i0 vs<=k){d:eX}(y:α)(E:d.cells=vs.toArray)(m:i.size=i0 vs)
  (b:vs.all (·.oneCell')=eR) (r:f y=(f l[n]).take j++vs++(f l[n]).drop (j+i0 vs)) {K:f8->Prop} (q:∀h',aa B h0 h' (As.set g (al e s k f (l.set n y)))->K h'):
  ∃a:fz,(s.ptr=dB a/\0<=x/\x<((s.len:Nat):Int))/\af C.P (qf t (.pointer (dB ((a.add (x.toNat*k)).add j))) d) h λ_ h'=>K h':=
 (H.own g c).adi A u D n v p j vs o y E m b r λh' z w=>q h' (H.pd g c w z)
end
def HP.all:List HP->HP
 |[]=>emp
 |A::L=>A.sep (HP.all L)
section
variable {B:aB} {h0 h h':f8} {As L:List HP} {A D E:HP}
theorem aa.pf:∀{L:List HP} {As:List HP},aa B h0 h (HP.all L::As)->aa B h0 h (L++As)
 |[],_,H=>H.rest
 |A::L,As,H=>by
  have e:aa B h0 h (HP.all L::A::As):=H.tH;have f:=aa.pf e;exact f.pick (λi=>if i=0 then L.length else if i<=i0 L then i-1 else i) (λa b c=>by(try dsimp only at c);split at c<;>split at c<;>(try split at c)<;>(try split at c)<;>omega) λi X d=>by
   try dsimp only
   rw[zy]at d;cases i with
   |zero=>simp at d;subst d;rw[f9 i4,qj (qk _),zc];rfl
   |succ i=>
    rw[qB]at d;rw[g0 i5];by_cases g:i<i0 L
    ·rw[qo g]at d;rw[f9 i5,qo i5];simpa using d
    ·rw[qj i5]at d;rw[g0 i5,qj i5];rw[show i+1-i0 L=(i-i0 L)+1 by omega,qB];exact d
theorem aa.closeAll:∀(L:List HP) {As:List HP},aa B h0 h (L++As)->aa B h0 h (HP.all L::As)
 |[],As,H=>((H.comp (.one (A:=emp) (aY.refl _ _) trivial)).bw:aa B h0 h (emp::As))
 |A::L,As,H=>by
  have g:aa B h0 h (L++(A::As)):=H.pick (λi=>if i<i0 L then i+1 else if i=i0 L then 0 else i) (λa b c=>by(try dsimp only at c);split at c<;>split at c<;>(try split at c)<;>(try split at c)<;>omega) λi X d=>by
   try dsimp only
   by_cases e:i<i0 L
   ·rw[qo e]at d;rw[f9 e,zy,qB,qo e];exact d
   ·rw[qj i5]at d;by_cases f:i=i0 L
    ·subst f;rw[zc]at d;rw[g0 i5,f9 rfl];simpa using d
    ·rw[g0 e,g0 f,zy];obtain⟨j,rfl⟩:∃j,i=i0 L+(j+1):=⟨i-i0 L-1,i5⟩
     rw[zq,qB]at d;rw[show L.length+(j+1)=(i0 L+j)+1 by omega,qB,qj i5,zq];exact d
  exact(aa.closeAll L g).mi
theorem aa.KM{P:Prop}(H:aa B h0 h (A.and P::As)):aa B h0 h (A::As)/\P:=⟨H.afg 0 i4,H.fact 0 i4⟩
theorem aa.toKM{P:Prop}(H:aa B h0 h (A::As))(p:P):aa B h0 h (A.and P::As):=H.aiH 0 i4 p
end
def dQ{α:Type}(e:TypeId)(s:Sl)(b:TypeId)(k:Nat)(f:α->bc)(a:List (List α)):HP:=
 HP.ex λrs:List Sl=>(HP.all (al e s 1 bs rs::bG b k f rs a)).and (i0 rs=i0 a)
section
variable {α:Type} {C:Ctx} {B:aB} {h0 h h':f8} {As:List HP} {e e2 k t by_:Nat} {s:Sl} {f:α->bc} {ll:List (List α)}
theorem aa.IZ(H:aa B h0 h (dQ e s e2 k f ll::As)):∃rs:List Sl,i0 rs=i0 ll/\aa B h0 h ((al e s 1 bs rs::bG e2 k f rs ll)++As):=by obtain⟨rs,H⟩:=H.ta;obtain⟨H,a⟩:=H.KM;exact⟨rs,a,H.pf⟩
theorem aa.Ma{rs:List Sl}(a:i0 rs=i0 ll)(H:aa B h0 h ((al e s 1 bs rs::bG e2 k f rs ll)++As)):aa B h0 h (dQ e s e2 k f ll::As):=
 ((aa.closeAll _ H).toKM a).yT (F:=λrs:List Sl=>(HP.all (al e s 1 bs rs::bG e2 k f rs ll)).and (i0 rs=i0 ll)) rs
theorem aa.Aa(H:aa B h0 h As)(e a k:Nat)(f:α->bc):aa B h0 h (dQ e ⟨eH,0,0⟩ a k f []::As):=
 aa.Ma (rs:=[]) i4 ((H.nil e 1 bs).bw)
theorem aa.adj{Bs:List HP}(H:aa B h0 h (As++Bs)):aa B h0 h As:=H.pick id (λ_ _ h=>h) λi A a=>by
 rw[id,qo (qn.1 a).1];exact a
theorem aa.Fs(H:aa B h0 h (dQ e s e2 k f ll::As))(b:∀x,i0 (f x)=k):fO h s k f ll:=by obtain⟨rs,a,H⟩:=H.IZ;exact aa.SB (aa.adj H) a b
theorem aa.Ef(H:aa B h0 h (dQ e s e2 k f ll::As)):s.len=i0 ll/\s.len<=s.cap:=by obtain⟨rs,a,H⟩:=H.IZ;exact⟨by rw[(H.own 0 i4).len,a],(H.own 0 i4).cap⟩
theorem aa.Eg(l:C.Ok){r:Sl}{x:List α}(H:aa B h0 h (dQ e s e2 k f ll::al e2 r k f x::As))(m:cj C.toCU t e 1 [.slice eH 0 0] 24)(j:i0 ll+1<=2^32){ty:Nat}{K:Sl->f8->Prop}
  (i:∀a h',aa B h0 h' (dQ e a e2 k f (ll++[x])::As)->K a h'):
  aA C.P (qp t 1 #[(0,.slice r.ptr r.len r.cap)]) (.one (.sc .slc)) h λv g=>aA C.P (qu #[t,t] ty #[.slice s.ptr s.len s.cap,.slice v.ptr v.len v.cap]) (.one (.sc .slc)) g K:=by
 obtain⟨rs,c,H⟩:=H.IZ;refine H.push l 0 i4 m i4 i6 (λ_=>rfl) kb r i4 i6 i5 λa h' b=>i a h' ?_;refine aa.Ma (rs:=rs++[r]) mn ?_;rw[xZ c];have b:aa B h0 h' (al e a 1 bs (rs++[r])::(bG e2 k f rs ll++al e2 r k f x::As)):=b;have d:al e a 1 bs (rs++[r])::(bG e2 k f rs ll++[al e2 r k f x])++As=al e a 1 bs (rs++[r])::(bG e2 k f rs ll++al e2 r k f x::As):=jj
 rw[d];exact b
end
end Go.Vc
namespace Gf
theorem adk{p:UInt8->Prop}(h:∀n,n<256->p (yB n))(a:UInt8):p a:=by
 have:=h a.toNat (UInt8.toNat_lt a)
 rwa [UInt8.ofNat_toNat]at this
def x2(a:UInt8):UInt8:=(a<<<1)^^^(if a&&&0x80=0 then 0 else 0x1b)
def x3(a:UInt8):UInt8:=x2 a^^^a
def pw:Nat->UInt8
 |0=>1
 |n+1=>x3 (pw n)
theorem afZ(a b c:UInt8):(a^^^b)&&&c=(a&&&c)^^^(b&&&c):=by apply UInt8.toBitVec_inj.1;simp[UInt8.toBitVec_xor,UInt8.toBitVec_and];ext i hi;simp[Bool.and_xor_distrib_right]
theorem aga(a b:UInt8):(a^^^b)<<<1=(a<<<1)^^^(b<<<1):=by apply UInt8.toBitVec_inj.1;simp[UInt8.toBitVec_xor,UInt8.toBitVec_shiftLeft,BitVec.shiftLeft_xor_distrib]
theorem SD:∀a:UInt8,a&&&0x80=0∨a&&&0x80=0x80:=adk j6
theorem adl(a b c d:UInt8):(a^^^b)^^^(c^^^d)=(a^^^c)^^^(b^^^d):=by ac_rfl
theorem aho(a b:UInt8):x2 (a^^^b)=x2 a^^^x2 b:=by
 unfold x2;rw[afZ,aga];rcases SD a with ha|ha<;>rcases SD b with hb|hb<;>rw[ha,hb]
 ·simp
 ·simp[UInt8.xor_assoc]
 ·rw[adl];simp
 ·rw[adl];simp
theorem ahp(a b:UInt8):x3 (a^^^b)=x3 a^^^x3 b:=by unfold x3;rw[aho,adl]
def Ab:Nat->UInt8->UInt8
 |0,a=>a
 |n+1,a=>x3 (Ab n a)
theorem Xa(a b:UInt8):∀n,Ab n (a^^^b)=Ab n a^^^Ab n b
 |0=>rfl
 |n+1=>by simp only[Ab,Xa a b n,ahp]
theorem Ox(a:UInt8)(m:Nat):∀n,Ab (n+m) a=Ab n (Ab m a)
 |0=>by simp[Ab]
 |n+1=>by rw[Nat.add_right_comm];simp only[Ab,Ox a m n]
theorem SE:∀n,Ab n 0=0
 |0=>rfl
 |n+1=>by rw[Ab,SE n];rfl
theorem CX:∀n,pw n=Ab n 1
 |0=>rfl
 |n+1=>by rw[pw,Ab,CX n]
def aje:Nat:=939374623831894136699086600277250597547650664638770418422125146541797353646788332867483593573384618611044815625336497665827114626705134492515730415652478061620339993830966980270842846318821775850471098591710629241171812800746666233448222972174585295916389942636813666312872914849454985560152530477328703759683306625234997237483834721220409437442253146756845415190424543171129629468776480674528486868811725071010351012234056630775688111116293610821126543142160426617079940511630006820862697466582575257349116925728488930366609138264019883664906661504235885380294353134295748489096855100647154935187045898006656778240
def lg(a:UInt8):Nat:=(aje>>>(8*a.toNat))%256
theorem Mb:∀a:UInt8,lg a<255:=adk j6
theorem XV:∀a:UInt8,a≠0->pw (lg a)=a:=adk j6
theorem XW:∀n,n<255->lg (pw n)=n:=j6
theorem ahq:pw 255=1:=j6
theorem XX:∀n,n<255->pw n≠0:=j6
theorem ZW(n:Nat):pw (n+255)=pw n:=by rw[CX,Ox,<-CX 255,ahq,<-CX]
theorem ZX(n:Nat):pw (n%255)=pw n:=by
 have:∀k m,pw (m+255*k)=pw m:=by
  intro k
  induction k with
  |zero=>intro m;rfl
  |succ k ih=>intro m;rw[Nat.mul_succ,<-w9,ZW,ih]
 have h:=this (n/255) (n%255);rw[Nat.mod_add_div]at h;exact h.symm
def mul(a b:UInt8):UInt8:=if a=0∨b=0 then 0 else pw ((lg a+lg b)%255)
def inv(a:UInt8):UInt8:=if a=0 then 0 else pw ((255-lg a)%255)
theorem mul_zero(a:UInt8):mul a 0=0:=by simp[mul]
theorem zero_mul(a:UInt8):mul 0 a=0:=by simp[mul]
theorem mul_comm(a b:UInt8):mul a b=mul b a:=by
 unfold mul;rw[Nat.add_comm];by_cases h:a=0∨b=0
 ·rw[f9 h,f9 h.symm]
 ·rw[g0 h,g0 λx=>h x.symm]
theorem SF(a b:UInt8)(d:a≠0):mul a b=Ab (lg a) b:=by
 by_cases c:b=0
 ·subst c;rw[mul_zero,SE]
 ·rw[mul,g0 (by simp[d,c]),ZX,CX,Ox,<-CX,XV b c]
theorem ku(a b c:UInt8):mul a (b^^^c)=mul a b^^^mul a c:=by
 by_cases d:a=0
 ·subst d;simp[zero_mul]
 ·rw[SF _ _ d,SF _ _ d,SF _ _ d,Xa]
theorem Xb(a b c:UInt8):mul (a^^^b) c=mul a c^^^mul b c:=by rw[mul_comm,ku,mul_comm c a,mul_comm c b]
theorem ZY{a b:UInt8}(c:a≠0)(d:b≠0):mul a b≠0:=by rw[mul,g0 (by simp[c,d])];exact XX _ (yw _ i6)
theorem ZZ{a b:UInt8}(c:a≠0)(d:b≠0):lg (mul a b)=(lg a+lg b)%255:=by rw[mul,g0 (by simp[c,d]),XW _ (yw _ i6)]
theorem mul_assoc(a b c:UInt8):mul (mul a b) c=mul a (mul b c):=by
 by_cases e:a=0
 ·subst e;simp[zero_mul]
 by_cases d:b=0
 ·subst d;simp[zero_mul,mul_zero]
 by_cases f:c=0
 ·subst f;simp[mul_zero]
 rw[mul,g0 (by simp[ZY e d,f]),ZZ e d,mul,g0 (by simp[e,ZY d f]),ZZ d f];congr 1;omega
theorem ahr:lg 1=0:=j6
theorem one_mul(a:UInt8):mul 1 a=a:=by
 by_cases b:a=0
 ·subst b;rfl
 ·rw[mul,g0 oi,ahr,wJ,ZX,XV a b]
theorem mul_one(a:UInt8):mul a 1=a:=by rw[mul_comm,one_mul]
theorem ahs{a:UInt8}(b:a≠0):inv a≠0:=by rw[inv,g0 b];exact XX _ (yw _ i6)
theorem Oy{a:UInt8}(b:a≠0):mul a (inv a)=1:=by
 have c:=Mb a;rw[mul,g0 (by simp[b,ahs b]),inv,g0 b,XW _ (yw _ i6)];have:(lg a+(255-lg a)%255)%255=0:=i5
 rw[this];rfl
end Gf
namespace Wl
structure Pow where
 off:Bool
 fuse:Option Nat
 offs:Int
def Pow.new:Pow:=⟨eS,eH,0⟩
def Pow.step(w:Pow):Bool×Pow:=
 if w.off then(eS,w)else match w.fuse with
 |none=>(eR,w)
 |some 0=>(eS,⟨eR,dB 0,Go.IntKind.wrap .i64 (w.offs+1)⟩)
 |some (k+1)=>(eR,⟨eS,dB k,w.offs⟩)
structure bo where
 room:Nat
 l:cw
 wait:Nat
 laid:cw
 has:Bool
 lost:Bool
def bo.new(a:Nat):bo:=⟨a,[],0,[],eS,eS⟩
def bo.append(w:Pow)(d:bo)(b:ba):Int×Pow×bo:=
 if b.length≠64 then(1,w,d)
 else if d.lost then(5,w,d)
 else if d.room<=i0 d.l then(7,w,d)
 else if w.off then(14,w,d)
 else if w.step.1 then(0,w.step.2,{d with l:=d.l++[b],wait:=d.wait+1,laid:=[],has:=eS})
 else(14,w.step.2,{d with l:=d.l++[b],wait:=d.wait+1})
def bo.sync(w:Pow)(d:bo):Int×Pow×bo:=
 if d.lost then(5,w,d)
 else if w.step.1 then(0,w.step.2,{d with wait:=0,laid:=[],has:=eS})
 else(14,w.step.2,d)
def bo.rewrite(w:Pow)(d:bo)(l:cw):Int×Pow×bo:=
 if !l.all (λb=>decide (i0 b=64))then(1,w,d)
 else if d.lost then(5,w,d)
 else if d.room<i0 l then(7,w,d)
 else if w.off then(14,w,d)
 else if w.step.1 then(0,w.step.2,{d with l:=l,wait:=0,laid:=[],has:=eS})
 else(14,w.step.2,{d with laid:=l,has:=eR})
def bo.Cn(d:bo):bo:={d with lost:=eR,l:=[],wait:=0,laid:=[],has:=eS}
abbrev aF:=List (Option bo)
def aX(ds:aF)(a:Int):Option bo:=if 0<=a/\a<64 then(ds[a.toNat]?).join else eH
def bS(ds:aF)(a:Int)(d:bo):aF:=ds.set a.toNat (dB d)
def isLive(ds:aF)(a:Int):Bool:=match aX ds a with|some d=>!d.lost|none=>eS
def aR(ds:aF)(a:az):az:=a.filter (isLive ds)
def fT(w:Pow)(ds:aF)(a:Int)(b:ba):Int×Pow×aF:=
 match aX ds a with
 |none=>(if b.length≠64 then 1 else 5,w,ds)
 |some d=>((d.append w b).1,(d.append w b).2.1,bS ds a (d.append w b).2.2)
def gI(w:Pow)(ds:aF)(a:Int):Int×Pow×aF:=
 match aX ds a with
 |none=>(5,w,ds)
 |some d=>((d.sync w).1,(d.sync w).2.1,bS ds a (d.sync w).2.2)
def lF:List (Int×ba)->Pow->aF->Int×Pow×aF
 |[],w,ds=>(0,w,ds)
 |x::l,w,ds=>let r:=fT w ds x.1 x.2;if r.1=0 then lF l r.2.1 r.2.2 else r
def eW:az->Pow->aF->Int×Pow×aF
 |[],w,ds=>(0,w,ds)
 |x::l,w,ds=>let r:=gI w ds x;if r.1=0 then eW l r.2.1 r.2.2 else r
theorem wf(x:Int)(l:az)(w:Pow)(ds:aF):eW (x::l) w ds=if(gI w ds x).1=0 then eW l (gI w ds x).2.1 (gI w ds x).2.2 else gI w ds x:=rfl
theorem Ac(x:Int×ba)(l:List (Int×ba))(w:Pow)(ds:aF):lF (x::l) w ds=if(fT w ds x.1 x.2).1=0 then lF l (fT w ds x.1 x.2).2.1 (fT w ds x.1 x.2).2.2 else fT w ds x.1 x.2:=rfl
def cA(l:az):az:=((qw 64).map λi:Nat=>(i:Int)).filter λi=>decide (i∈l)
def layAll(l:List (Int×ba))(w:Pow)(ds:aF):Int×Pow×aF:=
 let r:=lF l w ds
 if r.1=0 then eW (cA (l.map qM)) r.2.1 r.2.2 else r
end Wl
namespace Go.Vc
open Go
theorem KN(l:az):l.flatMap aq=l.map (Value.int .i64):=by
 induction l with
 |nil=>rfl
 |cons a t ih=>rw[zg,ih];rfl
theorem PJ{w:World}{e:TypeId}{b:Nat}{rest:bc}{l:az}(c:w.heap[b]?=dB (.cells (l.flatMap aq++rest).toArray e (0,0))):Sort.Holds (Value.int .i64) w b 0 l.toArray:=by
 intro j d;have a:j<i0 l:=n5
 refine⟨?_,by simp[World.frozen?,c]⟩;rw[KN]at c;have:(l.map (Value.int .i64)++rest)[j]?=dB (xi xo l[j]):=by rw[qo j9,qS,qd a];rfl
 simp[World.cell?,c,this,a]
theorem SG(l l':az)(rest:bc)(c:i0 l'=i0 l):Sort.putCells (Value.int .i64) 0 l'.toArray (l.flatMap aq++rest).toArray=(l'.flatMap aq++rest).toArray:=by
 rw[KN,KN];apply yE;intro i;simp only[Sort.putCells,Array.getElem?_mapIdx,wc,yb,wJ,Nat.zero_le,true_and];by_cases a:i<i0 l
 ·rw[qo j9,qo i9];have b:i<i0 l':=i5
  simp[a,b]
 ·rw[qj i9,qj i9];simp only[qA,c];cases h:rest[i-i0 l]? with
  |none=>rfl
  |some x=>simp only[qT];rw[g0 a]
theorem SH{P:Program}{id:FuncId}(u:∀(fP off cap:Nat) (m:az) (w:World),Sort.Holds (Value.int .i64) w fP off m.toArray->fP<w.heap.size->i0 m<4611686018427387904->
   Calls P id #[.slice (dB ⟨fP,off,eH⟩) m.length cap] w λe i=>e=.returned (.tuple #[])/\∃n os,i=Sort.grow (Sort.putRow (Value.int .i64) (Sort.ahead w n) fP off (m.mergeSort λx y=>decide (x<=y)).toArray) os)
  (z:∀(p:aO) (cap:Nat) (w:World),Calls P id #[.slice p 0 cap] w λe i=>e=.returned (.tuple #[])/\i=w)
  {e:TypeId} {s:Sl} {l:az} {h:f8} (r:Own h e s 1 aq l) (A:i0 l<2^40):
  ab P id #[.slice s.ptr s.len s.cap] h λv h'=>v=.tuple #[]/\Own h' e s 1 aq (l.mergeSort λx y=>decide (x<=y))/\aY (λb=>¬s.on b) h h':=by
 intro w f;have a:=r.len;rcases r.head with⟨h1,h2,h3⟩|⟨b,rest,h1,h2,h3,h4⟩
 ·subst h3;rw[a,h1];refine(z eH s.cap w).mono ?_;rintro B i ⟨rfl,rfl⟩;have D:(([]:az).mergeSort λx y=>decide (x<=y))=[]:=jj
  exact⟨_,i4,dm.refl _,i4,by rw[D];exact⟨a,.inl ⟨h1,h2,i4⟩⟩,by rw[<-f];exact aY.refl _ _⟩
 ·rw[h1,a];have o:w.heap[b]?=dB (.cells (l.flatMap aq++rest).toArray e (0,0)):=by rw[f];exact h2
  refine(u b 0 s.cap l w (PJ o) (lt_of_block o) i5).mono ?_;rintro B i ⟨rfl,n,os,rfl⟩;have j:=lt_of_block o;have g:i0 (l.mergeSort λx y=>decide (x<=y))=i0 l:=wO l;have c:∀k,k<h.size->(Sort.grow (Sort.putRow (Value.int .i64) (Sort.ahead w n) b 0 (l.mergeSort λx y=>decide (x<=y)).toArray) os).heap[k]?=if b=k then dB (.cells ((l.mergeSort λx y=>decide (x<=y)).flatMap aq++rest).toArray e (0,0))else h[k]?:=by
   intro k q;rw[Sort.heap_grow_old _ _ (by simpa[Sort.putRow,Sort.mapBlock,Sort.ahead,f]using q)];simp only[Sort.putRow,Sort.mapBlock,Sort.ahead,wz];by_cases d:b=k
   ·subst d;rw[f9 i4,f9 i4,o,qT,Sort.onCells,SG _ _ _ g]
   ·rw[g0 d,g0 d,f]
  rw[f]at j;refine⟨_,i4,⟨i4,i4,i4,by simp[Sort.grow,Sort.putRow,Sort.mapBlock,Sort.ahead]⟩,i4,⟨by rw[g];exact a,.inr ⟨b,rest,h1,?_,h3,h4⟩⟩,?_,?_⟩
  ·rw[c b j,f9 rfl]
  ·simp[Sort.grow,Sort.putRow,Sort.mapBlock,Sort.ahead,f]
  ·intro k q t;rw[c k q,g0 λd=>t ⟨0,by rw[h1,d]⟩]
end Go.Vc
namespace Wl
def bB(p:Int×Int×Int):Bool:=decide (p.1>=1)&&(decide (p.1<=16)&&(decide (p.2.1>=1)&&(decide (p.2.1<=4)&&(decide (p.2.2>=1)&&decide (p.2.2<=24)))))
theorem bZ(p:Int×Int×Int):bB p=eR↔(1<=p.1/\p.1<=16)/\(1<=p.2.1/\p.2.1<=4)/\1<=p.2.2/\p.2.2<=24:=by simp[bB,and_assoc]
def bE(p:Int×Int×Int):Int:=if bB p then p.1+p.2.1 else 0
open Go
def Ft(s:Int):Int:=qc xr (qc xr (s*(6364136223846793005:Int))+(1442695040888963407:Int))
def told(s:Int):Int:=qc xq (q9 (Ft s) (2^min (32:Int).toNat (ql xr)))
def mF(s n:Int):Int:=qc xo (wj (qc xr (told s)) (qc xr n))
theorem wrap_u64(x:Int):qc xr x=x%18446744073709551616:=rfl
theorem Ad(s n:Int)(b:0<n:=by omega)(e:n<=2^62:=by omega):0<=mF s n/\mF s n<n:=by
 unfold mF;have d:qc xr n=n:=o4
 rw[d];have c:0<=qc xr (told s):=o4
 have e2:=vw (qc xr (told s)) b;have a:0<=wj (qc xr (told s)) n:=Int.tmod_nonneg n c;rw[Go.Vc.ak _];exact⟨a,e2⟩
def lG(l:az)(i:Nat):Int:=l.getD i 0
def td(l:az)(i j:Nat):az:=(l.set i (lG l j)).set j (lG l i)
theorem SI(l:az)(i j:Nat):i0 (td l i j)=i0 l:=by simp[td]
def gG(n:Nat)(s:Int)(l:az):Nat->Int×az
 |0=>(s,l)
 |k+1=>(Ft (gG n s l k).1,td (gG n s l k).2 k (k+(mF (gG n s l k).1 ((n-k:Nat):Int)).toNat))
theorem Ae(n:Nat)(s:Int)(l:az):∀k,(gG n s l k).2.length=i0 l
 |0=>rfl
 |k+1=>by rw[gG,SI,Ae n s l k]
theorem KO{l:az}{i:Nat}(h:i<i0 l):lG l i∈l:=by rw[lG,qe,qd h];exact qh h
theorem adm{l:az}{i j:Nat}(c:i<i0 l)(a:j<i0 l){x:Int}(b:x∈td l i j):x∈l:=by
 rcases wk b with h|h
 ·rcases wk h with h|h
  ·exact h
  ·rw[h];exact KO a
 ·rw[h];exact KO c
def upto(n:Nat):az:=(qw n).map λi:Nat=>(i:Int)
theorem gW(n:Nat):i0 (upto n)=n:=by simp[upto]
theorem KP(n:Nat)(s:Int):∀k,k<=n->∀x∈(gG n s (upto n) k).2,0<=x/\x<n
 |0,_,x,hx=>by
  simp only[gG,upto,qt,qE]at hx;obtain⟨i,m,rfl⟩:=hx;omega
 |k+1,hk,x,hx=>by
  have d:k<n->n-k<=2^62->k+(mF (gG n s (upto n) k).1 ((n-k:Nat):Int)).toNat<n:=λj l=>by
   have:=Ad (gG n s (upto n) k).1 ((n-k:Nat):Int);omega
  have f:=Ae n s (upto n) k;rw[gW]at f;by_cases b:n-k<=2^62
  ·refine KP n s k i5 x (adm i5 ?_ hx);have:=d i5 b;omega
  ·--beyond any size:what is set is 0 or a member
   have c:∀y∈td (gG n s (upto n) k).2 k (k+(mF (gG n s (upto n) k).1 ((n-k:Nat):Int)).toNat),y∈(gG n s (upto n) k).2∨y=0:=by
    intro y e;have g:∀i,lG (gG n s (upto n) k).2 i∈(gG n s (upto n) k).2∨lG (gG n s (upto n) k).2 i=0:=λi=>by
     by_cases h:i<(gG n s (upto n) k).2.length
     ·exact .inl (KO h)
     ·right;simp only[lG,qe];rw[qV i5];rfl
    rcases wk e with h|h
    ·rcases wk h with h|h
     ·exact .inl h
     ·rw[h];exact g _
    ·rw[h];exact g _
   rcases c x hx with h|h
   ·exact KP n s k i5 x h
   ·subst h;omega
def ly(l:az):az:=l.mergeSort λx y=>decide (x<=y)
theorem PK(l:az):i0 (ly l)=i0 l:=wO l
theorem PL(l:az)(x:Int):x∈ly l↔x∈l:=List.mem_mergeSort
def Ja(s:Int)(n k:Nat):az:=ly ((gG n s (upto n) k).2.take k)
theorem adn{s:Int}{n k:Nat}(a:k<=n){x:Int}(b:x∈Ja s n k):0<=x/\x<n:=
 KP n s k a x (zS ((PL _ _).1 b))
theorem ado(s:Int)(n k:Nat)(a:k<=n):i0 (Ja s n k)=k:=by rw[Ja,PK,zb,Ae,gW];omega
def fE(l:Nat):Nat:=if l<=1 then l else if l<=4 then 2 else if l<=9 then 3 else if l<=16 then 4 else 5
def Jb(r:Nat):Nat:=if r=0 then 0 else if r=1 then 1 else if r<=3 then 2 else 3
def su(l k:Nat):Nat:=
 (if k>1 then 1048576/(k*(k-1))else 1048576/l)+
  (if k<l/fE l then 1048576*fE l/(l*k)else if k=l/fE l then 1048576*fE l*Jb (fE l)/l else 0)
def ne(l:Nat):Nat->Nat
 |0=>0
 |k+1=>ne l k+su l (k+1)
def kc(l:Nat):az:=(qw l).map λk=>((ne l (k+1):Nat):Int)
theorem mj(l:Nat):i0 (kc l)=l:=by simp[kc]
def XY(t:az)(x:Int):Nat:=(t.findIdx λy=>decide (y>x))+1
theorem Mc:∀l,l<=20->∀k,k<=20->su l k<=2^30:=j6
theorem Jc(l:Nat)(a:l<=20):∀k,k<=20->ne l k<=k*2^30
 |0,_=>by simp[ne]
 |k+1,hk=>by
  have:=Jc l a k i5;have:=Mc l a (k+1) hk;rw[ne];omega
theorem SJ:∀l,l<=20->1<=l->0<ne l l:=j6
theorem Md(l:Nat)(h:1<=l):(kc l).getLast?=dB ((ne l l:Nat):Int):=by
 obtain⟨k,rfl⟩:∃k,l=k+1:=⟨l-1,i5⟩
 simp[kc,zQ]
def GM(seed id:Int):Int:=qc xr (qc xq ((qF (ql xq) seed^^^(qF (ql xq) (qc xq ((qc xq id)*(2654435761:Int))))).toNat:Nat))
def Jd(s:Int)(n:Nat):Nat:=XY (kc n) (mF s (ne n n))
theorem Af(s:Int)(n:Nat)(b:1<=n)(a:n<=20):Jd s n<=n:=by unfold Jd XY;have e:=SJ n a b;have c:=Jc n a n a;have d:=Ad s (ne n n);have:=List.findIdx_lt_length_of_exists (p:=λy=>decide (y>mF s (ne n n))) (xs:=kc n) ⟨_,List.mem_of_getLast? (Md n b),by simpa using d.2⟩;rw[mj]at this;omega
def bW(id:Int):Bool:=decide (0<=id)&&decide (id<=65535)
def dw(n:Nat)(seed id:Int):az:=Ja (Ft (Ft (GM seed id))) n (Jd (Ft (GM seed id)) n)
theorem nf{n:Nat}(a:1<=n)(b:n<=20){seed id x:Int}(c:x∈dw n seed id):0<=x/\x<n:=adn (Af _ n a b) c
theorem BA{n:Nat}(a:1<=n)(b:n<=20)(seed id:Int):i0 (dw n seed id)<=n:=by rw[dw,ado _ _ _ (Af _ n a b)];exact Af _ n a b
def gp(n:Nat)(l:az):ba:=l.foldl (λr i=>r.set i.toNat 1) (qg n 0)
theorem sv(n:Nat)(l:az):i0 (gp n l)=n:=by
 have:∀(l:az) (r:ba),i0 (l.foldl (λr i=>r.set i.toNat 1) r)=i0 r:=by
  intro l
  induction l with
  |nil=>intro r;rfl
  |cons a t ih=>intro r;rw[zB,ih];simp
 rw[gp,this];simp
def oO(n:Nat)(seed id:Int):ba:=gp n (dw n seed id)
theorem SK(n:Nat)(seed id:Int):i0 (oO n seed id)=n:=sv _ _
def mq(K H h:Nat):ba:=(qw K).map (λj=>Gf.pw ((h+1)*(j+1)%255))++(qw H).map λi=>if i=h then 1 else 0
def bz(K H:Nat):cw:=(qw H).map (mq K H)
theorem Ag(K H h:Nat):i0 (mq K H h)=K+H:=by simp[mq]
def dP(p:Int×Int×Int)(seed:Int)(ids:az):cw:=
 if bB p then bz p.1.toNat p.2.1.toNat++(ids.filter bW).map (oO (bE p).toNat seed)else[]
theorem oP{α:Type}{f:α->Bool}{l:List α}{k:Nat}(a:k<i0 l):(l.take (k+1)).filter f=if f l[k]then(l.take k).filter f++[l[k]]else(l.take k).filter f:=by rw[zH a,zl];by_cases h:f l[k]=eR<;>simp[h]
abbrev Row:=ba
abbrev aM:=List Row
def scaleB(c:UInt8)(l:Row):Row:=l.map (Gf.mul c)
def cR(c:UInt8)(a to:Row):Row:=zh (λx y=>y^^^Gf.mul c x) a to
def aN(r:Row)(bv:Nat):UInt8:=r.getD bv 0
def aC(m:aM)(i:Nat):Row:=m.getD i []
def jm(m:aM)(a bv:Nat):Option Nat:=(qw m.length).find? λi=>decide (a<=i)&&(aN (aC m i) bv !=0)
def jE(m:aM)(i j:Nat):aM:=(m.set i (aC m j)).set j (aC m i)
def fk(a bv:Nat)(m:aM)(k:Nat):aM:=m.mapIdx λi r=>if i<k/\i≠a then cR (aN r bv) (aC m a) r else r
def kj(a bv:Nat)(m:aM):aM:=m.set a (scaleB (Gf.inv (aN (aC m a) bv)) (aC m a))
def jF(s:Nat×aM)(bv:Nat):Nat×aM:=
 match jm s.2 s.1 bv with
 |none=>s
 |some i=>(s.1+1,fk s.1 bv (kj s.1 bv (jE s.2 s.1 i)) s.2.length)
def bH(m:aM):Nat->Nat×aM
 |0=>(0,m)
 |c+1=>jF (bH m c) c
def eN(m:aM):Nat:=i0 (aC m 0)
def cb(m:aM):Nat:=(bH m (eN m)).1
def aV(n:Nat)(m:aM):Prop:=∀r∈m,i0 r=n
theorem ph(c:UInt8)(l:Row):i0 (scaleB c l)=i0 l:=by simp[scaleB]
theorem bX{c:UInt8}{a t:Row}(h:i0 a=i0 t:=by omega):i0 (cR c a t)=i0 t:=by simp[cR,h]
theorem bx{m:aM}{i:Nat}(h:i<i0 m):aC m i=m[i]:=by rw[aC,qe,qd h];rfl
theorem cx{n:Nat}{m:aM}(h:aV n m){i:Nat}(a:i<i0 m:=by omega):i0 (aC m i)=n:=by rw[bx a];exact h _ (qh a)
theorem KQ{n:Nat}{m:aM}(h:aV n m){i:Nat}{r:Row}(a:i0 r=n):aV n (m.set i r):=λx b=>by
 rcases wk b with h1|h1
 ·exact h x h1
 ·rw[h1];exact a
theorem XZ{P:Nat->Bool}{n:Nat}(h:∀j,j<n->P j=eS):(qw n).find? P=eH:=by rw[z8];intro x a;rw[qE]at a;simp[h x a]
theorem Ya{P:Nat->Bool}{n k:Nat}(e:k<n)(h:∀j,j<k->P j=eS)(c:P k=eR):(qw n).find? P=dB k:=by
 rw[List.find?_eq_some_iff_append];refine⟨c,qw k,List.range' (k+1) (n-k-1),?_,λa b=>?_⟩
 ·rw[yN,yN];have d:n=k+(n-k):=i5
  have e2:n-k=(n-k-1)+1:=i5
  conv=>lhs;rw[d,<-List.range'_append_1 (s:=0) (m:=k) (n:=n-k)]
  rw[wJ]
  conv=>lhs;rw[e2,List.range'_succ]
 ·rw[qE]at b;simp[h a b]
theorem te{m:aM}{a bv i:Nat}(h:jm m a bv=dB i):a<=i/\i<i0 m/\aN (aC m i) bv≠0:=by have b:=List.find?_some h;have c:=List.mem_of_find?_eq_some h;simp at b c;exact⟨b.1,c,b.2⟩
theorem Vn{m:aM}{a bv:Nat}(h:jm m a bv=eH):∀i,a<=i->i<i0 m->aN (aC m i) bv=0:=λi b c=>by
 have:=z8.1 h i (qE.2 c);simpa[b]using this
theorem lY(m:aM)(i j:Nat):i0 (jE m i j)=i0 m:=by simp[jE]
theorem GN{n:Nat}{m:aM}(h:aV n m){i j:Nat}(b:i<i0 m)(a:j<i0 m):aV n (jE m i j):=KQ (KQ h (cx h a)) (cx h b)
theorem oQ(t c:Nat)(m:aM):i0 (kj t c m)=i0 m:=by simp[kj]
theorem BB{n:Nat}{m:aM}(h:aV n m){t c:Nat}(a:t<i0 m):aV n (kj t c m):=KQ h (by rw[ph];exact cx h a)
theorem oR(t c:Nat)(m:aM)(k:Nat):i0 (fk t c m k)=i0 m:=by simp[fk]
theorem BC{n:Nat}{m:aM}(h:aV n m){t c k:Nat}(b:t<i0 m):aV n (fk t c m k):=λx d=>by
 obtain⟨i,e,rfl⟩:=List.mem_mapIdx.1 d;have a:=h _ (qh e);split
 ·rw[bX (by rw[cx h b,a])];exact a
 ·exact a
theorem aaa(t c:Nat)(m:aM):fk t c m 0=m:=by apply zO;intro i;simp[fk,vh]
theorem sw{t c k:Nat}{m:aM}{i:Nat}(a:i<i0 m):aC (fk t c m k) i=if i<k/\i≠t then cR (aN (aC m i) c) (aC m t) (aC m i)else aC m i:=by rw[bx (by rw[oR];exact a),bx a];simp[fk]
theorem aab{t c k:Nat}{m:aM}(d:k<i0 m)(b:k≠t):fk t c m (k+1)=(fk t c m k).set k (cR (aN (aC m k) c) (aC m t) (aC m k)):=by
 apply zO;intro i;simp only[fk,zd,vh,List.length_mapIdx];by_cases a:k=i
 ·subst a;simp only[if_true,d,qd d,qT];rw[f9 ⟨i5,b⟩,bx d]
 ·rw[g0 a];congr 1;funext r;by_cases h:i<k/\i≠t
  ·rw[f9 h,f9 ⟨i5,h.2⟩]
  ·rw[g0 h,g0 λe=>h ⟨i5,e.2⟩]
theorem aac{t c:Nat}{m:aM}:fk t c m (t+1)=fk t c m t:=by
 apply zO;intro i;simp only[fk,vh];congr 1;funext r;by_cases h:i<t/\i≠t
 ·rw[f9 h,f9 ⟨i5,h.2⟩]
 ·rw[g0 h,g0 λa=>h ⟨i5,a.2⟩]
theorem aad{n:Nat}{s:Nat×aM}(h:aV n s.2)(bv:Nat):aV n (jF s bv).2/\(jF s bv).2.length=i0 s.2:=by
 unfold jF;cases hb:jm s.2 s.1 bv with
 |none=>exact⟨h,i4⟩
 |some i=>
  have a:=te hb;dsimp only;refine⟨BC (BB (GN h i5 a.2.1) (by rw[lY];omega)) (by rw[oQ,lY];omega),by rw[oR,oQ,lY]⟩
theorem gU{n:Nat}{m:aM}(h:aV n m):∀c,aV n (bH m c).2/\(bH m c).2.length=i0 m
 |0=>⟨h,i4⟩
 |c+1=>by
  have:=gU h c;have a:=aad this.1 c;rw[bH];exact⟨a.1,by rw[a.2,this.2]⟩
theorem adp{s:Nat×aM}(h:s.1<=i0 s.2)(bv:Nat):(jF s bv).1<=(jF s bv).2.length:=by
 unfold jF;cases hb:jm s.2 s.1 bv with
 |none=>exact h
 |some i=>
  have a:=te hb;dsimp only;rw[oR,oQ,lY];omega
theorem Eh(m:aM):∀c,(bH m c).1<=(bH m c).2.length
 |0=>by simp[bH]
 |c+1=>adp (Eh m c) c
end Wl
namespace Go.Vc
open Go
section
variable {C:Ctx} {t t2 ty e k:Nat} {z:bc} {by_:Nat} {α:Type} {h h0:f8} {p B:aB} {s v:Sl} {f:α->bc} {l l2:List α} {As:List HP}
theorem Own.SL(O:C.Ok)(Q:cj C.toCU t e k z by_)(E:∀x,i0 (f x)=k)(B:Own h e s k f l)(R:Seq h p v k f l2)(q:∀x,∀c∈f x,c.oneCell'=eR)(j:Nat)(S:j<=i0 l){o:aO}{I X:Nat}(g:o=if s.cap=j then s.ptr else s.ptr.map (·.add (j*k)))(y:I=s.len-j){K:Int->f8->Prop}
  (D:∀n h',Own h' e s k f (l.take j++(l2.take (i0 l-j)++l.drop (j+i0 l2)))->aY (λb=>¬s.on b) h h'->K n h'):
  aA C.P (w8 #[t,t2] ty #[.slice o I X,.slice v.ptr v.len v.cap]) (.one (.sc (.int .i64))) h K:=by
 unfold aA w8;simp only[wc,yX,qB];refine af.bind (af.always (aU (Q.under O)) ?_);refine af.bind (af.pure' ?_);refine af.bind (af.always (Q.size O) ?_);have i:=B.len;have w:=R.len;have N:=B.cap;obtain⟨m,F⟩:∃m,m=Nat.min v.len I:=⟨_,rfl⟩
 rw[<-F];have M:m<=i0 l2:=by rw[F,<-w];exact Nat.min_le_left _ _
 have u:m<=i0 l-j:=by rw[F,<-i,y];exact Nat.min_le_right _ _
 have W:m=min l2.length (i0 l-j):=by rw[F,y,i,w]
 have G:=R.take m M;have V:l2.take (i0 l-j)++l.drop (j+i0 l2)=l2.take m++l.drop (j+m):=by
  rcases Nat.le_total l2.length (i0 l-j)with hh|hh
  ·rw[qi hh,show m=i0 l2 by omega,qW]
  ·rw[show m=i0 l-j by omega,zf (show l.length<=j+i0 l2 by omega),zf i5]
 rw[V]at D;have L:wG k m (.slice v.ptr v.len v.cap)=wG k m (.slice v.ptr m v.cap):=by cases v.ptr<;>rfl
 rw[L];refine af.bind (iP (v:=⟨v.ptr,m,v.cap⟩) E G ?_);have d:m=0->l.take j++(l2.take m++l.drop (j+m))=l:=λe=>by rw[e];simp
 rcases B.head with⟨h1,h2,h3⟩|⟨b,rest,h1,h2,h3,h4⟩
 ·have a:o=eH:=by rw[g,h1];split<;>rfl
  rw[a];subst h3;have:m=0:=by simp at u;exact u
  refine af.pure' ⟨_,i4,D _ h ?_ (aY.refl _ _)⟩;rw[d this];exact B
 ·by_cases r:s.cap=j
  ·have a:o=dB ⟨b,0,eH⟩:=by rw[g,f9 r,h1]
   rw[a];have A:m=0:=i5
   refine af.bind ?_;rw[A];simp only[vB,List.flatMap_nil];exact af.pure' (af.pure' ⟨_,i4,D _ h (by rw[d A];exact B) (aY.refl _ _)⟩)
  ·have a:o=dB ⟨b,0+j*k,eH⟩:=by rw[g,g0 r,h1];simp only[qT];rw[add_eq]
   rw[a];refine af.bind ?_;have H:l.flatMap f++rest=(l.take j).flatMap f++((l.drop j).take m).flatMap f++((l.drop (j+m)).flatMap f++rest):=by rw[<-qq,<-zk,<-zk,<-zN,qq (List.take j l),qK,qK]
   rw[H]at h2;refine fX (e:=e) (pre:=(l.take j).flatMap f) (old:=((l.drop j).take m).flatMap f) (post:=(l.drop (j+m)).flatMap f++rest) h2 (by rw[eu E,eu E,zb,zb,ze];congr 1;omega) (by rw[eu E,zb];rw[yx S];omega) ?_ ?_
   ·intro c T;obtain⟨x,_,J⟩:=zD.1 T;exact q x c J
   ·refine af.pure' ⟨_,i4,D _ _ ⟨by rw[i,qy,qy,zb,zb,ze];omega,.inr ⟨b,rest,h1,?_,h3,h4⟩⟩ (aY.kt h2 λU=>U ⟨0,h1⟩)⟩;rw[jt h2,f9 i4,zk,zk];simp[qq]
theorem aa.SL(w:C.Ok)(H:aa B h0 h As)(i:Nat)(o:As[i]?=dB (al e s k f l))(D:cj C.toCU t e k z by_)(u:∀x,i0 (f x)=k)(E:Seq h p v k f l2)(a:∀x,∀c∈f x,c.oneCell'=eR)(j:Nat)(q:j<=i0 l){g:aO}{m A:Nat}(b:g=if s.cap=j then s.ptr else s.ptr.map (·.add (j*k)))(d:m=s.len-j){K:Int->f8->Prop}
  (r:∀n h',aa B h0 h' (As.set i (al e s k f (l.take j++(l2.take (i0 l-j)++l.drop (j+i0 l2)))))->K n h'):
  aA C.P (w8 #[t,t2] ty #[.slice g m A,.slice v.ptr v.len v.cap]) (.one (.sc (.int .i64))) h K:=
 (H.own i o).SL w D u E a j q b d λn h' x y=>r n h' (H.pd i o y x)
end
end Go.Vc
namespace Wl
open Go
def b8(n:Int):UInt8:=yB (n%256).toNat
theorem eO(n:Int):qc xp n=((b8 n).toNat:Int):=by
 have h0:=yK n (show(256:Int)≠0 by decide);have a:=wW n (show(0:Int)<256 by decide);have e:((b8 n).toNat:Int)=n%256:=by unfold b8;rw[UInt8.toNat_ofNat'];omega
 rw[e];unfold qc;simp[ql,yY]
abbrev tI:=BitVec 32
def Me(s:tI):tI:=if s&&&1#32=1#32 then(s>>>1)^^^3988292384#32 else s>>>1
def CY:Nat->tI->tI
 |0,s=>s
 |n+1,s=>Me (CY n s)
def Xc(s:tI)(x:UInt8):tI:=CY 8 (s^^^BitVec.ofNat 32 x.toNat)
def wn(l:ba):tI:=l.foldl Xc 4294967295#32
def CZ(l:ba):tI:=4294967295#32^^^wn l
theorem Yb(l:ba)(x:UInt8):wn (l++[x])=Xc (wn l) x:=by unfold wn;rw[wC];rfl
theorem SM(s:tI):qc xq ((s.toNat:Nat):Int)=(s.toNat:Int):=by have:=s.isLt;unfold qc;simp[ql,yY];omega
theorem Yc(a b:tI):qc xq ((qF (ql xq) (a.toNat:Int)^^^qF (ql xq) (b.toNat:Int)).toNat:Nat)=((a^^^b).toNat:Int):=by show qc xq (((qF 32 (a.toNat:Int)^^^qF 32 (b.toNat:Int):BitVec 32).toNat:Nat):Int)=_;rw[wY,wY,vx,vx,vy,vy,SM]
theorem aiI(a b:tI):qc xq ((qF (ql xq) (a.toNat:Int)&&&qF (ql xq) (b.toNat:Int)).toNat:Nat)=((a&&&b).toNat:Int):=by show qc xq (((qF 32 (a.toNat:Int)&&&qF 32 (b.toNat:Int):BitVec 32).toNat:Nat):Int)=_;rw[wY,wY,vx,vx,vy,vy,SM]
theorem aae(n:Int):qc xq n=((qF 32 n).toNat:Int):=by unfold qc;simp[ql,yY,BitVec.toNat_ofInt];omega
theorem agb(s:tI):q9 (s.toNat:Int) (2^min (1:Int).toNat (ql xq))=((s>>>1).toNat:Int):=by rw[show min (1:Int).toNat (ql xq)=1 from i4,vi _ i6,BitVec.toNat_ushiftRight,Nat.shiftRight_eq_div_pow];simp
theorem Xd(s:tI):((s&&&1#32).toNat:Int)=1↔s&&&1#32=1#32:=by
 constructor
 ·intro h;apply BitVec.eq_of_toNat_eq;have:(1#32:tI).toNat=1:=rfl;omega
 ·intro h;rw[h];rfl
def oS(s:tI):ba:=(qw 4).map λi=>b8 (q9 (s.toNat:Int) (2^(8*i)))
theorem SN(s:tI):i0 (oS s)=4:=by simp[oS]
def ey(b:Int)(a:ba):ba:=[87,115,1,b8 b]++a++qg (55-i0 a) 0
def eE(a:Int)(b:ba):ba:=
 if 1<=a/\a<=255/\b.length<=55 then ey a b++oS (CZ (ey a b))++[165]else[]
theorem GO{b:Int}{a:ba}(h:i0 a<=55):i0 (ey b a)=59:=by simp[ey];omega
theorem mM{a:Int}{b:ba}(c:1<=a)(d:a<=255)(h3:i0 b<=55):i0 (eE a b)=64:=by unfold eE;rw[f9 ⟨c,d,h3⟩];simp[GO h3,SN]
end Wl
namespace Go.Vc
open Go
def ju(s:ByteArray):ba:=s.data.toList
theorem Ei(s:ByteArray):i0 (ju s)=s.size:=rfl
def ajf(n:Nat):Obj->Obj
 | .cells c elem (lo,hi)=>.cells c elem (if lo==hi then(n,n+1)else(min lo n,max hi (n+1)))
 |o=>o
theorem af.aaf{P:Program}{h:f8}{b n:Nat}{c:Array eX}{e:TypeId}{K:Unit->f8->Prop}(d:h[b]?=dB (.cells c e (0,0)))(k:n=c.size)(g:∀h',(∀x,x≠b->h'[x]?=h[x]?)->h'.size=h.size->(∃f,h'[b]?=dB (.cells c e f))->K () h'):
  af P (freeze {block:=b,off:=n} 1) h K:=λw i=>by
 refine⟨(),w.freeze {block:=b,off:=n} 1,run_freeze P w _ _,⟨i4,i4,i4,qk _⟩,?_⟩;subst i;have a:(w.freeze {block:=b,off:=n} 1).heap=w.heap.modify b (ajf n):=rfl;refine g _ (λx j=>?_) ?_ ?_
 ·rw[a,wz,g0 λe=>j e.symm]
 ·rw[a];simp
 ·rw[a,wz,f9 i4,d];exact⟨_,i4⟩
section
variable {C:Ctx} {B:aB} {h h0:f8} {As:List HP} {t e ts:Nat}
theorem agc(k:C.Ok)(q:∃i,C.T.get ts=dB i/\i.dc=.str)(z:∃i,C.T.get t=dB i/\i.dc=.slice e)(G:∃i,C.T.get e=dB i/\i.dc=.int .u8)(s:ByteArray){K:Sl->f8->Prop}(w:∀r h',Sp h h' [ux r 1 aD (ju s)]->K r h'):
  aA C.P (convert ts t (.string s)) (.one (.sc .slc)) h K:=by
 obtain⟨L,D,y⟩:=q;obtain⟨J,F,p⟩:=z;obtain⟨i3,a3,v⟩:=G;have B:C.P.underlying ts=dB .string:=by have:=k.dc D;rw[y]at this;exact xM this
 have E:C.P.underlying t=dB (.slice e):=by have:=k.dc F;rw[p]at this;exact kC this
 have u3:C.P.underlying e=dB (.int .u8):=by have:=k.dc a3;rw[v]at this;exact IU this
 unfold aA convert;refine af.bind (af.always (aU B) ?_);refine af.bind (af.always (aU E) ?_);refine af.bind (af.always (aU u3) ?_);unfold Conv.stringToBytes;refine af.bind (af.Ol ⟨λo=>(by cases o),λ_ u=>?_⟩);generalize g:Question.cut (Question.appendCap s.size 0 e) u=cc;have n:s.size<=cc:=by rw[<-g];simp only[Question.cut];omega
 unfold newRow;refine af.bind (af.bind (af.sj (af.pure' ?_)));unfold markStringish;obtain⟨cs,a⟩:∃cs:Array eX,cs=s.data.map (λb=>Value.int .u8 b.toNat)++Array.replicate (cc-s.size) (Value.int .u8 0):=⟨_,rfl⟩
 rw[<-a];refine af.bind (af.bind (af.ahf ?_));have d:shapeOf (h.push (.cells cs e)) h.size=dB (e,cs.size):=by unfold shapeOf;simp
 dsimp only;rw[d];refine af.aaf (c:=cs) (e:=e) jj i4 λh' A m j=>?_;refine af.pure' ⟨⟨dB ⟨h.size,0,eH⟩,s.size,cc⟩,i4,w _ _ ?_⟩;obtain⟨f,j⟩:=j;refine .one ⟨by rw[m];simp,λb I _=>by rw[A b i5,Array.getElem?_push,g0 i5]⟩ ?_;refine⟨by rw[Ei],λi x l=>⟨h.size,0,i4,⟨qk _,by rw[m];simp⟩,?_,trivial⟩⟩;rw[add_zero];have H:i<s.data.size:=by have:=(qn.1 l).1;simpa[ju]using this
 unfold f7;simp only[j,Nat.mul_one,wJ,Option.isSome_none,zj,if_false];rw[a,Array.getElem?_append_left ln,Array.getElem?_map];have:s.data[i]?=dB x:=by rw[<-l];simp[ju]
 rw[this];rfl
end
section
variable {C:Ctx} {t t2 e k:Nat} {z:bc} {by_:Nat} {h h0:f8} {B:aB} {As:List HP} {s:Sl} {l:ba}
theorem Rb(v:C.Ok)(L:cj C.toCU t e 1 z by_)(h2:∃i,C.T.get t2=dB i/\i.dc=.str)(V:i0 z=1)(A:0<by_/\by_<=128)
  (w:Own h e s 1 aD l) (x:ByteArray) (ah:i0 l+x.size<=2^32) {ty:Nat} {K:Sl->f8->Prop}
  (E:∀J h',Own h' e J 1 aD (l++ju x)->aY (λb=>¬s.on b) h h'->(∀b,J.on b->s.on b∨h.size<=b)->K J h'):
  aA C.P (qu #[t,t2] ty #[.slice s.ptr s.len s.cap,.string x]) (.one (.sc .slc)) h K:=by
 obtain⟨i2,g1,g2⟩:=h2;have F:C.P.underlying t2=dB .string:=by have:=v.dc g1;rw[g2]at this;exact xM this
 obtain⟨D,r,x2,x3,zv,x4,O⟩:=L.info v;have k:∀y∈(ju x).flatMap aD,y.oneCell'=eR:=λy W=>by
  obtain⟨b,_,Y⟩:=zD.1 W;exact gV b y Y
 have g:((x.extract 0 x.size).data.map λb=>Value.int .u8 (b.toNat:Int))=((ju x).flatMap aD).toArray:=by
  have X:x.extract 0 x.size=x:=by apply ByteArray.ext;simp[ByteArray.data_extract]
  rw[X];apply yu;simp only[vJ,ju];exact List.map_eq_flatMap
 unfold aA qu;simp only[wc,yX,qB];refine af.bind (af.always (aU (L.under v)) ?_);refine af.bind (af.always (L.size v) ?_);refine af.bind (af.always (aU F) ?_);refine af.bind (af.pure' ?_);simp only[zj,if_false,ya,if_true];refine af.bind (af.pure' ?_);have n:=w.len;have u:∀y,i0 (aD y)=1:=λ_=>rfl;have j:=eu u l;have a:=eu u (ju x);have ad:=Ei x;have m:∀{h:f8} {K:Array eX->f8->Prop},K ((ju x).flatMap aD).toArray h->af C.P (wG 1 x.size (.string x)) h K:=λ{h K} hK=>by
  unfold wG;dsimp only;rw[g];exact af.pure' hK
 by_cases d:s.len+x.size<=s.cap
 ·rw[f9 d];refine af.bind (m ?_);rcases w.head with⟨p1,p2,p3⟩|⟨b,rest,p1,p2,p3,p4⟩
  ·rw[p1];have G:ju x=[]:=q8 i5;refine af.pure' ⟨⟨eH,s.len+x.size,s.cap⟩,i4,E _ _ ⟨?_,.inl ⟨i4,p2,by simp[p3,G]⟩⟩ (aY.refl _ _) ?_⟩
   ·simp;omega
   ·rintro M ⟨o,f⟩;cases f
  ·rw[p1];refine af.bind ?_;rw[add_eq,wJ];have B:i0 ((ju x).flatMap aD)<=i0 rest:=by rw[a,p3];omega
   refine fX (e:=e) (pre:=l.flatMap aD) (old:=rest.take ((ju x).flatMap aD).length) (post:=rest.drop ((ju x).flatMap aD).length) ?_ ?_ ?_ ?_ ?_
   ·rw[qq,qK];exact p2
   ·rw[zb];exact yx B
   ·rw[j,n];omega
   ·intro c R;exact k c (by simpa using R)
   ·refine af.pure' ⟨⟨dB ⟨b,0,eH⟩,s.len+x.size,s.cap⟩,i4,E _ _ ⟨?_,.inr ⟨b,rest.drop ((ju x).flatMap aD).length,i4,?_,?_,d⟩⟩ ?_ ?_⟩
    ·simp;omega
    ·rw[jt p2,f9 rfl];simp
    ·rw[ze,p3,a];show(s.cap-s.len)*1-i0 (ju x)*1=(s.cap-(s.len+x.size))*1;omega
    ·exact aY.kt p2 (λS=>S ⟨0,p1⟩)
    ·rintro M ⟨o,f⟩;cases f;exact .inl ⟨0,p1⟩
 ·rw[g0 d];have q:Seq h (λ_=>True) s 1 aD l:=w.seq u λ_ _=>trivial;have N:=w.cap;refine af.bind (af.always (dv r) ?_);rw[g0 λhh=>by rcases hh.2 with h|h<;>first|exact h|(rw[x3]at h;omega)];refine af.bind (af.always (dv r) ?_);have Z:=WX (s.len+x.size) s.cap;rw[g0 (by
   have:vg (s.len+x.size) s.cap*D.bytes<=(16*2^32+16*768)*128:=z7 i5 (by rw[x3];exact A.2);omega)]
  refine af.bind (af.Ol ⟨λQ=>(by cases Q),λ_ U=>?_⟩);refine af.bind (af.always (dv r) ?_);refine af.bind (af.KD ?_);refine af.bind (iP u q ?_);refine af.bind (m ?_);have I:aL C.P (zeroValue e) zv:=(dv r).bind (by rw[x4];exact .pure);refine af.bind (af.always I ?_);rw[O,GD];unfold newRow;refine af.bind (af.bind (af.sj (af.pure' (af.pure' ?_))));generalize H:Question.cut (Question.appendCap (s.len+x.size) s.cap e) U=cc;have p:s.len+x.size<=cc:=by rw[<-H];simp only[Question.cut];omega
  refine⟨⟨dB ⟨h.size,0,eH⟩,s.len+x.size,cc⟩,i4,E _ _ ⟨?_,.inr ⟨h.size,jd z (cc-(s.len+x.size)),i4,?_,?_,p⟩⟩ (aY.push _ _ _) ?_⟩
  ·simp;omega
  ·simp
  ·rw[oN,V]
  ·rintro M ⟨o,f⟩;cases f;exact .inr (qk _)
theorem aa.aag(D:C.Ok)(H:aa B h0 h As)(i:Nat)(F:As[i]?=dB (al e s 1 aD l))(E:cj C.toCU t e 1 z by_)(A:∃i,C.T.get t2=dB i/\i.dc=.str)(r:i0 z=1)(g:0<by_/\by_<=128)
  (x:ByteArray) (o:i0 l+x.size<=2^32) {ty:Nat} {K:Sl->f8->Prop} (u:∀f h',aa B h0 h' (As.set i (al e f 1 aD (l++ju x)))->K f h'):
  aA C.P (qu #[t,t2] ty #[.slice s.ptr s.len s.cap,.string x]) (.one (.sc .slc)) h K:=by
 obtain⟨y,v,c,w,a⟩:=H;have k:=a i _ F;refine Rb D E A r g k.1 x o λf h' d j n=>u f h' ?_;refine aa.Ee y v w a (j.mono λb m q p=>q (k.2 b p)) ⟨d,λb m=>⟨d.lt m,?_⟩⟩;rcases n b m with h1|h1
 ·exact .inl (k.2 b h1)
 ·exact .inr h1
end
end Go.Vc
namespace Wl
open Go
structure bM where
 name:ByteArray
 object:Int
 length:Int
 tries:az
structure aE where
 seq:Int
 next:Int
 p:Int×Int×Int
 extra:Int
 drives:az
 aH:List bM
def aiJ:bM:=⟨⟨#[]⟩,0,0,[]⟩
def pP(l:List bM)(i:Nat):bM:=l.getD i aiJ
theorem oT{l:List bM}{i:Nat}(h:i<i0 l:=by omega):pP l i=l[i]:=by unfold pP;rw[qe,qd h];rfl
def fq(n a b:Int):Bool:=decide (a<=n)&&decide (n<=b)
def ng(c:UInt8):Bool:=(decide (97<=c.toNat)&&decide (c.toNat<=122))||(decide (48<=c.toNat)&&decide (c.toNat<=57))||decide (c.toNat=45)
def ms(s:ByteArray):Bool:=s.data.toList.all ng&&(decide (1<=s.size)&&decide (s.size<=12))
def ft(a b:ByteArray):Bool:=Op.bytesLess a.toList b.toList
def kd(l:az)(most:Int)(i:Nat):Bool:=fq (l.getD i 0) 0 most&&(decide (i=0)||decide (l.getD (i-1) 0<l.getD i 0))
def pQ(l:az)(most:Int):Bool:=(qw l.length).all (kd l most)
def countP(p:Int×Int×Int)(n:Int):Int:=if bB p&&decide (0<n)then(n-1)/(p.1*p.2.2)+1 else 0
def gX(m:aE)(x:bM):Bool:=
 ms x.name&&(fq x.object 0 (m.next-1)&&(fq x.length 0 (m.p.1*m.p.2.2*8)&&(x.tries.all (fq · 0 15)&&decide ((x.tries.length:Int)=countP m.p x.length))))
def pR(m:aE)(i:Nat):Bool:=
 gX m (pP m.aH i)&&((decide (i=0)||ft (pP m.aH (i-1)).name (pP m.aH i).name)&&!(m.aH.take i).any λy=>decide (y.object=(pP m.aH i).object))
def lA(m:aE):Bool:=fq m.seq 1 2147483647&&(fq m.next 0 16777216&&(bB m.p&&fq m.extra 0 16))
def bN(m:aE):Bool:=lA m&&(pQ m.drives 63&&(decide (i0 m.aH<=12)&&(qw m.aH.length).all (pR m)))
theorem GP{p:Nat->Bool}{n i:Nat}(a:i<n)(h:p i=eS):(qw n).all p=eS:=List.all_eq_false.2 ⟨i,qE.2 a,by rw[h];simp⟩
theorem uz{p:Nat->Bool}{n:Nat}(h:∀i,i<n->p i=eR):(qw n).all p=eR:=qL.2 λi a=>h i (qE.1 a)
def cg(n:Int)(k:Nat):ba:=(qw k).map λi=>b8 (q9 n (2^(8*(k-1-i))))
theorem cB(n:Int)(k:Nat):i0 (cg n k)=k:=by simp[cg]
def jG(x:bM):ba:=b8 x.name.size::(x.name.data.toList++(cg x.object 3++(cg x.length 2++x.tries.map b8)))
def gO(m:aE):ba:=
 if bN m then cg m.seq 4++(cg m.next 4++([b8 m.p.1,b8 m.p.2.1,b8 m.p.2.2,b8 m.extra,b8 m.drives.length]++(m.drives.map b8++(b8 m.aH.length::m.aH.flatMap jG))))else[]
def kv(seq a c:Int)(b:ba):ba:=eE 2 (cg seq 4++([b8 a,b8 c,b8 b.length]++b))
def iM(b:ba):Nat:=(i0 b+47)/48
def bm(m:aE):cw:=(qw (iM (gO m))).map λi:Nat=>kv m.seq i (iM (gO m)) (((gO m).drop (48*i)).take 48)
theorem aah{m:aE}(h:bN m=eR):lA m=eR:=by unfold bN at h;simp at h;exact h.1
theorem SO{m:aE}(h:lA m=eR):(1<=m.seq/\m.seq<=2147483647)/\(0<=m.next/\m.next<=16777216)/\bB m.p=eR/\0<=m.extra/\m.extra<=16:=by unfold lA fq at h;simpa[and_assoc]using h
theorem ww{m:aE}{c:ba}(h:c∈bm m):i0 c=64:=by unfold bm at h;obtain⟨i,_,rfl⟩:=qt.1 h;exact mM i6 i6 l6
structure di where
 object:Int
 block:Int
 id:Int
 p:Int×Int×Int
 seed:Int
 data:ba
theorem tJ(n:Int):((b8 n).toNat:Int)=n%256:=by have h0:=yK n (show(256:Int)≠0 by decide);have a:=wW n (show(0:Int)<256 by decide);unfold b8;rw[UInt8.toNat_ofNat'];omega
def jv(r:di):Bool:=(fq r.object 0 16777215&&(fq r.block 0 7&&bW r.id))&&(bB r.p&&decide ((r.data.length:Int)=r.p.2.2))
def jn(r:di):ba:=cg r.object 3++(cg r.block 1++(cg r.id 2++([b8 r.p.1,b8 r.p.2.1,b8 r.p.2.2]++(cg r.seed 4++r.data))))
def cL(r:di):ba:=if jv r then eE 1 (jn r)else[]
def dz(l:ba):Int:=l.foldl (λn x=>n*256+x.toNat) 0
def kE(c:ba):Option (Int×ba):=
 if c.length=64/\eE ((c.getD 3 0).toNat:Int) ((c.drop 4).take 55)=c then dB (((c.getD 3 0).toNat:Int),(c.drop 4).take 55)else eH
def wN(x:ba):di:=
 ⟨dz (x.take 3),dz ((x.drop 3).take 1),dz ((x.drop 4).take 2),(dz ((x.drop 6).take 1),dz ((x.drop 7).take 1),dz ((x.drop 8).take 1)),dz ((x.drop 9).take 4),(x.drop 13).take (dz ((x.drop 8).take 1)).toNat⟩
def eF(c:ba):Option di:=
 match kE c with
 |some (k,x)=>if k=1/\bB (wN x).p=eR/\cL (wN x)=c then dB (wN x)else eH
 |none=>eH
theorem aai(n:Int):cg n 1=[b8 n]:=by simp[cg]
theorem aaj(n:Int):cg n 2=[b8 (q9 n (2^8)),b8 n]:=by simp[cg,zQ]
theorem Vo(n:Int):cg n 3=[b8 (q9 n (2^16)),b8 (q9 n (2^8)),b8 n]:=by simp[cg,zQ]
theorem Mf(n:Int):cg n 4=[b8 (q9 n (2^24)),b8 (q9 n (2^16)),b8 (q9 n (2^8)),b8 n]:=by simp[cg,zQ]
theorem Ej{n:Int}(b:0<=n:=by omega)(a:n<256:=by omega):dz [b8 n]=n:=by simp only[dz,zB,wT,tJ];omega
theorem fdiv_pow(n:Int)(k:Nat):q9 n (2^k)=n/(2^k):=vi _ (Int.pow_nonneg i6)
theorem adq{n:Int}(b:0<=n)(a:n<65536):dz (cg n 2)=n:=by rw[aaj,fdiv_pow];simp only[dz,zB,wT,tJ];omega
theorem Yd{n:Int}(b:0<=n)(a:n<16777216):dz (cg n 3)=n:=by rw[Vo,fdiv_pow,fdiv_pow];simp only[dz,zB,wT,tJ];omega
theorem PM{n:Int}(b:0<=n)(a:n<4294967296):dz (cg n 4)=n:=by rw[Mf,fdiv_pow,fdiv_pow,fdiv_pow];simp only[dz,zB,wT,tJ];omega
theorem kX(r:di):jv r=eR↔(0<=r.object/\r.object<=16777215)/\(0<=r.block/\r.block<=7)/\(0<=r.id/\r.id<=65535)/\bB r.p=eR/\(r.data.length:Int)=r.p.2.2:=by unfold jv fq bW;simp[and_assoc]
theorem pi{r:di}(h:jv r=eR):i0 (jn r)=13+i0 r.data/\r.data.length<=24:=by obtain⟨_,_,_,a,b⟩:=(kX r).1 h;have:=(bZ r.p).1 a;refine⟨by unfold jn;simp[cB];omega,i5⟩
theorem Ek{r:di}(h:jv r=eR):i0 (cL r)=64:=by have:=pi h;unfold cL;rw[f9 h];exact mM i6 i6 i5
theorem BD{k:Int}{a:ba}(b:1<=k:=by decide)(c:k<=255:=by decide)(h3:i0 a<=55:=by omega):kE (eE k a)=dB (k,a++qg (55-i0 a) 0):=by
 obtain⟨x,d⟩:∃x,x=a++qg (55-i0 a) 0:=⟨_,rfl⟩
 have e:i0 x=55:=by rw[d];simp;omega
 have f:eE k a=[87,115,1,b8 k]++(x++(oS (CZ (ey k a))++[165])):=by unfold eE;rw[f9 ⟨b,c,h3⟩];unfold ey;rw[d];simp[qq]
 have j:((eE k a).getD 3 0)=b8 k:=by rw[f];rfl
 have e2:((eE k a).drop 4).take 55=x:=by rw[f];have:([87,115,1,b8 k]++(x++(oS (CZ (ey k a))++[165]))).drop 4=x++(oS (CZ (ey k a))++[165]):=rfl;rw[this,List.take_append_of_le_length i5,qi i5]
 have g:((b8 k).toNat:Int)=k:=by rw[tJ];omega
 have i:ey k x=ey k a:=by unfold ey;rw[e,d];simp[qq]
 have h:eE k x=eE k a:=by unfold eE;rw[f9 ⟨b,c,i5⟩,f9 ⟨b,c,h3⟩,i]
 unfold kE;rw[j,e2,g,f9 ⟨mM b c h3,h⟩,d]
theorem Ye{r:di}(h:jv r=eR)(w:0<=r.seed/\r.seed<4294967296)(z:ba):wN (jn r++z)=r:=by
 obtain⟨x,y,h3,s,A⟩:=(kX r).1 h;have t:=(bZ r.p).1 s;have l1:=cB r.object 3;have l2:=cB r.id 2;have g:=cB r.seed 4;have e:jn r++z=cg r.object 3++([b8 r.block]++(cg r.id 2++([b8 r.p.1]++([b8 r.p.2.1]++([b8 r.p.2.2]++(cg r.seed 4++(r.data++z))))))):=by unfold jn;rw[aai];simp[qq]
 have c:∀(u v:ba) (n:Nat),u.length=n->∀m,(u++v).drop (n+m)=v.drop m:=λu v n b m=>by
  rw[<-zN,<-b,List.drop_left]
 have a:∀(u v:ba) (n:Nat),u.length=n->(u++v).take n=u:=λu v n b=>by rw[<-b,vU]
 have k:(jn r++z).drop 3=[b8 r.block]++(cg r.id 2++([b8 r.p.1]++([b8 r.p.2.1]++([b8 r.p.2.2]++(cg r.seed 4++(r.data++z)))))):=by rw[e];exact c _ _ 3 l1 0
 have o:(jn r++z).drop 4=cg r.id 2++([b8 r.p.1]++([b8 r.p.2.1]++([b8 r.p.2.2]++(cg r.seed 4++(r.data++z))))):=by rw[show 4=3+1 from i4,<-zN,k];rfl
 have i:(jn r++z).drop 6=[b8 r.p.1]++([b8 r.p.2.1]++([b8 r.p.2.2]++(cg r.seed 4++(r.data++z)))):=by rw[show 6=4+2 from i4,<-zN,o];exact c _ _ 2 l2 0
 have j:(jn r++z).drop 7=[b8 r.p.2.1]++([b8 r.p.2.2]++(cg r.seed 4++(r.data++z))):=by rw[show 7=6+1 from i4,<-zN,i];rfl
 have f:(jn r++z).drop 8=[b8 r.p.2.2]++(cg r.seed 4++(r.data++z)):=by rw[show 8=7+1 from i4,<-zN,j];rfl
 have l:(jn r++z).drop 9=cg r.seed 4++(r.data++z):=by rw[show 9=8+1 from i4,<-zN,f];rfl
 have d:(jn r++z).drop 13=r.data++z:=by rw[show 13=9+4 from i4,<-zN,l];exact c _ _ 4 g 0
 have q:dz (((jn r++z).drop 8).take 1)=r.p.2.2:=by rw[f,a _ _ 1 i4,Ej]
 unfold wN;rw[q,k,o,i,j,l,d];rw[a [b8 r.block] _ 1 i4,a _ _ 2 l2,a [b8 r.p.1] _ 1 i4,a [b8 r.p.2.1] _ 1 i4,a _ _ 4 g];have t0:(jn r++z).take 3=cg r.object 3:=by rw[e];exact a _ _ 3 l1
 rw[t0,Yd i5 i5,Ej,adq i5 i5,Ej,Ej,PM i5 i5];have:r.p.2.2.toNat=r.data.length:=i5
 rw[this,vU]
theorem tK{r:di}(h:jv r=eR)(a:0<=r.seed/\r.seed<4294967296):eF (cL r)=dB r:=by
 have c:=pi h;have b:=((kX r).1 h).2.2.2.1;have e:cL r=eE 1 (jn r):=by unfold cL;rw[f9 h]
 unfold eF;rw[e,BD];dsimp only;rw[Ye h a,f9 ⟨i4,b,e⟩]
theorem Yf{c:ba}{r:di}(h:eF c=dB r):cL r=c/\jv r=eR/\bB r.p=eR:=by
 unfold eF at h;cases hc:kE c with
 |none=>rw[hc]at h;cases h
 |some kx=>
  rw[hc]at h;dsimp only at h;by_cases a:kx.1=1/\bB (wN kx.2).p=eR/\cL (wN kx.2)=c
  ·rw[f9 a]at h;injection h with h
   subst h;refine⟨a.2.2,?_,a.2.1⟩;by_cases d:jv (wN kx.2)=eR
   ·exact d
   ·exfalso;have b:=a.2.2;unfold cL at b;rw[g0 d]at b;unfold kE at hc;rw[<-b]at hc;simp at hc
  ·rw[g0 a]at h;cases h
end Wl
namespace Go.Vc
open Go
section
variable {C:Ctx} {h:f8} {t e ts:Nat}
theorem JS:∀(l:ba) (b:ByteArray),l.foldl ByteArray.push b=⟨(b.data.toList++l).toArray⟩
 |[],b=>jj
 |x::l,b=>by
  rw[zB,JS l (b.push x)];simp[ByteArray.push]
theorem Xe(q:C.Ok)(F:∃i,C.T.get t=dB i/\i.dc=.slice e)(B:∃i,C.T.get ts=dB i/\i.dc=.str)(L:∃i,C.T.get e=dB i/\i.dc=.int .u8){s:Sl}{l:ba}{p:aB}(y:Seq h p s 1 aD l){K:ByteArray->f8->Prop}(w:K ⟨l.toArray⟩ h):
  aA C.P (convert t ts (.slice s.ptr s.len s.cap)) (.one (.sc .str)) h K:=by
 obtain⟨N,H,E⟩:=B;obtain⟨M,J,z⟩:=F;obtain⟨i3,a3,D⟩:=L;have G:C.P.underlying ts=dB .string:=by have:=q.dc H;rw[E]at this;exact xM this
 have I:C.P.underlying t=dB (.slice e):=by have:=q.dc J;rw[z]at this;exact kC this
 have u3:C.P.underlying e=dB (.int .u8):=by have:=q.dc a3;rw[D]at this;exact IU this
 unfold aA convert;refine af.bind (af.always (aU I) ?_);refine af.bind (af.always (aU G) ?_);refine af.bind (af.always (aU u3) ?_);unfold Conv.bytesToString;have d:=iP (P:=C.P) (f:=aD) (k:=1) (K:=λcs h'=>cs=(l.flatMap aD).toArray/\h'=h) (λ_=>rfl) y ⟨i4,i4⟩;cases hp:s.ptr with
 |none=>
  have:l=[]:=by
   cases l with
   |nil=>rfl
   |cons x r=>obtain⟨b,o,u,_⟩:=y.elem 0 x jj;rw[hp]at u;cases u
  subst this;exact af.pure' ⟨⟨#[]⟩,i4,w⟩
 |some a=>
  rw[hp]at d;dsimp only;have g:af C.P (loadCells a s.len) h λcs h'=>cs=(l.flatMap aD).toArray/\h'=h:=by
   have:wG 1 s.len (.slice (dB a) s.len s.cap)=loadCells a s.len:=by unfold wG;simp
   rw[<-this];exact d
  refine af.bind (g.mono ?_);rintro _ _ ⟨rfl,rfl⟩;have j:∀(l:ba) (b:ByteArray),aL C.P (forIn (m:=Sem) (l.flatMap aD) b λc r=>match c with
    |xi xp n=>do pure (ForInStep.yield (r.push (yB n.toNat)))
    |_=>do let r<-stuck "bytesToString: byte expected";pure r) (l.foldl ByteArray.push b):=λl=>by
   induction l with
   |nil=>intro b;exact .pure
   |cons x l ih=>
    intro b;have A:(x::l).flatMap aD=Value.int .u8 x.toNat::l.flatMap aD:=rfl;rw[A,List.forIn_cons];have e2:b.push (yB ((x.toNat:Int)).toNat)=b.push x:=by rw[qm];congr 1;apply yy.1;simp
    refine aL.bind (v:=ForInStep.yield (b.push x)) (by dsimp only;rw[e2];exact .pure) ?_;exact ih _
  refine af.bind (af.always (v:=l.foldl ByteArray.push ByteArray.empty) ?_ ?_)
  ·rw[List.forIn_toArray];exact j l _
  ·refine af.pure' ⟨_,i4,?_⟩;rw[JS];exact w
end
end Go.Vc
namespace Wl
section
variable {α:Type} (le:α->α->Bool)
def je(a b:α):Bool:=le a b&&le b a
def cC(l l':List α):Prop:=∀x,l.filter (je le x)=l'.filter (je le x)
def Sd(l:List α):Prop:=l.Pairwise λa b=>le a b=eR
structure Ord:Prop where
 trans:∀a b c,le a b=eR->le b c=eR->le a c=eR
 total:∀a b,(le a b||le b a)=eR
variable {le}
theorem Ord.GQ(o:Ord le){a b:α}(h:¬le a b=eR):le b a=eR:=by
 have:=o.total a b;cases h1:le a b with
 |true=>exact absurd h1 h
 |false=>rw[h1]at this;simpa using this
theorem Ord.refl(o:Ord le)(a:α):le a a=eR:=by have:=o.total a a;simpa using this
theorem cC.refl(l:List α):cC le l l:=λ_=>rfl
theorem cC.trans{l1 l2 a:List α}(h:cC le l1 l2)(k:cC le l2 a):cC le l1 a:=λx=>(h x).trans (k x)
theorem cC.symm{l1 l2:List α}(h:cC le l1 l2):cC le l2 l1:=λx=>(h x).symm
theorem cC.app{a b c d:List α}(h:cC le a b)(k:cC le c d):cC le (a++c) (b++d):=λx=>by
 rw[zl,zl,h x,k x]
theorem cC.mem(o:Ord le){l l':List α}(h:cC le l l'){y:α}(b:y∈l'):y∈l:=by have a:y∈l'.filter (je le y):=qI.2 ⟨b,m7⟩;rw[<-h y]at a;exact(qI.1 a).1
theorem cC.rot(o:Ord le){u v:List α}(h:∀x∈u,∀y∈v,¬le x y=eR):cC le (u++v) (v++u):=λz=>by
 rw[zl,zl];by_cases e:u.filter (je le z)=[]
 ·rw[e];simp
 ·by_cases f:v.filter (je le z)=[]
  ·rw[f];simp
  ·exfalso;obtain⟨x,i⟩:=yI _ e;obtain⟨y,g⟩:=yI _ f;obtain⟨c,a⟩:=qI.1 i;obtain⟨d,b⟩:=qI.1 g;unfold je at a b;simp only[qz]at a b;exact h x c y d (o.trans _ _ _ a.2 b.1)
theorem cC.SP(o:Ord le){l:List α}(h:cC le [] l):l=[]:=by
 cases l with
 |nil=>rfl
 |cons a l=>exact absurd (cC.mem o h (qH ..)) jj
theorem PN(o:Ord le):∀(l l':List α),Sd le l->Sd le l'->cC le l l'->l=l'
 |[],l',_,_,h=>(cC.SP o h).symm
 |a::l,[],_,_,h=>absurd (cC.SP o h.symm) jj
 |a::l,b::l',s,s',h=>by
  have c:a=b:=by
   have d:le a b=eR:=by
    have:=cC.mem o h (y:=b) (qH ..);rcases qX.1 this with e|e
    ·rw[e];exact o.refl _
    ·exact(zC.1 s).1 _ e
   have f:le b a=eR:=by
    have:=cC.mem o h.symm (y:=a) (qH ..);rcases qX.1 this with e|e
    ·rw[e];exact o.refl _
    ·exact(zC.1 s').1 _ e
   have h3:=h a;have g:je le a a=eR:=m7
   have e2:je le a b=eR:=by unfold je;rw[d,f];rfl
   rw[yZ g,yZ e2]at h3;injection h3
  subst c;rw[PN o l l' (zC.1 s).2 (zC.1 s').2 λx=>by
   have h3:=h x;rw[zr,zr]at h3;split at h3
   ·injection h3
   ·exact h3]
theorem GR(o:Ord le)(l:List α):Sd le (l.mergeSort le)/\cC le l (l.mergeSort le):=by
 refine⟨yq o.trans o.total l,λx=>?_⟩;have f:(l.filter (je le x)).Pairwise λa b=>le a b=eR:=by rw[List.pairwise_filter];refine List.Pairwise.imp ?_ (List.pairwise_of_forall (l:=l) (R:=λ_ _=>True) λ_ _=>trivial);intro a b _ e d;unfold je at e d;simp only[qz]at e d;exact o.trans _ _ _ e.2 d.1
 have g:=List.sublist_mergeSort o.trans o.total f List.filter_sublist;have c:=g.filter (je le x);rw[List.filter_filter]at c;simp only[Bool.and_self]at c;exact c.eq_of_length ((yf l le).symm.filter _).length_eq
theorem afi(o:Ord le){l l':List α}(s:Sd le l')(h:cC le l l'):l'=l.mergeSort le:=by obtain⟨a,b⟩:=GR o l;exact PN o _ _ s a (h.symm.trans b)
theorem Sd.app(o:Ord le){u v:List α}(b:Sd le u)(a:Sd le v)(h:∀x∈u,∀y∈v,le x y=eR):Sd le (u++v):=wZ.2 ⟨b,a,h⟩
theorem Sd.left{u v:List α}(h:Sd le (u++v)):Sd le u:=(wZ.1 h).1
theorem Sd.right{u v:List α}(h:Sd le (u++v)):Sd le v:=(wZ.1 h).2.1
theorem Sd.Je{u v:List α}(h:Sd le (u++v)):∀x∈u,∀y∈v,le x y=eR:=(wZ.1 h).2.2
theorem Sd.at_(o:Ord le){l:List α}(h:Sd le l){i j:Nat}(b:i<=j)(a:j<i0 l):le (l[i]'(by omega)) l[j]=eR:=by
 by_cases e:i=j
 ·subst e;exact o.refl _
 ·exact zm.1 h i j i5 a i5
theorem aal(o:Ord le){l1 l2 b a g f:List α}(l:Sd le (l1++l2))(k:Sd le (b++a))(h:∀x∈l1,∀y∈a,le x y=eR)(e:∀x∈l2,∀y∈b,¬le x y=eR)
  (i:cC le (l1++b) g) (n:Sd le g) (j:cC le (l2++a) f) (p:Sd le f):Sd le (g++f)/\cC le ((l1++l2)++(b++a)) (g++f):=by
 constructor
 ·refine Sd.app o n p λx d y c=>?_;rcases qD.1 (cC.mem o i d)with d|d<;>rcases qD.1 (cC.mem o j c)with c|c
  ·exact l.Je x d y c
  ·exact h x d y c
  ·exact o.GQ (e y c x d)
  ·exact k.Je x d y c
 ·have m:cC le ((l1++l2)++(b++a)) ((l1++b)++(l2++a)):=by rw[show(l1++l2)++(b++a)=l1++((l2++b)++a)by simp,show(l1++b)++(l2++a)=l1++((b++l2)++a)by simp];exact(cC.refl _).app ((cC.rot o e).app (cC.refl _))
  exact m.trans (i.app j)
end
section
variable {α:Type} {le:α->α->Bool}
theorem xO(o:Ord le):∀{l l':List α},cC le l l'->i0 l=i0 l'
 |[],l',h=>by rw[cC.SP o h]
 |a::l,l',h=>by
  have w:=cC.mem o h.symm (y:=a) (qH ..);obtain⟨u,v,t⟩:=List.append_of_mem w;have s:∃(u:List α) (b:α) (v:List α),l'=u++b::v/\(∀x∈u,je le a x=eS)/\je le a b=eR:=by
   have k:l'.filter (je le a)≠[]:=λF=>by
    have:a∈l'.filter (je le a):=qI.2 ⟨w,m7⟩;rw[F]at this;cases this
   clear t u v w h
   induction l' with
   |nil=>exact absurd i4 k
   |cons c l' ih=>
    by_cases n:je le a c=eR
    ·exact⟨[],c,l',i4,jj,n⟩
    ·rw[List.filter_cons_of_neg n]at k;obtain⟨u,b,v,e,f,g⟩:=ih k;refine⟨c::u,b,v,n9,λx i=>?_,g⟩;rcases qX.1 i with rfl|i
     ·simpa using n
     ·exact f x i
  obtain⟨u,b,v,rfl,z,D⟩:=s;have A:je le a a=eR:=m7
  have m:=h a;have q:u.filter (je le a)=[]:=wo.2 λx i=>by rw[z x i];simp
  rw[yZ A,zl,q,z6,yZ D]at m;have r:a=b:=by injection m
  subst r;have E:cC le l (u++v):=λx=>by
   have i:=h x;rw[zr,zl,zr]at i;rw[zl];by_cases d:je le x a=eR
   ·rw[f9 d,f9 d]at i;have p:u.filter (je le x)=[]:=wo.2 λy B j=>by
     have:=z y B;unfold je at this d j;simp only[qz]at d j;rw[o.trans _ _ _ d.2 j.1,o.trans _ _ _ j.2 d.1]at this;cases this
    rw[p,z6]at i⊢;injection i
   ·rw[g0 d,g0 d]at i;exact i
  rw[zi,xO o E];simp;omega
end
end Wl
namespace Go.Vc
open Go
theorem Mg{P:Program}{id:FuncId}(E:∀(fP off cap:Nat) (i:az) (w:World),Sort.Holds (Value.int .i64) w fP off i.toArray->i0 i<=9223372036854775807->i0 i<=cap->
   Calls P id #[.slice (dB ⟨fP,off,eH⟩) i.length cap] w λe p=>e=.returned (.slice (dB ⟨fP,off,eH⟩) (Lib.compact i).length cap)/\∃q,p=Sort.putRow (Value.int .i64) (Sort.ahead w q) fP off (Lib.compact i++qg (i0 i-i0 (Lib.compact i)) 0).toArray)
  (F:∀(a:aO) (cap:Nat) (w:World),Calls P id #[.slice a 0 cap] w λe p=>e=.returned (.slice a 0 cap)/\p=w)
  {e:TypeId} {s:Sl} {l:az} {h:f8} (x:Own h e s 1 aq l) (G:i0 l<2^40):
  ab P id #[.slice s.ptr s.len s.cap] h λv h'=>v=.slice s.ptr (Lib.compact l).length s.cap/\Own h' e ⟨s.ptr,i0 (Lib.compact l),s.cap⟩ 1 aq (Lib.compact l)/\aY (λb=>¬s.on b) h h':=by
 intro w o;have f:=x.len;have A:=x.cap;rcases x.head with⟨h1,h2,h3⟩|⟨b,rest,h1,h2,h3,h4⟩
 ·subst h3;have y:Lib.compact ([]:az)=[]:=rfl;rw[f,h1];refine(F eH s.cap w).mono ?_;rintro H p ⟨rfl,rfl⟩;refine⟨_,i4,dm.refl _,by rw[y];rfl,by rw[y];exact⟨i4,.inl ⟨i4,by simpa using h2,i4⟩⟩,by rw[<-o];exact aY.refl _ _⟩
 ·rw[h1,f];have t:w.heap[b]?=dB (.cells (l.flatMap aq++rest).toArray e (0,0)):=by rw[o];exact h2
  refine(E b 0 s.cap l w (PJ t) i5 i5).mono ?_;rintro H p ⟨rfl,n,rfl⟩;have r:=lt_of_block t;have D:=Lib.compact_length_le l;obtain⟨l',g⟩:∃l',l'=Lib.compact l++qg (i0 l-i0 (Lib.compact l)) 0:=⟨_,rfl⟩
  rw[<-g];have m:i0 l'=i0 l:=by rw[g];simp;omega
  have c:∀k,k<h.size->(Sort.putRow (Value.int .i64) (Sort.ahead w n) b 0 l'.toArray).heap[k]?=if b=k then dB (.cells (l'.flatMap aq++rest).toArray e (0,0))else h[k]?:=by
   intro k z;simp only[Sort.putRow,Sort.mapBlock,Sort.ahead,wz];by_cases d:b=k
   ·subst d;rw[f9 i4,f9 i4,t,qT,Sort.onCells,SG _ _ _ m]
   ·rw[g0 d,g0 d,o]
  rw[o]at r;have u:Own (Sort.putRow (Value.int .i64) (Sort.ahead w n) b 0 l'.toArray).heap e s 1 aq l':=⟨by rw[m];exact f,.inr ⟨b,rest,h1,by rw[c b r,f9 rfl],h3,h4⟩⟩
  have j:=u.cut (λ_=>rfl) (Lib.compact l).length i5;rw[g,vU]at j;refine⟨_,i4,⟨i4,i4,i4,by simp[Sort.putRow,Sort.mapBlock,Sort.ahead]⟩,i4,by rw[h1]at j;rw[g];exact j,by simp[Sort.putRow,Sort.mapBlock,Sort.ahead,o],?_⟩;intro k z B;rw[c k z,g0 λd=>B ⟨0,by rw[h1,d]⟩]
end Go.Vc
namespace Wl
open Go
theorem Ah(a:az)(p:a.Pairwise (·<=·)):∀m,m<=i0 a->(Lib.compactUpTo a.toArray m).Pairwise (·<·)/\(∀x,x∈Lib.compactUpTo a.toArray m↔∃j,j<m/\a[j]?=dB x)
 |0,_=>⟨by simp[Lib.compactUpTo],λx=>by simp[Lib.compactUpTo]⟩
 |m+1,hm=>by
  obtain⟨v,t⟩:=Ah a p m i5;have c:m<i0 a:=i5
  have q:a.toArray[m]! =a[m]:=mn
  rw[Lib.compactUpTo_succ,q];have u:∀j (f:j<m),a[j]'(by omega)<=a[m]:=λj f=>zm.1 p j m i5 c f;by_cases i:Lib.keeps a.toArray m=eR
  ·rw[f9 i];have o:m=0∨a[m-1]'(by omega)<a[m]:=by
    by_cases l:m=0
    ·exact .inl l
    ·right;have g:a.toArray[m-1]! =a[m-1]'(by omega):=by simp[show m-1<i0 a by omega]
     have z:a[m]≠a[m-1]'(by omega):=λn=>by
      have:=Lib.keeps_neg (d:=a.toArray) (m:=m) i5 (by rw[q,g];exact n);rw[this]at i;cases i
     have:=u (m-1) i5;omega
   have k:∀x∈Lib.compactUpTo a.toArray m,x<a[m]:=λx r=>by
    obtain⟨j,f,h⟩:=(t x).1 r;rw[qd i5]at h;injection h with h
    rcases o with h0|h0
    ·omega
    ·have h3:a[j]'(by omega)<=a[m-1]'(by omega):=by
      by_cases b:j=m-1
      ·subst b;exact Int.le_refl _
      ·exact zm.1 p j (m-1) i5 i5 i5
     omega
   refine⟨wZ.2 ⟨v,jj,λx r y w=>?_⟩,λx=>?_⟩
   ·rw[qx.1 w];exact k x r
   ·rw[qD,t,qx];constructor
    ·rintro(⟨j,f,e⟩|rfl)
     ·exact⟨j,i5,e⟩
     ·exact⟨m,i5,qd c⟩
    ·rintro⟨j,f,e⟩;by_cases b:j=m
     ·subst b;rw[qd c]at e;injection e with e;exact .inr e.symm
     ·exact .inl ⟨j,i5,e⟩
  ·rw[g0 i,qN];have l:m≠0:=λh0=>i (by subst h0;exact Lib.keeps_lt_one _ 0 i5);have s:a[m]=a[m-1]'(by omega):=by
    by_cases n:a[m]=a[m-1]'(by omega)
    ·exact n
    ·have g:a.toArray[m-1]! =a[m-1]'(by omega):=by simp[show m-1<i0 a by omega]
     exact absurd (Lib.keeps_pos (d:=a.toArray) (m:=m) (by rw[q,g];exact n)) i
   refine⟨v,λx=>?_⟩;rw[t];constructor
   ·rintro⟨j,f,e⟩;exact⟨j,i5,e⟩
   ·rintro⟨j,f,e⟩;by_cases b:j=m
    ·subst b;refine⟨j-1,i5,?_⟩;rw[qd c]at e;rw[qd i5,<-s];exact e
    ·exact⟨j,i5,e⟩
theorem GS(l:az):(ly l).Pairwise (·<=·):=by have:=yq (le:=λx y:Int=>decide (x<=y)) (by intro a b c d e;simp at d e⊢;omega) (by intro a b;simp;omega) l;exact this.imp λh=>j7
theorem Yg(l:az)(h:∀x∈l,0<=x/\x<64):Lib.compact (ly l)=cA l:=by
 obtain⟨d,c⟩:=Ah (ly l) (GS l) (ly l).length (qk _);have m:∀x,x∈Lib.compact (ly l)↔x∈l:=λx=>by
  unfold Lib.compact;rw[c,<-PL l x,List.mem_iff_getElem?];constructor
  ·rintro⟨j,_,e⟩;exact⟨j,e⟩
  ·rintro⟨j,e⟩;exact⟨j,(qn.1 e).1,e⟩
 have i:(cA l).Pairwise (·<·):=by unfold cA;refine List.Pairwise.filter _ ?_;rw[List.pairwise_map];exact List.pairwise_lt_range.imp λh=>i5
 have f:∀x,x∈cA l↔x∈l:=λx=>by
  unfold cA;rw[qI,qt];constructor
  ·rintro⟨_,c⟩;simpa using c
  ·intro g;obtain⟨a,b⟩:=h x g;exact⟨⟨x.toNat,qE.2 i5,i5⟩,k9⟩
 have k:(Lib.compact (ly l)).Perm (cA l):=(List.perm_ext_iff_of_nodup (d.imp λh=>i5) (i.imp λh=>i5)).2 λx=>(m x).trans (f x).symm;exact k.eq_of_pairwise (le:=(·<·)) (λa b _ _ d c=>i5) d i
def ce(o b t:Int):Int:=(128*o+16*b+t)%4294967296
def fB(m:aE)(r:di):Bool:=jv r&&(decide (r.p=m.p)&&m.aH.any λx=>decide (x.object=r.object)&&(decide (r.block<(x.tries.length:Int))&&decide (r.seed=ce r.object r.block (x.tries.getD r.block.toNat 0))))
def rS(a b:di):Bool:=decide (a.object<b.object∨(a.object=b.object/\(a.block<b.block∨(a.block=b.block/\a.id<=b.id))))
def oG(a b:di):Bool:=decide (a.object=b.object/\a.block=b.block/\a.id=b.id)
def Mh:di:=⟨0,0,0,(0,0,0),0,[]⟩
def pS(l:List di)(k:Nat):Bool:=decide (k=0)||!oG (l.getD k Mh) (l.getD (k-1) Mh)
def pT(l:List di):List di:=((qw l.length).filter (pS l)).map λi=>l.getD i Mh
def jo(m:aE)(c:ba):Option di:=match eF c with|some r=>if fB m r then dB r else eH|none=>eH
def cU(m:aE)(l:cw):List di:=pT ((l.filterMap (jo m)).mergeSort rS)
theorem aht:Ord rS:=⟨λa b c d e=>by
 unfold rS at*;rw[decide_eq_true_eq]at*;omega,λa b=>by
 unfold rS;rw[we,decide_eq_true_eq,decide_eq_true_eq];omega⟩
theorem Yh(m:aE)(l:cw)(i:Nat)(a:i<i0 l):(l.take (i+1)).filterMap (jo m)=(l.take i).filterMap (jo m)++(jo m l[i]).toList:=by
 have:l.take (i+1)=l.take i++[l[i]]:=by rw[List.take_add_one,qd a];rfl
 rw[this,List.filterMap_append];cases hg:jo m l[i]with
 |none=>simp[hg]
 |some r=>simp[hg]
end Wl
namespace Go.Vc
open Go
section
variable {B:aB} {α:Type} {C:Ctx} {h0 h:f8} {As:List HP} {e t k by_:Nat} {s:Sl} {f:α->bc} {l:List α} {z:bc}
theorem Fu(z:bc)(n:Nat):(yo z.toArray n).toList.length=n*i0 z:=by simp[yo]
theorem Rc{z:bc}(d:∀v∈z,v.oneCell'=eR)(n:Nat):∀v∈(yo z.toArray n).toList,v.oneCell'=eR:=by
 intro v c;simp only[yo,vJ,qt,Array.mem_toList_iff,Array.mem_range]at c;obtain⟨i,b,rfl⟩:=c;simp only[yb]at b⊢;have h0:0<i0 z:=by
  rcases Nat.eq_zero_or_pos z.length with h|h
  ·rw[h]at b;simp at b
  ·exact h
 have a:=yw i h0;rw[getElem!_pos z.toArray _ j9];exact d _ jj
theorem Own.tO(A:C.Ok)(u:Own h e s k f l)(B:cj C.toCU t e k z by_)(o:∀x,i0 (f x)=k)(y:i0 z=k)(d:∀v∈z,v.oneCell'=eR)(j:Nat)(w:j<=i0 l){ty:Nat}{K:f8->Prop}
  (i:∀h',Own h' e ⟨s.ptr,j,s.cap⟩ k f (l.take j)->aY (λb=>¬s.on b) h h'->K h'):
  af C.P (yV #[t] ty #[.slice (if s.cap=j then s.ptr else s.ptr.map (·.add (j*k))) (s.len-j) (s.cap-j)]) h λ_ h'=>K h':=by
 have O:=u.len;have c:=u.cut o j w;unfold yV;refine af.bind (af.always (aU (B.under A)) ?_);by_cases r:j=i0 l
 ·have F:s.len-j=0:=i5
  rw[F];generalize (if s.cap=j then s.ptr else s.ptr.map (·.add (j*k)))=q;cases q with
  |none=>exact af.pure' (i h c (aY.refl _ _))
  |some a=>exact af.pure' (i h c (aY.refl _ _))
 ·rcases u.head with⟨h1,h2,h3⟩|⟨b,rest,h1,h2,h3,h4⟩
  ·subst h3;simp at w r;omega
  ·have g:s.cap≠j:=i5
   rw[g0 g,h1];obtain⟨m,L⟩:∃m,s.len-j=m+1:=⟨s.len-j-1,i5⟩
   rw[L];obtain⟨T,N,U,S,D,R,I,Q⟩:=B.ex;obtain⟨H,M,G⟩:=sY A.toOk D;refine af.bind (af.always M ?_);have p:H.cells=z.toArray:=by apply yu;rw[G,I]
   rw[p];refine af.bind ?_;have E:((⟨b,0,eH⟩:fz).add (j*k))=⟨b,j*k,eH⟩:=by simp[add_eq]
   show af C.P (storeCells ((⟨b,0,eH⟩:fz).add (j*k)) (yo z.toArray (m+1)).toList) h _;rw[E];have n:i0 (l.drop j)=m+1:=i9
   refine fX (e:=e) (pre:=(l.take j).flatMap f) (old:=(l.drop j).flatMap f) (post:=rest) ?_ ?_ ?_ (Rc d _) ?_
   ·rw[<-zk,qK];exact h2
   ·rw[eu o,n,Fu,y]
   ·rw[eu o,zb,yx i5];omega
   ·refine af.pure' (i _ ⟨i9,.inr ⟨b,(yo z.toArray (m+1)).toList++rest,h1,?_,?_,i7⟩⟩ ?_)
    ·rw[jt h2,f9 rfl];simp
    ·rw[qy,Fu,y,h3,<-Nat.add_mul];dsimp only;congr 1;omega
    ·exact aY.kt h2 λJ=>J ⟨0,h1⟩
theorem aa.tO(u:C.Ok)(H:aa B h0 h As)(i:Nat)(m:As[i]?=dB (al e s k f l))(w:cj C.toCU t e k z by_)(r:∀x,i0 (f x)=k)(o:i0 z=k)(a:∀v∈z,v.oneCell'=eR)(j:Nat)(n:j<=i0 l){ty:Nat}{K:f8->Prop}
  (p:∀h',aa B h0 h' (As.set i (al e ⟨s.ptr,j,s.cap⟩ k f (l.take j)))->K h'):
  af C.P (yV #[t] ty #[.slice (if s.cap=j then s.ptr else s.ptr.map (·.add (j*k))) (s.len-j) (s.cap-j)]) h λ_ h'=>K h':=
 (H.own i m).tO u w r o a j n λh' x y=>p h' (H.step i m λq g _=>⟨y.mono λb _ c d=>c (g.2 b d),x,λb c=>⟨x.lt c,.inl (g.2 b c)⟩⟩)
end
end Go.Vc
namespace Wl
open Go
theorem RY:∀x y:ba,(Op.bytesLess x y||x==y)=!Op.bytesLess y x
 |[],[]=>rfl
 |[],_::_=>rfl
 |_::_,[]=>by simp[Op.bytesLess]
 |a::x,b::y=>by
  have f:=RY x y;have d:a<b∨a=b∨b<a:=by
   rcases wM a.toNat b.toNat with h|h|h
   ·exact .inl (zY.2 h)
   ·exact .inr (.inl (yy.1 h))
   ·exact .inr (.inr (zY.2 h))
  rcases d with h|rfl|h
  ·have c:¬b<a:=λh'=>by have:=zY.1 h;have:=zY.1 h';omega
   have e:b≠a:=λh'=>by subst h';exact c h
   simp[Op.bytesLess,h,c,e]
  ·have c:¬a<a:=λh'=>by have:=zY.1 h';omega
   simp only[Op.bytesLess,c,decide_false,Bool.false_or,beq_self_eq_true,zJ];rw[<-f];congr 1;simp
  ·have c:¬a<b:=λh'=>by have:=zY.1 h;have:=zY.1 h';omega
   have e:a≠b:=λh'=>by subst h';exact c h
   simp[Op.bytesLess,h,c,e]
theorem Jf:∀x y z:ba,Op.bytesLess x y=eR->Op.bytesLess y z=eR->Op.bytesLess x z=eR
 |x,[],_,h1,_=>by cases x<;>simp[Op.bytesLess]at h1
 |_,b::y,[],_,h2=>by simp[Op.bytesLess]at h2
 |[],_::_,_::_,_,_=>rfl
 |a::x,b::y,c::z,h1,h2=>by
  simp only[Op.bytesLess,we,decide_eq_true_eq,qz,beq_iff_eq]at h1 h2⊢;rcases h1 with h1|⟨rfl,h1⟩
  ·rcases h2 with h2|⟨rfl,h2⟩
   ·exact .inl (zY.2 (by have:=zY.1 h1;have:=zY.1 h2;omega))
   ·exact .inl h1
  ·rcases h2 with h2|⟨rfl,h2⟩
   ·exact .inl h2
   ·exact .inr ⟨i4,Jf x y z h1 h2⟩
theorem aam(x:ba):Op.bytesLess x x=eS:=by
 have:=RY x x;cases h:Op.bytesLess x x with
 |false=>rfl
 |true=>rw[h]at this;simp at this
def ke(a b:ByteArray):Bool:=!ft b a
theorem Mi(a b:ByteArray):ke a b=eR↔ft a b=eR∨a.toList=b.toList:=by unfold ke ft;rw[<-RY,we,beq_iff_eq]
theorem GU(a b c:ByteArray)(d:ke a b=eR)(e:ke b c=eR):ke a c=eR:=by
 rw[Mi]at d e⊢;unfold ft at*;rcases d with d|d
 ·rcases e with e|e
  ·exact .inl (Jf _ _ _ d e)
  ·rw[<-e];exact .inl d
 ·rw[d];exact e
theorem GV(a b:ByteArray):(ke a b||ke b a)=eR:=by
 unfold ke;cases h:ft b a with
 |false=>rfl
 |true=>
  have:ft a b=eS:=by
   cases h2:ft a b with
   |false=>rfl
   |true=>
    have:=Jf _ _ _ h h2;rw[aam]at this;cases this
  rw[this];rfl
def tf(a b:bM):Bool:=ke a.name b.name
def eZ(m:aE)(x:bM):aE:={m with seq:=m.seq+1,next:=m.next+1,aH:=(m.aH++[x]).mergeSort tf}
open Classical
theorem lZ(a:UInt8):a^^^a=0:=UInt8.xor_self
theorem sA(a b:UInt8):(a^^^b)^^^b=a:=by rw[UInt8.xor_assoc,lZ,zW]
theorem cH{c:UInt8}{a t:Row}(h:i0 a=i0 t)(j:Nat):aN (cR c a t) j=aN t j^^^Gf.mul c (aN a j):=by
 simp only[aN,cR,qe,wA];by_cases b:j<i0 a
 ·rw[qd b,qd i5];rfl
 ·rw[qV i5,qV i5];simp[Gf.mul_zero]
theorem BE(c:UInt8)(a:Row)(j:Nat):aN (scaleB c a) j=Gf.mul c (aN a j):=by
 simp only[aN,scaleB,qe,qS];cases a[j]? with
 |none=>simp[Gf.mul_zero]
 |some x=>rfl
def aK(n:Nat):Row:=qg n 0
theorem cy(n j:Nat):aN (aK n) j=0:=by simp only[aN,aK,qe,List.getElem?_replicate];split<;>rfl
theorem eT{n:Nat}{a b:Row}(f:i0 a=n)(e:i0 b=n)(h:∀j,j<n->aN a j=aN b j):a=b:=by apply wv i5;intro j c d;have:=h j i5;simpa[aN,qe,qd c,qd d]using this
inductive Span (n:Nat) (m:aM):Row->Prop
 |zero:Span n m (aK n)
 |add (c:UInt8) (r v:Row):r∈m->Span n m v->Span n m (cR c r v)
section
variable {n:Nat} {m m':aM}
theorem Span.len(a:aV n m){v:Row}(h:Span n m v):i0 v=n:=by
 induction h with
 |zero=>simp[aK]
 |add c r v hr _ ih=>rw[bX (by rw[a r hr,ih])];exact ih
theorem Span.comb(a:aV n m){u v:Row}(e:Span n m u)(b:Span n m v)(c:UInt8):Span n m (cR c u v):=by
 induction e with
 |zero=>
  have:cR c (aK n) v=v:=eT (n:=n) (by rw[bX (by simp[aK,b.len a])];exact b.len a) (b.len a) λj _=>by
   rw[cH (by simp[aK,b.len a]),cy,Gf.mul_zero,zW]
  rw[this];exact b
 |add d r w hr hw ih=>
  have l1:=b.len a;have l2:=hw.len a;have f:=a r hr;have:cR c (cR d r w) v=cR (Gf.mul c d) r (cR c w v):=eT (n:=n) (by rw[bX k7];exact l1) (by rw[bX k7,bX];exact l1) λj _=>by
   rw[cH k7,cH i5,cH k7,cH i5,Gf.ku,Gf.mul_assoc]
   ac_rfl
  rw[this];exact .add _ _ _ hr ih
theorem Span.row(b:aV n m){r:Row}(a:r∈m):Span n m r:=by
 have:=Span.add 1 r _ a (.zero (n:=n) (m:=m));have e:cR 1 r (aK n)=r:=eT (n:=n) (by rw[bX (by simp[aK,b r a])];simp[aK]) (b r a) λj _=>by
  rw[cH (by simp[aK,b r a]),cy,Gf.one_mul,wq]
 rwa [e]at this
theorem Span.sub(a:aV n m)(h:∀r∈m',Span n m r){v:Row}(b:Span n m' v):Span n m v:=by
 induction b with
 |zero=>exact .zero
 |add c r v hr _ ih=>exact(h r hr).comb a ih c
theorem Span.mono(h:∀r∈m',r∈m){v:Row}(a:Span n m' v):Span n m v:=by
 induction a with
 |zero=>exact .zero
 |add c r v hr _ ih=>exact .add c r v (h r hr) ih
theorem Span.lin(d:aV n m)(φ:Row->UInt8)(g:φ (aK n)=0)(f:∀c a t,i0 a=n->i0 t=n->φ (cR c a t)=φ t^^^Gf.mul c (φ a))(e:∀r∈m,φ r=0){v:Row}(b:Span n m v):φ v=0:=by
 induction b with
 |zero=>exact g
 |add c r v hr' b ih=>rw[f c r v (d r hr') (b.len d),ih,e r hr',Gf.mul_zero,zW]
end
def Co(S:Row->Prop)(j:Nat):Prop:=∃v,S v/\(∀i,i<j->aN v i=0)/\aN v j≠0
noncomputable def leads(S:Row->Prop)(n:Nat):Nat:=(qw n).countP λj=>decide (Co S j)
structure Way (n:Nat) (m:aM) (c top:Nat) (rows:aM):Prop where
 even:aV n rows
 len:i0 rows=i0 m
 tle:top<=i0 rows
 span:∀v,Span n rows v↔Span n m v
 cnt:top=leads (Span n m) c
 piv:∃p:Nat->Nat,(∀i,i<top->p i<c)/\(∀i,i<top->∀k,k<i0 rows->aN (aC rows k) (p i)=if k=i then 1 else 0)/\(∀i,i<top->∀j,j<p i->aN (aC rows i) j=0)/\(∀i j,i<j->j<top->p i<p j)
 low:∀k,top<=k->k<i0 rows->∀j,j<c->aN (aC rows k) j=0
theorem mem_row{m:aM}{i:Nat}(h:i<i0 m:=by omega):aC m i∈m:=by rw[bx h];exact qh h
theorem fl{m:aM}{r:Row}(h:r∈m):∃i,i<i0 m/\r=aC m i:=by obtain⟨i,a,rfl⟩:=qJ h;exact⟨i,a,(bx a).symm⟩
theorem lH{m:aM}{i j:Nat}{r:Row}(a:i<i0 m:=by omega):aC (m.set i r) j=if i=j then r else aC m j:=by
 simp only[aC,qe,zd];by_cases h:i=j
 ·subst h;simp[a]
 ·simp[h]
theorem Ai{m:aM}{i j k:Nat}(d:i<i0 m)(c:j<i0 m):aC (jE m i j) k=if k=j then aC m i else if k=i then aC m j else aC m k:=by
 rw[jE,lH oo,lH d];by_cases a:j=k
 ·rw[f9 a,f9 a.symm]
 ·rw[g0 a,g0 (show¬k=j fromλh=>a h.symm)];by_cases b:i=k
  ·rw[f9 b,f9 b.symm]
  ·rw[g0 b,g0 (show¬k=i fromλh=>b h.symm)]
theorem El{m:aM}{t c k:Nat}(a:t<i0 m):aC (kj t c m) k=if t=k then scaleB (Gf.inv (aN (aC m t) c)) (aC m t)else aC m k:=by rw[kj,lH a]
section
variable {n:Nat} {m:aM}
theorem aan(l:aV n m){i j:Nat}(b:i<i0 m)(a:j<i0 m)(v:Row):Span n (jE m i j) v↔Span n m v:=by
 refine⟨Span.mono λr f=>?_,Span.mono λr f=>?_⟩
 ·obtain⟨k,c,rfl⟩:=fl f;rw[lY]at c;rw[Ai b a];split
  ·exact mem_row b
  ·split
   ·exact mem_row a
   ·exact mem_row c
 ·obtain⟨k,c,rfl⟩:=fl f;have e:∀x,x<i0 m->aC (jE m i j) x∈jE m i j:=λx h=>mem_row (by rw[lY];exact h);by_cases d:k=i
  ·subst d;have:=e j a;rw[Ai b a,f9 rfl]at this;exact this
  ·by_cases g:k=j
   ·subst g;have:=e i b;rw[Ai b a]at this;by_cases h3:i=k
    ·exact absurd h3.symm d
    ·rw[g0 h3,f9 rfl]at this;exact this
   ·have:=e k c;rw[Ai b a,g0 g,g0 d]at this;exact this
theorem aao(h:aV n m){t c:Nat}(b:t<i0 m)(i:aN (aC m t) c≠0)(v:Row):Span n (kj t c m) v↔Span n m v:=by
 have d:=BB h (c:=c) b;have f:=cx h b;have s:∀(x:UInt8) (r:Row),i0 r=n->scaleB x r=cR x r (aK n):=λx r a=>eT (n:=n) (by rw[ph,a]) (by rw[bX (by simp[aK,a])];simp[aK]) λj _=>by
  rw[BE,cH (by simp[aK,a]),cy,wq]
 refine⟨Span.sub h λr a=>?_,Span.sub d λr a=>?_⟩
 ·obtain⟨k,g,rfl⟩:=fl a;rw[oQ]at g;rw[El b];split
  ·rw[s _ _ f];exact .add _ _ _ (mem_row b) .zero
  ·exact Span.row h (mem_row g)
 ·obtain⟨k,g,rfl⟩:=fl a;have e:∀x,x<i0 m->Span n (kj t c m) (aC (kj t c m) x):=λx q=>Span.row d (mem_row (by rw[oQ];exact q));by_cases l:t=k
  ·subst l;have:=e t b;rw[El b,f9 rfl]at this;have o:=this.comb d .zero (aN (aC m t) c);have p:cR (aN (aC m t) c) (scaleB (Gf.inv (aN (aC m t) c)) (aC m t)) (aK n)=aC m t:=eT (n:=n) (by rw[bX (by simp[aK,ph,f])];simp[aK]) f λj _=>by
    rw[cH (by simp[aK,ph,f]),cy,wq,BE,<-Gf.mul_assoc,Gf.Oy i,Gf.one_mul]
   rw[p]at o;exact o
  ·have:=e k g;rw[El b,g0 l]at this;exact this
theorem aap(d:aV n m){t c:Nat}(f:t<i0 m)(v:Row):Span n (fk t c m m.length) v↔Span n m v:=by
 have b:=BC d (c:=c) (k:=i0 m) f;have s:=cx d f;refine⟨Span.sub d λr h=>?_,Span.sub b λr h=>?_⟩
 ·obtain⟨k,a,rfl⟩:=fl h;rw[oR]at a;rw[sw a];split
  ·exact .add _ _ _ (mem_row f) (Span.row d (mem_row a))
  ·exact Span.row d (mem_row a)
 ·obtain⟨k,a,rfl⟩:=fl h;have e:∀x,x<i0 m->Span n (fk t c m m.length) (aC (fk t c m m.length) x):=λx q=>Span.row b (mem_row (by rw[oR];exact q));have i:=e t f;rw[sw f,g0 jj]at i;by_cases l:k=t
  ·subst l;exact i
  ·have o:=e k a;rw[sw a,f9 ⟨a,l⟩]at o;have h3:=i.comb b o (aN (aC m k) c);have g:=cx d a;have p:cR (aN (aC m k) c) (aC m t) (cR (aN (aC m k) c) (aC m t) (aC m k))=aC m k:=eT (n:=n) (by rw[bX k7,bX];exact g) g λj _=>by
    rw[cH k7,cH i5,sA]
   rw[p]at h3;exact h3
def bU(f g:Nat->UInt8):Nat->UInt8
 |0=>0
 |k+1=>bU f g k^^^Gf.mul (f k) (g k)
theorem fU(f g:Nat->UInt8):∀k,(∀i,i<k->f i=0)->bU f g k=0
 |0,_=>rfl
 |k+1,h=>by rw[bU,fU f g k λi a=>h i i5,h k i5,Gf.zero_mul];rfl
theorem Jg(f g:Nat->UInt8)(x:Nat):∀k,x<k->(∀i,i<k->f i=if x=i then 1 else 0)->bU f g k=g x
 |0,hx,_=>i5
 |k+1,hx,h=>by
  rw[bU];by_cases a:x=k
  ·subst a;rw[fU f g x λi b=>by rw[h i i5,g0 i5],h x i5,f9 i4,Gf.one_mul,wq]
  ·rw[Jg f g x k i5 λi b=>h i i5,h k i5,g0 a,Gf.zero_mul,zW]
theorem Jh(b a g:Nat->UInt8)(c:UInt8):∀k,bU (λi=>b i^^^Gf.mul c (a i)) g k=bU b g k^^^Gf.mul c (bU a g k)
 |0=>by simp[bU,Gf.mul_zero]
 |k+1=>by
  rw[bU,bU,bU,Jh b a g c k,Gf.ku,Gf.Xb,Gf.mul_assoc]
  ac_rfl
theorem Mj(S:Row->Prop)(c:Nat):leads S (c+1)=leads S c+if Co S c then 1 else 0:=by simp only[leads,zQ,List.countP_append,List.countP_cons,List.countP_nil];by_cases h:Co S c<;>simp[h]
theorem aaq(c:aV n m):Way n m 0 0 m:=⟨c,i4,i5,λ_=>Iff.rfl,by simp[leads],⟨λ_=>0,λi a=>i5,λi a=>i5,λi a=>i5,λi j _ b=>i5⟩,λk _ _ j b=>i5⟩
theorem ads(hm:aV n m){c b:Nat}{rows:aM}(w:Way n m c b rows)(hc:c<n):Way n m (c+1) (jF (b,rows) c).1 (jF (b,rows) c).2:=by
 obtain⟨H,Y,ah,R,M,⟨p,P,p2,p3,p4⟩,f⟩:=w;have hS:∀v,Span n rows v↔Span n m v:=R;have S:Span n rows=Span n m:=funext λv=>propext (hS v);unfold jF;dsimp only;cases hb:jm rows b c with
 |none=>
  have V:=Vn hb;dsimp only;have am:¬Co (Span n m) c:=by
   rw[<-S];rintro⟨v,hv,hz,ad⟩;apply ad;have hφ:=Span.lin H (λv=>aN v c^^^bU (λi=>aN v (p i)) (λi=>aN (aC rows i) c) b) (by
     simp only[cy];rw[fU _ _ _ λi _=>rfl];rfl) (λx a t ha ht=>by
     simp only[cH (show a.length=i0 t by omega)];rw[Jh,Gf.ku];ac_rfl) (λr hr=>by
     obtain⟨k,F,rfl⟩:=fl hr;by_cases Q:k<b
     ·rw[Jg _ _ k b Q λi E=>by rw[p2 i E k F]];exact lZ _
     ·rw[V k i5 F,fU _ _ _ λi E=>by rw[p2 i E k F,g0 i5]];rfl) hv
   rw[fU _ _ _ λi E=>hz _ (P i E),zW]at hφ;exact hφ
  refine⟨H,Y,ah,R,by rw[Mj,g0 am,M];rfl,⟨p,λi E=>by have:=P i E;omega,p2,p3,p4⟩,λk y B j d=>?_⟩;rcases zo.1 d with h|rfl
  ·exact f k y B j h
  ·exact V k y B
 |some at_=>
  have hh:=te hb;obtain⟨h1,U,h3⟩:=hh;dsimp only;have o:b<i0 rows:=i5
  obtain⟨g,z⟩:∃g,g=jE rows b at_:=⟨_,rfl⟩
  have l1:i0 g=i0 rows:=by rw[z,lY]
  have T:aV n g:=by rw[z];exact GN H o U
  have q1:∀k,aC g k=if k=at_ then aC rows b else if k=b then aC rows at_ else aC rows k:=λk=>by rw[z,Ai o U]
  have Z:aC g b=aC rows at_:=by
   rw[q1];by_cases h:b=at_
   ·rw[f9 h,h]
   ·rw[g0 h,f9 rfl]
  have J:aN (aC g b) c≠0:=by rw[Z];exact h3
  obtain⟨s,A⟩:∃s,s=kj b c g:=⟨_,rfl⟩
  have l2:i0 s=i0 rows:=by rw[A,oQ,l1]
  have u:aV n s:=by rw[A];exact BB T i5
  have q2:∀k,aC s k=if b=k then scaleB (Gf.inv (aN (aC g b) c)) (aC g b)else aC g k:=λk=>by rw[A,El i5]
  have ap:∀j,aN (aC g b) j=0->aN (aC s b) j=0:=λj d=>by rw[q2,f9 i4,BE,d,Gf.mul_zero]
  have l:aN (aC s b) c=1:=by rw[q2,f9 i4,BE,Gf.mul_comm,Gf.Oy J]
  obtain⟨K,q⟩:∃K,K=fk b c s rows.length:=⟨_,rfl⟩
  have l3:i0 K=i0 rows:=by rw[q,oR,l2]
  have q3:∀k,k<i0 rows->∀j,aN (aC K k) j=if k=b then aN (aC s b) j else aN (aC g k) j^^^Gf.mul (aN (aC g k) c) (aN (aC s b) j):=λk F j=>by
   rw[q,sw i5];by_cases h:k=b
   ·rw[g0 i5,f9 h,h]
   ·have e:=q2 k;rw[g0 λhh=>h hh.symm]at e;rw[f9 ⟨F,h⟩,g0 h,cH (by rw[cx u,cx u]),e]
  have X:∀j,j<c->aN (aC s b) j=0:=λj d=>ap j (by rw[Z];exact f at_ h1 U j d);have keep:∀k,k<i0 rows->∀j,j<c->aN (aC K k) j=if k=b then 0 else aN (aC g k) j:=λk F j d=>by
   rw[q3 k F,X j d,Gf.mul_zero,zW]
  have I:∀k,k<b->aC g k=aC rows k:=λk F=>by rw[q1,g0 i5,g0 i5]
  have L:∀k,b<=k->k<i0 rows->∀j,j<c->aN (aC g k) j=0:=λk y B j d=>by
   rw[q1];split
   ·exact f b (qk _) o j d
   ·split
    ·exact f at_ h1 U j d
    ·exact f k y B j d
  have D:∀v,Span n K v↔Span n m v:=λv=>by
   rw[q,show rows.length=i0 s by omega,aap u i5,A,aao T i5 J,z,aan H o U,hS]
  have O:Co (Span n m) c:=⟨aC K b,(D _).1 (Span.row (by rw[q];exact BC u i5) (mem_row)),λj d=>by rw[keep b o j d,f9 rfl],by rw[q3 b o,f9 i4,l];decide⟩
  have W:fk b c (kj b c (jE rows b at_)) rows.length=K:=by rw[q,A,z]
  rw[W];refine⟨by rw[q];exact BC u i5,i5,i5,D,by rw[Mj,f9 O,M],⟨λi=>if i<b then p i else c,λi E=>?_,λi E k F=>?_,λi E j d=>?_,λi j ar d=>?_⟩,λk y B j d=>?_⟩
  ·dsimp only;split
   ·have:=P i n8;omega
   ·omega
  ·dsimp only;by_cases hit:i<b
   ·rw[f9 hit,keep k i5 _ (P i hit)];by_cases Q:k<b
    ·rw[g0 i5,I k Q];exact p2 i hit k i5
    ·rw[g0 (show¬k=i by omega)];split
     ·rfl
     ·exact L k i5 i5 _ (P i hit)
   ·have N:i=b:=i5
    subst N;rw[g0 hit,q3 k i5];by_cases G:k=i
    ·rw[f9 G,f9 G];exact l
    ·rw[g0 G,g0 G,l,Gf.mul_one];exact lZ _
  ·dsimp only at d;by_cases hit:i<b
   ·rw[f9 hit]at d;have:=P i hit;rw[keep i i5 j i5,g0 i5,I i hit];exact p3 i hit j d
   ·have N:i=b:=i5
    subst N;rw[g0 hit]at d;rw[keep i i5 j d,f9 rfl]
  ·dsimp only;rw[f9 (show i<b by omega)];split
   ·exact p4 i j ar n8
   ·exact P i i5
  ·rcases zo.1 d with h|rfl
   ·rw[keep k i5 j h,g0 i5];exact L k i5 i5 j h
   ·rw[q3 k i5,g0 i5,l,Gf.mul_one];exact lZ _
theorem Ji(a:aV n m):∀c,c<=n->Way n m c (bH m c).1 (bH m c).2
 |0,_=>aaq a
 |c+1,h=>by rw[bH];exact ads a (Ji a c i5) i5
theorem kF:∀c,bH [] c=(0,[])
 |0=>rfl
 |c+1=>by rw[bH,kF c];rfl
theorem mu(a:aV n m):cb m=leads (Span n m) n:=by
 rw[<-(Ji a n (qk _)).cnt,cb];cases m with
 |nil=>rw[kF,kF]
 |cons x t=>rw[eN,bx jj];rw[show((x::t)[0]).length=n from a _ jj]
end
section
variable {n:Nat} {m m':aM}
theorem Yi{S b:Row->Prop}(h:∀v,S v->b v)(n:Nat):leads S n<=leads b n:=by refine List.countP_mono_left λj _ a=>?_;simp only[decide_eq_true_eq]at a⊢;obtain⟨v,c,d⟩:=a;exact⟨v,h v c,d⟩
theorem lI(a:aV n m):cb m<=n:=by rw[mu a];have:=List.countP_le_length (p:=λj=>decide (Co (Span n m) j)) (l:=qw n);simpa[leads]using this
theorem GW(b:aV n m)(a:aV n m')(h:∀r∈m,r∈m'):cb m<=cb m':=by rw[mu b,mu a];exact Yi (λv=>Span.mono h) n
theorem count_one{P Q:Nat->Bool}(l:List Nat)(d:l.Nodup)(h:∀a∈l,P a=eR->Q a=eR)(e:∀a∈l,∀b∈l,Q a=eR->P a=eS->Q b=eR->P b=eS->a=b):l.countP Q<=l.countP P+1:=by
 induction l with
 |nil=>simp
 |cons x t ih=>
  rw[List.nodup_cons]at d;have i:=ih d.2 (λa c=>h a mn) λa c b f=>e a mn b nn;simp only[List.countP_cons];cases hQ:Q x with
  |false=>
   have:(if P x=eR then 1 else 0)>=0:=i5
   simp;omega
  |true=>
   cases hP:P x with
   |true=>simp;omega
   |false=>
    have:t.countP Q<=t.countP P:=by
     refine List.countP_mono_left λa c g=>?_;cases hpa:P a with
     |true=>rfl
     |false=>
      have:=e x jj a mn hQ hP g hpa;subst this;exact absurd c d.1
    simp;omega
theorem PO(f:aV n m){r:Row}(e:i0 r=n){v:Row}(l:Span n (m++[r]) v):∃(c:UInt8) (u:Row),Span n m u/\v=cR c r u:=by
 have o:aV n (m++[r]):=λx g=>by
  rcases qD.1 g with h|h
  ·exact f x h
  ·rw[qx.1 h];exact e
 induction l with
 |zero=>exact⟨0,aK n,.zero,(eT (n:=n) (by rw[bX (by simp[aK,e])];simp[aK]) k6 λj _=>by rw[cH (by simp[aK,e]),cy,Gf.zero_mul];rfl).symm⟩
 |add d x w g hw ih=>
  obtain⟨c,u,i,rfl⟩:=ih;have a:=i.len f;rcases qD.1 g with h|h
  ·have k:=f x h;refine⟨c,cR d x u,.add d x u h i,eT (n:=n) (by rw[bX k7,bX];exact a) (by rw[bX k7,bX];exact a) λj _=>?_⟩;rw[cH k7,cH i5,cH k7,cH i5]
   ac_rfl
  ·have b:=qx.1 h;subst b;refine⟨c^^^d,u,i,eT (n:=n) (by rw[bX k7,bX];exact a) (by rw[bX];exact a) λj _=>?_⟩;rw[cH k7,cH i5,cH i5,Gf.Xb]
   ac_rfl
theorem nh(b:aV n m){r:Row}(a:i0 r=n):aV n (m++[r]):=λx c=>by
 rcases qD.1 c with h|h
 ·exact b x h
 ·rw[qx.1 h];exact a
theorem aar(f:aV n m){r:Row}(t:i0 r=n):cb m<=cb (m++[r])/\cb (m++[r])<=cb m+1:=by
 have q:=nh f t;refine⟨GW f q λx B=>by simp[B],?_⟩;rw[mu f,mu q];refine count_one _ List.nodup_range (λa _ I=>?_) (λa _ b _ D o F k=>?_)
 ·simp only[decide_eq_true_eq]at I⊢;obtain⟨v,H,J⟩:=I;exact⟨v,Span.mono (λx B=>by simp[B]) H,J⟩
 ·simp only[decide_eq_true_eq,decide_eq_false_iff_not]at D o F k;have p:∀a b,Co (Span n (m++[r])) a->¬Co (Span n m) a->Co (Span n (m++[r])) b->¬Co (Span n m) b->¬a<b:=by
   rintro a b ⟨v,O,L,A⟩ o ⟨w,N,g,l⟩ k E;obtain⟨c,u,K,rfl⟩:=PO f t O;obtain⟨d,s,h,rfl⟩:=PO f t N;have l1:=K.len f;have l2:=h.len f;have M:d≠0:=by
    rintro rfl;apply k;refine⟨s,h,λi G=>?_,?_⟩
    ·have:=g i G;rw[cH i5,Gf.zero_mul,zW]at this;exact this
    ·rw[cH i5,Gf.zero_mul,zW]at l;exact l
   apply o;refine⟨cR (Gf.mul c (Gf.inv d)) s u,h.comb f K _,?_⟩;have e:∀j,aN (cR (Gf.mul c (Gf.inv d)) s u) j=aN (cR c r u) j^^^Gf.mul (Gf.mul c (Gf.inv d)) (aN (cR d r s) j):=λj=>by
    rw[cH i5,cH i5,cH i5,Gf.ku,<-Gf.mul_assoc (Gf.mul c (Gf.inv d)) d,Gf.mul_assoc c (Gf.inv d) d,Gf.mul_comm (Gf.inv d) d,Gf.Oy M,Gf.mul_one];have:∀x y z:UInt8,x^^^y=x^^^z^^^(y^^^z):=λx y z=>by
     have:x^^^z^^^(y^^^z)=x^^^y^^^(z^^^z):=by ac_rfl
     rw[this,lZ,zW]
    exact this _ _ _
   refine⟨λi G=>?_,?_⟩
   ·rw[e,L i G,g i i5,Gf.mul_zero];rfl
   ·rw[e,g a E,Gf.mul_zero,zW];exact A
  have H:=p a b D o F k;have J:=p b a F k D o;omega
theorem pU(m:aM)(h:aV n m):cb m<=i0 m:=by
 have a:∀k,k<=i0 m->cb (m.take k)<=k:=by
  intro k
  induction k with
  |zero=>intro _;simp[cb,eN,aC,bH]
  |succ k ih=>
   intro e;have b:aV n (m.take k):=λx c=>h x (zS c);have d:=ih i5;rw[zH i5];have f:=(aar b (h _ (qh (show k<i0 m by omega)))).2;omega
 have:=a m.length (qk _)
 rwa [qi (qk _)]at this
end
def oH(p:Int×Int×Int)(seed:Int)(ids:az):Nat:=cb (dP p seed ids)
def dK(p:Int×Int×Int)(seed:Int)(ids:az):Bool:=bB p&&((oH p seed ids:Int)==bE p)
def ff(p:Int×Int×Int):az:=upto (max 0 (min p.1 16)).toNat
theorem oU{p:Int×Int×Int}(h:bB p=eR):bE p=p.1+p.2.1:=by rw[bE,f9 h]
theorem jN(p:Int×Int×Int)(seed:Int)(ids:az):aV (bE p).toNat (dP p seed ids):=by
 intro r a;unfold dP at a;split at a
 ·rename_i b;have:=(bZ p).1 b;rcases qD.1 a with h|h
  ·obtain⟨x,_,rfl⟩:=qt.1 h;rw[Ag,oU b];omega
  ·obtain⟨x,_,rfl⟩:=qt.1 h;exact SK _ _ _
 ·cases a
theorem adt(p:Int×Int×Int)(seed:Int)(ids:az):i0 (dP p seed ids)<=4+i0 ids:=by
 unfold dP;split
 ·rename_i a;have:=(bZ p).1 a;have b:=List.length_filter_le bW ids;simp only[qy,bz,qA,zx];omega
 ·simp
theorem Mk(K H:Nat):aV (K+H) (bz K H):=λr a=>by
 obtain⟨x,_,rfl⟩:=qt.1 a;exact Ag _ _ _
theorem adu(p:Int×Int×Int)(seed:Int)(ids:az):(oH p seed ids:Int)<=bE p:=by
 have h:=lI (jN p seed ids);have:0<=bE p:=by
  unfold bE;split
  ·rename_i a;have:=(bZ p).1 a;omega
  ·omega
 rw[oH];omega
def fc(a b:aM):aM:=zh (·++·) a b
def kY(n:Nat)(m:aM):aM:=m.map (List.take n)
theorem KR{r:Row}{n j:Nat}(h:j<n):aN (r.take n) j=aN r j:=by simp only[aN,qe,y7];rw[f9 h]
theorem SQ(r:Row)(n j:Nat):aN (r.drop n) j=aN r (n+j):=by simp only[aN,qe,wH]
theorem xP(n:Nat)(m:aM)(i:Nat):aC (kY n m) i=(aC m i).take n:=by
 simp only[aC,kY,qe,qS];cases m[i]? with
 |none=>simp
 |some r=>rfl
theorem Oz(n:Nat)(m:aM):i0 (kY n m)=i0 m:=by simp[kY]
theorem Yj{n a bv:Nat}(m:aM)(h:bv<n):jm (kY n m) a bv=jm m a bv:=by unfold jm;rw[Oz];congr 1;funext i;rw[xP,KR h]
theorem OA(n:Nat)(m:aM)(i:Nat)(r:Row):kY n (m.set i r)=(kY n m).set i (r.take n):=by simp[kY,List.map_set]
theorem adv(n:Nat)(m:aM)(i j:Nat):kY n (jE m i j)=jE (kY n m) i j:=by rw[jE,OA,OA,jE,xP,xP]
theorem aas(n:Nat)(c:UInt8)(r:Row):(scaleB c r).take n=scaleB c (r.take n):=by simp[scaleB,List.map_take]
theorem agd(n:Nat)(c:UInt8)(a t:Row):(cR c a t).take n=cR c (a.take n) (t.take n):=by simp[cR,List.take_zipWith]
theorem adw{n bv:Nat}(h:bv<n)(t:Nat)(m:aM):kY n (kj t bv m)=kj t bv (kY n m):=by rw[kj,OA,aas,kj,xP,KR h]
theorem adx{n bv:Nat}(h:bv<n)(t k:Nat)(m:aM):kY n (fk t bv m k)=fk t bv (kY n m) k:=by
 apply zO;intro i;simp only[kY,fk,qS,vh];cases m[i]? with
 |none=>rfl
 |some r=>
  simp only[qT];congr 1;have:=xP n m t;rw[kY]at this;rw[this,KR h];split
  ·exact agd _ _ _ _
  ·rfl
theorem ady{n bv:Nat}(h:bv<n)(s:Nat×aM):((jF s bv).1,kY n (jF s bv).2)=jF (s.1,kY n s.2) bv:=by
 unfold jF;dsimp only;rw[Yj _ h];cases jm s.2 s.1 bv with
 |none=>rfl
 |some i=>dsimp only;rw[adx h,adw h,adv,Oz]
theorem Ml(n:Nat)(m:aM):∀c,c<=n->((bH m c).1,kY n (bH m c).2)=bH (kY n m) c
 |0,_=>rfl
 |c+1,h=>by
  have a:=Ml n m c i5;rw[bH,bH,ady (show c<n by omega),a]
theorem mN{a b:aM}(h:i0 a=i0 b):i0 (fc a b)=i0 a:=by simp[fc,h]
theorem Jj{a b:aM}(h:i0 a=i0 b){i:Nat}(c:i<i0 a):aC (fc a b) i=aC a i++aC b i:=by rw[bx (by rw[mN h];exact c),bx c,bx i5];simp[fc]
theorem ni{n w:Nat}{a b:aM}(h:i0 a=i0 b)(f:aV n a)(d:aV w b):aV (n+w) (fc a b):=λr e=>by
 obtain⟨i,c,rfl⟩:=fl e;rw[mN h]at c;rw[Jj h c,qy,cx f c,cx d]
theorem age{n:Nat}{a b:aM}(h:i0 a=i0 b)(e:aV n a):kY n (fc a b)=a:=by apply wv (by rw[Oz,mN h]);intro i d c;have:=xP n (fc a b) i;rw[bx d,Jj h c,List.take_left' (cx e c),bx c]at this;exact this
theorem adz{n:Nat}{a:aM}(b:aV n a):(bH a n).1=cb a:=by
 rw[cb];cases a with
 |nil=>rw[kF,kF]
 |cons x t=>rw[eN,bx jj];rw[show((x::t)[0]).length=n from b _ jj]
theorem KS{n:Nat}{a b:aM}(h:i0 a=i0 b)(c:aV n a):(bH (fc a b) n).1=cb a:=by have:=congrArg qM (Ml n (fc a b) n (qk _));rw[age h c]at this;rw[<-adz c];exact this
def sB(w:Nat)(r:Row)(X:aM):Nat->Row
 |0=>aK w
 |k+1=>cR (aN r k) (aC X k) (sB w r X k)
theorem iQ{n w:Nat}{X:aM}(b:aV w X)(c:i0 X=n)(r:Row):∀k,k<=n->i0 (sB w r X k)=w
 |0,_=>by simp[sB,aK]
 |k+1,h=>by
  have a:=iQ b c r k i5;rw[sB,bX (by rw[cx b,a])];exact a
theorem gY{n w:Nat}{X:aM}(a:aV w X)(b:i0 X=n)(r:Row)(j:Nat):∀k,k<=n->aN (sB w r X k) j=bU (λi=>aN r i) (λi=>aN (aC X i) j) k
 |0,_=>by rw[sB,cy];rfl
 |k+1,h=>by
  have c:=gY a b r j k i5;rw[sB,cH (by rw[cx a,iQ a b r k i5]),c];rfl
def fF(n w:Nat)(a b X:aM):Prop:=i0 X=n/\aV w X/\∀i,i<i0 a->sB w (aC a i) X n=aC b i
theorem adA{m a:aM}(d:i0 m=i0 a)(h:∀i,i<i0 m->aC m i=aC a i):m=a:=by
 apply wv d;intro i b c;have:=h i b
 rwa [bx b,bx c]at this
def Aj(n:Nat)(X:aM)(k:Nat)(v:Row):UInt8:=aN v (n+k)^^^bU (λi=>aN v i) (λi=>aN (aC X i) k) n
theorem fY{f f' g g':Nat->UInt8}:∀k,(∀i,i<k->f i=f' i)->(∀i,i<k->g i=g' i)->bU f g k=bU f' g' k
 |0,_,_=>rfl
 |k+1,h1,h2=>by rw[bU,bU,fY k (λi a=>h1 i i5) λi a=>h2 i i5,h1 k i5,h2 k i5]
theorem Xf(n:Nat)(X:aM)(k:Nat)(c:UInt8)(a t:Row)(h:i0 a=i0 t:=by omega):Aj n X k (cR c a t)=Aj n X k t^^^Gf.mul c (Aj n X k a):=by unfold Aj;rw[cH h];have:bU (λi=>aN (cR c a t) i) (λi=>aN (aC X i) k) n=bU (λi=>aN t i^^^Gf.mul c (aN a i)) (λi=>aN (aC X i) k) n:=fY n (λi _=>cH h i) λ_ _=>rfl;rw[this,Jh,Gf.ku];ac_rfl
theorem Xg{a b:Row}{n:Nat}(c:i0 a=n)(k:Nat):aN (a++b) (n+k)=aN b k:=by simp only[aN,qe];rw[qj i5,c,zq]
theorem SS{a b:Row}{n j:Nat}(d:i0 a=n)(c:j<n):aN (a++b) j=aN a j:=by simp only[aN,qe];rw[qo i5]
theorem pV{a b:UInt8}:a^^^b=0↔a=b:=by
 constructor
 ·intro h;have:=congrArg (·^^^b) h;simp only[wq]at this
  rwa [sA]at this
 ·rintro rfl;exact lZ _
theorem Mm{n w:Nat}{a b X:aM}(h:i0 a=i0 b)(e:aV n a)(p:aV w b)(g:i0 X=n)(l:aV w X):fF n w a b X↔∀k,k<w->∀v,Span (n+w) (fc a b) v->Aj n X k v=0:=by
 have f:=ni h e p;constructor
 ·intro u k o v x;refine Span.lin f (Aj n X k) ?_ (λc a t y z=>Xf n X k c a t) (λr s=>?_) x
  ·unfold Aj;rw[cy,fU _ _ n λi _=>cy _ _];rfl
  ·obtain⟨i,d,rfl⟩:=fl s;rw[mN h]at d;rw[Jj h d];unfold Aj;rw[Xg (cx e d),<-u.2.2 i d,gY l g _ k n (qk _),pV];exact fY n (λj m=>(SS (cx e d) m).symm) λ_ _=>rfl
 ·intro q;refine⟨g,l,λi d=>eT (n:=w) (iQ l g _ n (qk _)) (cx p) λk o=>?_⟩;have:=q k o _ (Span.row f (mem_row (show i<i0 (fc a b) by rw[mN h];exact d)));rw[Jj h d]at this;unfold Aj at this;rw[Xg (cx e d),pV]at this;rw[this,gY l g _ k n (qk _)];exact fY n (λj m=>(SS (cx e d) m).symm) λ_ _=>rfl
theorem ahu{n:Nat}{p:Nat->Nat}(c:∀i,i<n->p i<n)(b:∀i j,i<j->j<n->p i<p j):∀i,i<n->p i=i:=by
 have d:∀i,i<n->i<=p i:=by
  intro i
  induction i with
  |zero=>intro _;omega
  |succ i ih=>intro a;have:=ih i5;have:=b i (i+1) i5 a;omega
 have up:∀k i,i+k+1=n->p i<=i:=by
  intro k
  induction k with
  |zero=>intro i a;have:=c i i5;omega
  |succ k ih=>intro i a;have:=ih (i+1) i5;have:=b i (i+1) i5 i5;omega
 intro i a;have:=d i a;have:=up (n-1-i) i i5;omega
def gh(n:Nat)(a b:aM):aM:=(((bH (fc a b) n).2).take n).map (List.drop n)
def lB(n:Nat)(a b:aM):Prop:=∀r∈((bH (fc a b) n).2).drop n,r=aK r.length
section
variable {n w:Nat} {a b:aM}
theorem xQ(h:i0 a=i0 b)(e:aV n a)(g:aV w b)(j:cb a=n):i0 (gh n a b)=n/\aV w (gh n a b):=by have d:=ni h e g;have f:=gU d n;have h3:=pU a e;refine⟨by rw[gh,qA,zb,f.2,mN h];omega,λr c=>?_⟩;obtain⟨x,i,rfl⟩:=qt.1 c;rw[ze,f.1 x (zS i)];omega
theorem Xh(h:i0 a=i0 b)(e:aV n a)(d:cb a=n){i:Nat}(c:i<n):aC (gh n a b) i=(aC (bH (fc a b) n).2 i).drop n:=by
 simp only[aC,gh,qe,qS,y7];rw[f9 c]
 cases(bH (fc a b) n).2[i]? with
 |none=>simp
 |some r=>rfl
theorem SU(h:i0 a=i0 b)(f:aV n a)(o:aV w b)(l:cb a=n):
  (∀v,Span (n+w) (bH (fc a b) n).2 v↔Span (n+w) (fc a b) v)/\(bH (fc a b) n).2.length=i0 a/\(∀i,i<n->∀k,k<i0 a->aN (aC (bH (fc a b) n).2 k) i=if k=i then 1 else 0):=by
 have c:=ni h f o;have W:=Ji c n i5;have r:(bH (fc a b) n).1=n:=by rw[KS h f,l]
 obtain⟨p,g,e,q,d⟩:=W.piv;rw[r]at g e q d;have hid:=ahu g d;have m:(bH (fc a b) n).2.length=i0 a:=by rw[W.len,mN h]
 refine⟨W.span,m,λi j k s=>?_⟩;have:=e i j k i5
 rwa [hid i j]at this
theorem SV{X:aM}{r:Row}{i k:Nat}(c:i<n)(b:∀j,j<n->aN r j=if i=j then 1 else 0):Aj n X k r=aN r (n+k)^^^aN (aC X i) k:=by unfold Aj;rw[Jg _ _ i n c λj a=>b j a]
theorem Xi{X:aM}{r:Row}{k:Nat}(a:∀j,j<n->aN r j=0):Aj n X k r=aN r (n+k):=by unfold Aj;rw[fU _ _ n a,zW]
theorem mv(h:i0 a=i0 b)(l:aV n a)(p:aV w b)(s:cb a=n){X:aM}(g:fF n w a b X):X=gh n a b/\lB n a b:=by
 have x:=ni h l p;have u:=gU x n;obtain⟨m,D,t⟩:=SU h l p s;have B:=pU a l;have z:=(Mm h l p g.1 g.2.1).1 g;obtain⟨y,s2⟩:=xQ h l p s;constructor
 ·refine adA (by rw[g.1,y]) λi d=>eT (n:=w) (cx g.2.1 d) (cx s2 (by rw[y];rw[g.1]at d;exact d)) λk A=>?_;rw[g.1]at d;have h3:=z k A _ ((m _).1 (Span.row u.1 (mem_row (show i<(bH (fc a b) n).2.length by omega))));rw[SV d λj o=>t j o i i5]at h3;rw[Xh h l s d,SQ];exact(pV.1 h3).symm
 ·intro r q;obtain⟨i,d,rfl⟩:=qJ q;rw[ze]at d;rw[wh];have f:n+i<(bH (fc a b) n).2.length:=i5
  have e:=bx f;have c:=cx u.1 f;rw[<-e,c];refine eT (n:=n+w) c k6 λj o=>?_;rw[cy];by_cases v:j<n
  ·rw[t j v (n+i) i5,g0 i5]
  ·obtain⟨k,rfl⟩:∃k,j=n+k:=⟨j-n,i5⟩
   have h3:=z k i5 _ ((m _).1 (Span.row u.1 (mem_row f)))
   rwa [Xi λj o=>by rw[t j o (n+i) i5,g0 i5]]at h3
theorem pW(h:i0 a=i0 b)(e:aV n a)(g:aV w b)(o:cb a=n)(y:lB n a b):fF n w a b (gh n a b):=by
 have q:=ni h e g;have u:=gU q n;obtain⟨p,E,s⟩:=SU h e g o;have A:=pU a e;obtain⟨z,s2⟩:=xQ h e g o;refine(Mm h e g z s2).2 λk G v D=>?_;refine Span.lin u.1 (Aj n (gh n a b) k) ?_ (λc x t F u=>Xf n _ k c x t) (λr l=>?_) ((p v).2 D)
 ·unfold Aj;rw[cy,fU _ _ n λi _=>cy _ _];rfl
 ·obtain⟨i,B,rfl⟩:=fl l;by_cases f:i<n
  ·rw[SV f λj m=>s j m i i5,Xh h e o f,SQ];exact lZ _
  ·rw[Xi λj m=>by rw[s j m i i5,g0 i5]];have:aC (bH (fc a b) n).2 i∈(bH (fc a b) n).2.drop n:=by
    rw[bx B];obtain⟨d,rfl⟩:∃d,i=n+d:=⟨i-n,i5⟩
    rw[<-wh (h:=by rw[ze];omega)];exact qh _
   rw[y _ this,cy]
theorem Vp(h:i0 a=i0 b)(f:aV n a)(e:aV w b)(i:i0 a=n):lB n a b:=by have c:=ni h f e;have g:=gU c n;intro r d;rw[zf (by rw[g.2,mN h];omega)]at d;cases d
end
def SX(l:az):Prop:=∀a b,a<i0 l->b<i0 l->lG l a=lG l b->a=b
theorem Jk{l:az}{i:Nat}(h:i<i0 l):lG l i=l[i]:=by rw[lG,qe,qd h];rfl
theorem adB{l:az}{i j k:Nat}(d:i<i0 l)(c:j<i0 l):lG (td l i j) k=if k=j then lG l i else if k=i then lG l j else lG l k:=by
 simp only[lG,td,qe,zd,zA];by_cases a:j=k
 ·subst a;simp[c]
 ·by_cases b:i=k
  ·subst b;simp[a,d];omega
  ·simp[a,b];omega
theorem swap_inj{l:az}{i j:Nat}(p:i<i0 l)(g:j<i0 l)(h:SX l):SX (td l i j):=by
 intro a b m n o;rw[SI]at m n;have d:∀k,k<i0 l->∃σ,σ<i0 l/\lG (td l i j) k=lG l σ/\(σ=if k=j then i else if k=i then j else k):=λk u=>by
  rw[adB p g];by_cases e:k=j
  ·rw[f9 e,f9 e];exact⟨i,p,i4,i4⟩
  ·rw[g0 e,g0 e];by_cases f:k=i
   ·rw[f9 f,f9 f];exact⟨j,g,i4,i4⟩
   ·rw[g0 f,g0 f];exact⟨k,u,i4,i4⟩
 obtain⟨s,q,r,w⟩:=d a m;obtain⟨t,v,e2,c⟩:=d b n;rw[r,e2]at o;have:=h s t q v o;subst this;rw[w]at c;split at c<;>split at c<;>(try split at c)<;>(try split at c)<;>omega
theorem aat{l:az}(h:SX l):l.Nodup:=by rw[List.nodup_iff_pairwise_ne,zm];intro i j b a d c;have:=h i j b a (by rw[Jk b,Jk a];exact c);omega
theorem adC(n:Nat):SX (upto n):=by intro a b d c e;rw[gW]at d c;rw[Jk (by rw[gW];exact d),Jk (by rw[gW];exact c)]at e;simp[upto]at e;omega
theorem SY(n:Nat)(s:Int):∀k,k<=n->n<=64->SX (gG n s (upto n) k).2
 |0,_,_=>adC n
 |k+1,hk,hn=>by
  have a:=Ae n s (upto n) k;rw[gW]at a;have:=Ad (gG n s (upto n) k).1 ((n-k:Nat):Int);exact swap_inj i5 i5 (SY n s k i5 hn)
theorem Yk(s:Int)(n k:Nat)(b:k<=n)(a:n<=64):(Ja s n k).Nodup:=by have h:=(aat (SY n s k b a)).sublist (List.take_sublist k _);exact(yf _ _).nodup_iff.2 h
theorem Em{n:Nat}(a:1<=n)(b:n<=20)(seed id:Int):(dw n seed id).Nodup:=Yk _ _ _ (Af _ n a b) i5
theorem Vq(n:Nat)(seed id:Int):(dw n seed id).Pairwise (·<=·):=by have:=yq (le:=λx y:Int=>decide (x<=y)) (by intro a b c;simp;omega) (by intro a b;simp;omega) ((gG n (Ft (Ft (GM seed id))) (upto n) (Jd (Ft (GM seed id)) n)).2.take (Jd (Ft (GM seed id)) n));exact this.imp jj
theorem OB{r:Row}{i j:Nat}{x:UInt8}(a:i<i0 r):aN (r.set i x) j=if j=i then x else aN r j:=by
 simp only[aN,qe,zd];by_cases h:i=j
 ·subst h;simp[a]
 ·simp[h];intro e;exact absurd e.symm h
theorem PP(n:Nat)(l:az)(c:Int):gp n (l++[c])=(gp n l).set c.toNat 1:=by rw[gp,wC];rfl
theorem En{n:Nat}:∀(l:az) (_:∀x∈l,0<=x/\x<(n:Int)) (j:Nat),aN (gp n l) j=if(j:Int)∈l then 1 else 0:=by
 intro l;have d:∀k,k<=i0 l->(∀x∈l,0<=x/\x<(n:Int))->∀j:Nat,aN (gp n (l.take k)) j=if(j:Int)∈l.take k then 1 else 0:=by
  intro k
  induction k with
  |zero=>intro _ _ j;simp[gp];exact cy n j
  |succ k ih=>
   intro f b j;have g:=b _ (qh (show k<i0 l by omega));rw[zH i5,PP,OB (by rw[sv];omega),ih i5 b];have a:(j:Int)∈l.take k++[l[k]]↔(j:Int)∈l.take k∨(j:Int)=l[k]:=by rw[qD,qx]
   by_cases h:j=l[k].toNat
   ·rw[f9 h,f9 (a.2 (.inr i5))]
   ·rw[g0 h];by_cases c:(j:Int)∈l.take k
    ·rw[f9 c,f9 (a.2 (.inl c))]
    ·rw[g0 c,g0 λe=>(a.1 e).elim c λh3=>h i5]
 intro b j;have:=d l.length (qk _) b j
 rwa [qi (qk _)]at this
theorem KT{f f' g:Nat->UInt8}{c:Nat}(d:f c=0)(a:∀i,f' i=if i=c then 1 else f i):∀k,bU f' g k=bU f g k^^^if c<k then g c else 0
 |0=>by simp[bU]
 |k+1=>by
  rw[bU,bU,KT d a k,a k];by_cases b:k=c
  ·subst b;rw[f9 i4,g0 i5,f9 i5,Gf.one_mul,d,Gf.zero_mul]
  ·rw[g0 b];by_cases h:c<k
   ·rw[f9 h,f9 i5];ac_rfl
   ·rw[g0 h,g0 i5];simp
def fV(w:Nat)(X:aM)(l:az):Row:=l.foldl (λs c=>cR 1 (aC X c.toNat) s) (aK w)
theorem Eo(w:Nat)(X:aM)(l:az)(c:Int):fV w X (l++[c])=cR 1 (aC X c.toNat) (fV w X l):=by rw[fV,wC];rfl
theorem pX{n w:Nat}{X:aM}(b:aV w X)(d:i0 X=n){l:az}(a:∀x∈l,0<=x/\x<(n:Int)):∀k,k<=i0 l->i0 (fV w X (l.take k))=w:=by
 intro k
 induction k with
 |zero=>intro _;simp[fV,aK]
 |succ k ih=>
  intro c;have e:=a _ (qh (show k<i0 l by omega));rw[zH i5,Eo,bX (by rw[cx b,ih i5])];exact ih i5
theorem Xj{n w:Nat}{X:aM}(c:aV w X)(b:i0 X=n){l:az}(a:∀x∈l,0<=x/\x<(n:Int)):i0 (fV w X l)=w:=by
 have:=pX c b a l.length (qk _)
 rwa [qi (qk _)]at this
theorem agf{n w:Nat}{X:aM}(a:aV w X)(b:i0 X=n){l:az}(d:∀x∈l,0<=x/\x<(n:Int))(o:l.Nodup):fV w X l=sB w (gp n l) X n:=by
 have h:∀k,k<=i0 l->fV w X (l.take k)=sB w (gp n (l.take k)) X n:=by
  intro k
  induction k with
  |zero=>
   intro _;refine eT (n:=w) (by simp[fV,aK]) (iQ a b _ n (qk _)) λj _=>?_;rw[gY a b _ j n (qk _),fU _ _ n λi _=>by simp only[vB,gp,wT];exact cy n i];simp only[vB,fV,wT];exact cy w j
  |succ k ih=>
   intro r;have p:=d _ (qh (show k<i0 l by omega));have q:=pX a b d k i5;rw[zH i5,Eo,PP,ih i5];refine eT (n:=w) ?_ (iQ a b _ n (qk _)) λj _=>?_
   ·rw[bX (by rw[cx a,iQ a b _ n (qk _)])];exact iQ a b _ n (qk _)
   ·rw[cH (by rw[cx a,iQ a b _ n (qk _)]),gY a b _ j n (qk _),gY a b _ j n (qk _)];have g:l[k]∉l.take k:=λm=>by
     have e:l=l.take k++l[k]::l.drop (k+1):=by rw[<-qQ i5,qK]
     rw[e,List.nodup_append]at o;exact o.2.2 _ m _ qH i4
    have h0:aN (gp n (l.take k)) l[k].toNat=0:=by
     rw[En _ λx p=>d x (zS p),g0];intro m;apply g;have:((l[k].toNat:Nat):Int)=l[k]:=i5
     rwa [this]at m
    rw[KT (f:=λi=>aN (gp n (l.take k)) i) (c:=l[k].toNat) h0 (λi=>OB (by rw[sv];omega)) n,f9 i5,Gf.one_mul]
 have:=h l.length (qk _)
 rwa [qi (qk _)]at this
open Go Go.Vc
def gy(K H w:Nat)(d:Row):aM:=qg H (aK w)++(qw K).map (GI d w)
def dt(p:Int×Int×Int)(seed:Int)(d:Row):aM:=gh (bE p).toNat (dP p seed (ff p)) (gy p.1.toNat p.2.1.toNat p.2.2.toNat d)
structure co (p:Int×Int×Int) (seed:Int) (d:Row) (K H w n:Nat):Prop where
 may:bB p=eR
 full:dK p seed (ff p)=eR
 k:p.1=K
 h:p.2.1=H
 s:p.2.2=w
 n:n=K+H
 k1:1<=K
 k2:K<=16
 h1:1<=H
 h2:H<=4
 w1:1<=w
 w2:w<=24
 len:i0 d=K*w
theorem Yl{p:Int×Int×Int}{seed:Int}{d:Row}(a:bB p=eR)(c:dK p seed (ff p)=eR)(b:(i0 d:Int)=p.1*p.2.2):∃K H w n,co p seed d K H w n:=by
 have:=(bZ p).1 a;refine⟨p.1.toNat,p.2.1.toNat,p.2.2.toNat,p.1.toNat+p.2.1.toNat,a,c,i5,i5,i5,i4,i5,i5,i5,i5,i5,i5,?_⟩;have e:p.1=(p.1.toNat:Int):=i5
 have e2:p.2.2=(p.2.2.toNat:Int):=i5
 rw[e,e2,<-Int.natCast_mul]at b;exact Int.ofNat.inj b
section
variable {p:Int×Int×Int} {seed:Int} {d:Row} {K H w n:Nat}
theorem co.cS(B:co p seed d K H w n):bE p=n:=by rw[oU B.may,B.k,B.h,B.n];rfl
theorem co.pY(B:co p seed d K H w n):(bE p).toNat=n:=by rw[B.cS];rfl
theorem Ym(a:p.1=(K:Int))(h:K<=16):ff p=upto K:=by rw[ff];congr 1;omega
theorem Vr(h:K<=16):(upto K).filter bW=upto K:=by rw[List.filter_eq_self];intro x b;simp[upto]at b;obtain⟨a,c,rfl⟩:=b;simp[bW];omega
theorem co.SB(B:co p seed d K H w n):dP p seed (ff p)=bz K H++(qw K).map λi:Nat=>oO n seed (i:Int):=by rw[dP,f9 B.may,Ym B.k B.k2,Vr B.k2,B.k,B.h,B.pY,qm,qm,upto,List.map_map];rfl
theorem co.GX(B:co p seed d K H w n):i0 (dP p seed (ff p))=n:=by rw[B.SB,qy,qA,zx,bz,qA,zx,B.n];omega
theorem co.Jl(B:co p seed d K H w n):aV n (dP p seed (ff p)):=by
 have:=jN p seed (ff p)
 rwa [B.pY]at this
theorem co.OC(B:co p seed d K H w n):cb (dP p seed (ff p))=n:=by have h:=B.full;rw[dK,B.may,B.cS,oH]at h;simp at h;exact Int.ofNat.inj h
theorem GY(K H w:Nat)(d:Row):i0 (gy K H w d)=K+H:=by simp[gy];omega
theorem xu(c:i0 d=K*w):aV w (gy K H w d):=λr b=>by
 rcases qD.1 b with h|h
 ·rw[(List.mem_replicate.1 h).2];simp[aK]
 ·obtain⟨i,a,rfl⟩:=qt.1 h;rw[qE]at a;exact afX (by rw[c];exact zt w a)
theorem aau{i:Nat}(a:i<H):aC (gy K H w d) i=aK w:=by rw[aC,gy,qe,qo j9];simp[a]
theorem Yn{i:Nat}(a:i<K):aC (gy K H w d) (H+i)=GI d w i:=by rw[aC,gy,qe,qj jj];simp[a]
theorem co.Fv(B:co p seed d K H w n):dt p seed d=gh n (dP p seed (ff p)) (gy K H w d):=by rw[dt,B.pY,B.k,B.h,B.s];rfl
theorem co.lens(B:co p seed d K H w n):i0 (dP p seed (ff p))=i0 (gy K H w d):=by rw[B.GX,GY,B.n]
theorem co.om(B:co p seed d K H w n):i0 (dt p seed d)=n/\aV w (dt p seed d):=by rw[B.Fv];exact xQ B.lens B.Jl (xu B.len) B.OC
theorem co.fF(B:co p seed d K H w n):fF n w (dP p seed (ff p)) (gy K H w d) (dt p seed d):=by rw[B.Fv];exact pW B.lens B.Jl (xu B.len) B.OC (Vp B.lens B.Jl (xu B.len) B.GX)
theorem co.ahv(B:co p seed d K H w n){i:Nat}(a:i<H):aC (dP p seed (ff p)) i=mq K H i:=by rw[B.SB,aC,qe,qo (by simpa[bz]using a)];simp[bz,a]
theorem co.agh(B:co p seed d K H w n){i:Nat}(a:i<K):aC (dP p seed (ff p)) (H+i)=oO n seed (i:Int):=by rw[B.SB,aC,qe,qj (by simp[bz])];simp[bz,a]
theorem co.low(B:co p seed d K H w n){i:Nat}(a:i<H):sB w (mq K H i) (dt p seed d) n=aK w:=by
 have:=B.fF.2.2 i (by rw[B.GX,B.n];omega)
 rwa [B.ahv a,aau a]at this
theorem co.high(B:co p seed d K H w n){i:Nat}(a:i<K):sB w (oO n seed (i:Int)) (dt p seed d) n=GI d w i:=by
 have:=B.fF.2.2 (H+i) (by rw[B.GX,B.n];omega)
 rwa [B.agh a,Yn a]at this
theorem co.n1(B:co p seed d K H w n):1<=n:=by have:=B.n;have:=B.k1;omega
theorem co.n2(B:co p seed d K H w n):n<=20:=by have:=B.n;have:=B.k2;have:=B.h2;omega
theorem co.sym(B:co p seed d K H w n)(id:Int):fV w (dt p seed d) (dw n seed id)=sB w (oO n seed id) (dt p seed d) n:=
 agf B.om.2 B.om.1 (λ_ a=>nf B.n1 B.n2 a) (Em B.n1 B.n2 seed id)
theorem co.adD(B:co p seed d K H w n){i:Nat}(a:i<K):fV w (dt p seed d) (dw n seed (i:Int))=GI d w i:=by rw[B.sym,B.high a]
theorem co.aav(B:co p seed d K H w n)(id:Int):i0 (fV w (dt p seed d) (dw n seed id))=w:=
 Xj B.om.2 B.om.1 λ_ a=>nf B.n1 B.n2 a
end
end Wl
namespace Go.Vc
open Go
theorem Vs{α:Type}{c k:Nat}{f:α->bc}:∀{rs:List Sl} {ll:List (List α)} (b:List Sl) (a:List (List α)),i0 rs=i0 ll->bG c k f (rs++b) (ll++a)=bG c k f rs ll++bG c k f b a:=by intro rs ll b a h;unfold bG;exact yz h
theorem aa.adE{B:aB}{a h:f8}{X:HP}:∀{L M:List HP},aa B a h (L++X::M)->aa B a h (L++M):=λ{L M} H=>by
 have:=H.del L.length
 rwa [List.eraseIdx_append_of_length_le (qk _),zc,List.eraseIdx_cons_zero]at this
section
variable {α:Type} {C:Ctx} {B:aB} {h0 h h':f8} {As:List HP} {e e2 k t t2 by_:Nat} {s s2:Sl} {f:α->bc} {ll l2:List (List α)}
theorem aa.agi(E:C.Ok)(H:aa B h0 h (dQ e s e2 k f ll::dQ e s2 e2 k f l2::As))(F:cj C.toCU t e 1 [.slice eH 0 0] 24)(A:∃i e2,C.T.get t2=dB i/\i.dc=.slice e2)(D:i0 ll+i0 l2<=2^32){ty:Nat}{K:Sl->f8->Prop}
  (x:∀d h',aa B h0 h' (dQ e d e2 k f (ll++l2)::As)->K d h'):
  aA C.P (qu #[t,t2] ty #[.slice s.ptr s.len s.cap,.slice s2.ptr s2.len s2.cap]) (.one (.sc .slc)) h K:=by
 obtain⟨rs,o,r⟩:=H.IZ;obtain⟨c,g⟩:∃c,c=bG e2 k f rs ll:=⟨_,rfl⟩
 rw[<-g]at r;have z:aa B h0 h (dQ e s2 e2 k f l2::(As++(al e s 1 bs rs::c))):=r.front;obtain⟨a,m,q⟩:=z.IZ;obtain⟨L2,j⟩:∃L2,L2=bG e2 k f a l2:=⟨_,rfl⟩
 rw[<-j]at q;have n:=q.front;rw[qq]at n;have y:=n.front;have p:aa B h0 h (al e s 1 bs rs::(c++(al e s2 1 bs a::(L2++As)))):=by
  have w:(al e s 1 bs rs::c++(al e s2 1 bs a::L2))++As=al e s 1 bs rs::(c++(al e s2 1 bs a::(L2++As))):=jj
  rw[<-w];exact y
 have G:Seq h (λb=>b<h.size) s2 1 bs a:=p.seq (i0 c+1) (by rw[qB,qj (qk _),zc];rfl) λ_=>rfl;refine p.append E 0 i4 F A i4 i6 (λ_=>rfl) G kb i5 λd h' l=>x d h' ?_;have l:aa B h0 h' ((al e d 1 bs (rs++a)::c)++(al e s2 1 bs a::(L2++As))):=l;have u:=aa.adE l;refine aa.Ma (rs:=rs++a) (by simp[o,m]) ?_;rw[Vs a l2 o,<-g,<-j];have v:(al e d 1 bs (rs++a)::(c++L2))++As=(al e d 1 bs (rs++a)::c)++(L2++As):=jj
 rw[v];exact u
end
end Go.Vc
