/- Lemmas for the proof of the law; no condition. -/
import Derived.Test.YtahcfjokgnjinaaGreatDoorVcA
import Derived.Sort.Grow
import Derived.Lib.SlicesCompact
import Derived.Lib.RowBridge
set_option linter.unusedVariables false
set_option linter.unusedSimpArgs false
open Nat renaming lt_trichotomy -> yi, min_eq_left -> w8
open Array renaming ext' -> yG, getElem?_eq_some_iff -> yL, getElem?_modify -> yp, range -> xj, toList_map -> vV
open List renaming filter_cons_of_pos -> vb, getElem?_cons_zero -> yE, getElem?_mapIdx -> vo, getElem?_take -> vg, pairwise_mergeSort -> vd, range -> qz, replicate -> qh, set_comm -> vA, set_eq_take_append_cons_drop -> ye, take_zero -> vp, zipWith -> zm
open Go.Value renaming int -> xt
open Go.IntKind renaming bits -> qk, i64 -> xz, signed -> va, u32 -> xB, u64 -> xC, u8 -> xA, wrap -> qc
open Go.Builtin renaming append_ -> qt, clear_ -> yM, copy_ -> yy, firstCells -> wN, nextslicecap -> vn, zeroCells -> yD
open Go.Instr renaming alloc -> qN, box -> qO, buildSlice -> qq, fill -> wF, makeSlice -> qG, storeAt -> qf
open Int renaming fdiv -> qZ, fdiv_eq_ediv_of_nonneg -> yP, tmod -> wo
open Option renaming some -> zP
open UInt8 renaming lt_iff_toNat_lt -> zY, ofNat -> yJ
open Prod renaming fst -> qK
open BitVec renaming ofInt -> qE, ofNat_toNat -> vH, setWidth_eq -> vI
set_option maxRecDepth 100000
open Option renaming some -> dB, none -> eH
open Bool renaming true -> eR, false -> eS
open Go renaming Value -> eX, Addr -> eY
open Go.Vc renaming cellOf -> f7, Heap -> f8
open List renaming length -> ii
namespace Go.Vc
open Go
variable {A B:Prop}
theorem ac{p:Prop}[Decidable p](a:p->A)(b:¬p->B):Br (decide p) A B:=by
 by_cases h:p
 ·rw[g9 h];exact a h
 ·rw[hU h];exact b h
theorem cy{a b:Int}(c:a=b->A)(d:a≠b->B):Br (a==b) A B:=by
 by_cases h:a=b
 ·rw[beq_iff_eq.2 h];exact c h
 ·rw[beq_eq_false_iff_ne.2 h];exact d h
theorem ci{a b:Int}(c:a≠b->A)(d:a=b->B):Br (a !=b) A B:=by
 by_cases h:a=b
 ·rw[show(a !=b)=eS by simp[h]];exact d h
 ·rw[show(a !=b)=eR by simp[h]];exact c h
theorem bA{b:Bool}(c:b=eR->A)(a:b=eS->B):Br b A B:=by
 cases b
 ·exact a i0
 ·exact c i0
theorem bi{b:Bool}(c:b=eS->A)(a:b=eR->B):Br (!b) A B:=by
 cases b
 ·exact c i0
 ·exact a i0
theorem DM{b:Bool}(h:b=eR)(a:A):Br b A B:=by subst h;exact a
theorem tK{b:Bool}(h:b=eS)(a:B):Br b A B:=by subst h;exact a
theorem bc{σ:Type}{rest:σ->f8->Prop}{B:(σ->f8->Prop)->Prop}(h:B rest):be rest B:=⟨rest,λ_ _ x=>x,h⟩
theorem bT{σ:Type}{rest:σ->f8->Prop}{B:(σ->f8->Prop)->Prop}(R:σ->f8->Prop)(a:B R)(b:∀s h,R s h->rest s h):be rest B:=⟨R,b,a⟩
theorem av{σ:Type}{B:σ->(σ->f8->Prop)->f8->Prop}{s:σ}{h:f8}{τ:Type}(V:τ->σ)(I:τ->f8->Prop)(μ:τ->Nat)(t0:τ)(c:s=V t0)(d:I t0 h)
  (e:∀t h,I t h->B (V t) (λb h'=>∃a,b=V a/\I a h'/\μ a<μ t) h):aI B s h:=⟨τ,V,I,μ,t0,c,d,e⟩
abbrev aA:=Nat->Prop
def aZ(p:aA)(h h':f8):Prop:=h.size<=h'.size/\∀b,b<h.size->p b->h'[b]?=h[b]?
def Sl.on(s:Sl)(b:Nat):Prop:=∃o,s.ptr=dB ⟨b,o,eH⟩
variable {p q:aA} {h h' h'':f8}
theorem aZ.refl(p:aA)(h:f8):aZ p h h:=⟨qm _,λ_ _ _=>rfl⟩
theorem aZ.trans(a:aZ p h h')(b:aZ p h' h''):aZ p h h'':=⟨zd a.1 b.1,λk d c=>(b.2 k (qY d a.1) c).trans (a.2 k d c)⟩
theorem aZ.then(a:aZ p h h')(b:aZ q h' h'')(e:∀k,k<h.size->p k->q k):aZ p h h'':=⟨zd a.1 b.1,λk c d=>(b.2 k (qY c a.1) (e k c d)).trans (a.2 k c d)⟩
theorem aZ.mono(a:aZ p h h')(e:∀b,b<h.size->q b->p b):aZ q h h':=⟨a.1,λk c d=>a.2 k c (e k c d)⟩
theorem aZ.push(p:aA)(h:f8)(o:Obj):aZ p h (h.push o):=⟨i9,λb a _=>by rw[Array.getElem?_push,g0 i4]⟩
theorem sC{a:eY}{v:eX}(b:f7 h a=dB v):a.block<h.size:=by
 unfold f7 at b;cases hb:h[a.block]? with
 |none=>rw[hb]at b;cases b
 |some o=>exact(yL.1 hb).1
theorem lt_of_block{b:Nat}{o:Obj}(a:h[b]?=dB o):b<h.size:=(yL.1 a).1
theorem aZ.cell(a:aZ p h h'){x:eY}{v:eX}(c:p x.block)(b:f7 h x=dB v):f7 h' x=dB v:=by have:=a.2 _ (sC b) c;unfold f7 at*;rw[this];exact b
theorem aZ.block(a:aZ p h h'){b:Nat}{o:Obj}(d:p b)(c:h[b]?=dB o):h'[b]?=dB o:=by rw[a.2 b (lt_of_block c) d];exact c
theorem aZ.cells(a:aZ p h h'){x:eY}(b:p x.block):∀{vs:ba} {i:Nat},aj h x i vs->aj h' x i vs
 |[],_,_=>trivial
 |v::r,i,hc=>⟨a.cell (by unfold Addr.add;split<;>exact b) hc.1,aZ.cells a b hc.2⟩
theorem add_eq(b o n:Nat):(⟨b,o,eH⟩:eY).add n=⟨b,o+n,eH⟩:=by
 unfold Addr.add;split
 ·rename_i h;subst h;rfl
 ·rfl
theorem add_zero(a:eY):a.add 0=a:=rfl
theorem BH{h:f8}{b o:Nat}{c:Array eX}{e:TypeId}{f:Nat×Nat}(a:h[b]?=dB (.cells c e f)):f7 h ⟨b,o,eH⟩=c[o]?:=by unfold f7;rw[a];rfl
theorem aac{h:f8}{b o:Nat}{c:Array eX}{e:TypeId}(a:h[b]?=dB (.cells c e (0,0))):Ur h ⟨b,o,eH⟩=eS:=by unfold Ur;rw[a];simp
structure Seq {α:Type} (h:f8) (p:aA) (s:Sl) (k:Nat) (f:α->ba) (l:List α):Prop where
 len:s.len=ii l
 elem:∀i x,l[i]?=dB x->∃b o,s.ptr=dB ⟨b,o,eH⟩/\p b/\aj h ⟨b,o+i*k,eH⟩ 0 (f x)
variable {α:Type} {s:Sl} {k:Nat} {f:α->ba} {l:List α}
theorem Seq.ag(a:Seq h p s k f l)(e:aZ p h h'):Seq h' p s k f l:=⟨a.len,λi x g=>by
 obtain⟨b,o,d,c,h3⟩:=a.elem i x g;exact⟨b,o,d,c,e.cells c h3⟩⟩
theorem Seq.mono(a:Seq h p s k f l)(d:∀b,p b->q b):Seq h q s k f l:=⟨a.len,λi x e=>by
 obtain⟨b,o,c,g,h3⟩:=a.elem i x e;exact⟨b,o,c,d b g,h3⟩⟩
theorem Seq.nil(h:f8)(p:aA)(c:Nat)(a:bm)(k:Nat)(f:α->ba):Seq h p ⟨a,0,c⟩ k f []:=⟨i0,λi x b=>by simp at b⟩
theorem Seq.bD{X:Type}{g:X->eX}(c:Seq h p s 1 f l){i:Int}(n:Nat)(e:i=n)(j:n<ii l)(x:X)(m:f l[n]=[g x]){K:X->Prop}(d:K x):
  ∃a:eY,(s.ptr=dB a/\0<=i/\i<((s.len:Nat):Int))/\∃x:X,f7 h (a.add (i.toNat*1))=dB (g x)/\K x:=by
 subst e;obtain⟨b,o,k,_,h3⟩:=c.elem n l[n] (qd j);refine⟨_,⟨k,i4,by rw[c.len];omega⟩,x,?_,d⟩;rw[m]at h3;have:=h3.1;rw[add_eq,wJ]at this;rw[add_eq];simpa using this
theorem Seq.dZ{X:Type}{g:X->ba}(c:Seq h p s k f l){i:Int}(n:Nat)(e:i=n)(j:n<ii l)(x:X)(q:f l[n]=g x){K:X->Prop}(d:K x):
  ∃a:eY,(s.ptr=dB a/\0<=i/\i<((s.len:Nat):Int))/\∃x:X,aj h (a.add (i.toNat*k)) 0 (g x)/\K x:=by
 subst e;obtain⟨b,o,m,_,h3⟩:=c.elem n l[n] (qd j);refine⟨_,⟨m,i4,by rw[c.len];omega⟩,x,?_,d⟩;rw[add_eq];rw[q]at h3;simpa using h3
def ak(n:Int):ba:=[xt xz n]
def aD(n:UInt8):ba:=[xt xA n.toNat]
def fh(b:Bool):ba:=[.bool b]
def bp(s:Sl):ba:=[.slice s.ptr s.len s.cap]
structure iu {α:Type} (h:f8) (p:aA) (s:Sl) (k:Nat) (f:α->ba) (ll:List (List α)) (rs:List Sl):Prop where
 top:Seq h p s 1 bp rs
 len:ii rs=ii ll
 row:∀(i:Nat) (r:Sl) (l:List α),rs[i]?=dB r->ll[i]?=dB l->Seq h p r k f l
variable {ll:List (List α)} {rs:List Sl}
theorem iu.ag(a:iu h p s k f ll rs)(b:aZ p h h'):iu h' p s k f ll rs:=⟨a.top.ag b,a.len,λi r l c d=>(a.row i r l c d).ag b⟩
theorem iu.mono(a:iu h p s k f ll rs)(c:∀b,p b->q b):iu h q s k f ll rs:=⟨a.top.mono c,a.len,λi r l d e=>(a.row i r l d e).mono c⟩
theorem iu.Oy(a:iu h p s k f ll rs):s.len=ii ll:=by rw[a.top.len,a.len]
theorem iu.get(c:iu h p s k f ll rs){i:Int}(n:Nat)(g:i=n)(d:n<ii ll){K:Sl->Prop}(j:∀r,Seq h p r k f ll[n]->rs[n]?=dB r->K r):
  ∃a:eY,(s.ptr=dB a/\0<=i/\i<((s.len:Nat):Int))/\∃x:Sl,f7 h (a.add (i.toNat*1))=dB (.slice x.ptr x.len x.cap)/\K x:=by
 have b:n<ii rs:=by rw[c.len];exact d
 have e:rs[n]?=dB rs[n]:=qd b;exact c.top.bD n g b rs[n] i0 (j _ (c.row n _ _ e (qd d)) e)
structure Own {α:Type} (h:f8) (e:TypeId) (s:Sl) (k:Nat) (f:α->ba) (l:List α):Prop where
 len:s.len=ii l
 head:(s.ptr=eH/\s.cap=0/\l=[])∨∃b rest,s.ptr=dB ⟨b,0,eH⟩/\h[b]?=dB (.cells (l.flatMap f++rest).toArray e (0,0))/\rest.length=(s.cap-s.len)*k/\s.len<=s.cap
theorem dK{α:Type}{k:Nat}{f:α->ba}(a:∀x,ii (f x)=k):∀(l:List α),ii (l.flatMap f)=ii l*k
 |[]=>i9
 |x::r=>by rw[zf,qw,a,dK a r,zh,zH];omega
theorem Hl{α:Type}{k:Nat}{f:α->ba}(a:∀x,ii (f x)=k):∀(l:List α) (i:Nat) (x:α),l[i]?=dB x->∃pre post,l.flatMap f=pre++f x++post/\pre.length=i*k
 |y::r,0,x,h=>by simp at h;subst h;exact⟨[],r.flatMap f,i9,i9⟩
 |y::r,i+1,x,h=>by
  obtain⟨pre,post,b,c⟩:=Hl a r i x j5;exact⟨f y++pre,post,l4,by rw[qw,a,c,zH];omega⟩
theorem Ai{h:f8}{b o:Nat}{e:TypeId}{fr:Nat×Nat}:∀{vs pre post:ba} {i:Nat},h[b]?=dB (.cells (pre++vs++post).toArray e fr)->ii pre=o+i->aj h ⟨b,o,eH⟩ i vs
 |[],_,_,_,_,_=>trivial
 |v::r,pre,post,i,hb,hl=>by
  refine⟨?_,Ai (pre:=pre++[v]) (post:=post) (by simpa using hb) i7⟩;rw[add_eq,BH hb,<-hl];simp
def jI(h:f8)(b:Nat)(o:Obj):f8:=h.setIfInBounds b o
theorem iI{h:f8}{b c:Nat}{o x:Obj}(a:h[b]?=dB x):(jI h b o)[c]?=if b=c then dB o else h[c]?:=by
 unfold jI;rw[Array.getElem?_setIfInBounds];split
 ·rename_i e;subst e;rw[f9 (lt_of_block a)]
 ·rfl
theorem WT{h:f8}{b o:Nat}{c:Array eX}{e:TypeId}{f:Nat×Nat}{v:eX}(a:h[b]?=dB (.cells c e f)):Us h ⟨b,o,eH⟩ v=jI h b (.cells (c.setIfInBounds o v) e f):=by
 apply yN;intro i;rw[iI a];simp only[Us,yp];split
 ·rename_i d;subst d;rw[a];rfl
 ·rfl
theorem WU(h:f8)(b:Nat)(o a:Obj):jI (jI h b o) b a=jI h b a:=by unfold jI;simp
theorem aZ.jI{p:aA}{h:f8}{b:Nat}{o x:Obj}(d:h[b]?=dB x)(a:¬p b):aZ p h (jI h b o):=⟨by simp[Go.Vc.jI],λc _ f=>by
 rw[iI d,g0 λe=>a (by rw[e];exact f)]⟩
theorem fx{P:Program}{b o:Nat}{e:TypeId}{K:Unit->f8->Prop}:∀{vs pre old post:ba} {i:Nat} {h:f8},h[b]?=dB (.cells (pre++old++post).toArray e (0,0))->ii old=ii vs->ii pre=o+i->
  (∀v∈vs,v.oneCell'=eR)->K () (jI h b (.cells (pre++vs++post).toArray e (0,0)))->az P (storeCells ⟨b,o,eH⟩ vs i) h K
 |[],pre,old,post,i,h,hb,hl,hp,hv,hk=>by
  have:old=[]:=zc (by simpa using hl);subst this;refine az.pure' ?_;have f:jI h b (.cells (pre++[]++post).toArray e (0,0))=h:=by
   apply yN;intro c;rw[iI hb];split
   ·rename_i d;subst d;exact hb.symm
   ·rfl
  rw[f]at hk;exact hk
 |v::r,pre,old,post,i,h,hb,hl,hp,hv,hk=>by
  cases old with
  |nil=>simp at hl
  |cons u old=>
   simp only[storeCells];refine az.bind ?_;rw[add_eq];have d:f7 h ⟨b,o+i,eH⟩=dB u:=by rw[BH hb,<-hp];simp
   refine az.ael (hv v i9) d (aac hb) ?_;rw[WT hb];have a:(pre++(u::old)++post).toArray.setIfInBounds (o+i) v=((pre++[v])++old++post).toArray:=by rw[<-hp];apply yG;simp
   rw[a];refine fx (e:=e) (pre:=pre++[v]) (old:=old) (post:=post) ?_ (by simpa using hl) i7 (λx g=>hv x mn) ?_
   ·rw[iI hb,f9 rfl]
   ·rw[WU];simpa using hk
theorem KB{P:Program}{h:f8}{a:eY}{vs:ba}{n:Nat}{K:Array eX->f8->Prop}(c:ii vs=n)(d:aj h a 0 vs)(e:K vs.toArray h):az P (loadCells a n) h K:=λw b=>by
 subst b;refine⟨vs.toArray,w,?_,dG.refl w,e⟩;have:=run_loadCells (P:=P) (w:=w) (a:=a) vs 0 #[] d;rw[c]at this;unfold loadCells;rw[this];simp
variable {e:TypeId}
theorem Own.lt(c:Own h e s k f l){b:Nat}(a:s.on b):b<h.size:=by
 rcases c.head with⟨h1,_,_⟩|⟨b',rest,h1,h2,_,_⟩
 ·obtain⟨o,h0⟩:=a;rw[h1]at h0;cases h0
 ·obtain⟨o,h0⟩:=a;rw[h1]at h0;cases h0;exact lt_of_block h2
theorem Own.ag(c:Own h e s k f l)(d:aZ p h h')(a:∀b,s.on b->p b):Own h' e s k f l:=⟨c.len,by
 rcases c.head with h1|⟨b,rest,h1,h2,h3,h4⟩
 ·exact .inl h1
 ·exact .inr ⟨b,rest,h1,d.block (a b ⟨0,h1⟩) h2,h3,h4⟩⟩
theorem Own.seq(c:Own h e s k f l)(g:∀x,ii (f x)=k)(a:∀b,s.on b->p b):Seq h p s k f l:=⟨c.len,λi x d=>by
 rcases c.head with⟨_,_,h1⟩|⟨b,rest,h1,h2,h3,h4⟩
 ·subst h1;simp at d
 ·obtain⟨pre,post,j,m⟩:=Hl g l i x d;refine⟨b,0,h1,a b ⟨0,h1⟩,Ai (e:=e) (fr:=(0,0)) (pre:=pre) (post:=post++rest) ?_ i4⟩;rw[h2,j];simp⟩
theorem Own.nil(h:f8)(e:TypeId)(k:Nat)(f:α->ba):Own h e ⟨eH,0,0⟩ k f []:=⟨i0,.inl ⟨i0,i0,i0⟩⟩
theorem Own.cap(a:Own h e s k f l):s.len<=s.cap:=by
 rcases a.head with⟨h1,h2,h3⟩|⟨b,rest,h1,h2,h3,h4⟩
 ·have:=a.len;rw[h3]at this;simp at this;omega
 ·exact h4
theorem az.always{α:Type}{P:Program}{s:Sem α}{v:α}{h:f8}{K:α->f8->Prop}(b:aK P s v)(c:K v h):az P s h K:=λw a=>⟨v,w,b w,dG.refl w,by rw[a];exact c⟩
structure bU (C:AO) (t e k:Nat) (z:ba) (by_:Nat):Prop where
 ex:∃i j,C.T.get t=dB i/\i.db=.slice e/\C.T.get e=dB j/\j.size=k/\j.zero=z/\j.bytes=by_
variable {C:Ctx} {t:Nat} {z:ba} {by_:Nat}
section
variable {e:Nat}
theorem bU.under(a:bU C.toAO t e k z by_)(c:C.Ok):C.P.underlying t=dB (.slice e):=by obtain⟨i,j,b,d,_⟩:=a.ex;have:=c.db b;rw[d]at this;exact jv this
theorem bU.size(a:bU C.toAO t e k z by_)(c:C.Ok):aK C.P (sizeOf e) k:=by obtain⟨i,j,_,_,b,d,_⟩:=a.ex;rw[<-d];exact ey c.toOk b
theorem bU.info(m:bU C.toAO t e k z by_)(o:C.Ok):∃f,C.P.info? e=dB f/\f.size=k/\f.bytes=by_/\∃a,f.zero=dB a/\a.cells=z.toArray:=by obtain⟨i,j,_,_,n,p,h3,h⟩:=m.ex;obtain⟨f,b,g,l,a,c,d⟩:=o.info n;exact⟨f,b,g.trans p,l.trans h,a,c,by apply yG;rw[d,h3]⟩
end
def iR(z:ba):Nat->ba
 |0=>[]
 |n+1=>z++iR z n
theorem nT(z:ba):∀n,ii (iR z n)=n*ii z
 |0=>by simp[iR]
 |n+1=>by rw[iR,qw,nT z n,zH];omega
theorem Oz(z:ba):∀(n i:Nat),i<n*ii z->(iR z n)[i]?=z[i%ii z]?
 |0,i,h=>m9
 |n+1,i,h=>by
  have a:0<ii z:=Nat.pos_of_ne_zero λe=>by rw[e]at h;simp at h
  rw[iR];by_cases b:i<ii z
  ·rw[qo b,Nat.mod_eq_of_lt b]
  ·rw[qj i4,Oz z n (i-ii z) (by rw[zH]at h;omega)];congr 1
   conv=>rhs;rw[show i=(i-ii z)+ii z by omega,Nat.add_mod_right]
theorem OA(z:ba)(n m:Nat)(c:m=n*ii z):((xj m).map λi=>z.toArray[i%z.toArray.size]!)=(iR z n).toArray:=by
 apply yN;intro i;subst c;simp only[Array.getElem?_map,Array.getElem?_range,zX];by_cases b:i<n*ii z
 ·rw[Oz z n i b];have a:0<ii z:=Nat.pos_of_ne_zero λe=>by rw[e]at b;simp at b
  have:=vm i a;simp[b,this]
 ·rw[qP (by rw[nT];omega)];simp[b]
theorem DN(z:ba)(n:Nat):yD z.toArray n=(iR z n).toArray:=OA z n _ i9
theorem Tz(a:Nat):∀(r c:Nat),Builtin.growBy a r c<=(c+768)*2^r
 |0,c=>by simp[Builtin.growBy]
 |r+1,c=>by
  unfold Builtin.growBy;split
  ·exact zd (Nat.le_add_right c 768) (Nat.le_mul_of_pos_right _ (Nat.two_pow_pos _))
  ·refine zd (Tz a r _) ?_;rw[Nat.pow_succ,Nat.mul_comm (2^r) 2,<-Nat.mul_assoc];exact za _ i4
theorem afR(o n:Nat)(h:o<n):(o+768)*2^4<=16*n+16*768:=i4
theorem TA(a b:Nat)(h:b<a:=by omega):vn a b<=16*a+16*768:=by
 unfold vn;split
 ·omega
 ·split
  ·omega
  ·exact zd (Tz a 4 b) (afR _ _ h)
variable {t2:Nat} {v:Sl} {l2:List α}
section
variable {e:Nat}
theorem gG{P:Program}{K:Array eX->f8->Prop}(t:∀x,ii (f x)=k)(g:Seq h p v k f l)(q:K (l.flatMap f).toArray h):
  az P (wN k v.len (.slice v.ptr v.len v.cap)) h K:=by
 cases hp:v.ptr with
 |none=>
  have:l=[]:=by
   cases l with
   |nil=>rfl
   |cons x r=>obtain⟨b,o,c,_⟩:=g.elem 0 x i9;rw[hp]at c;cases c
  subst this;exact az.pure' q
 |some a=>
  refine KB (by rw[dK t,<-g.len]) ?_ q;cases l with
  |nil=>trivial
  |cons w r0=>
   obtain⟨b,o,c,_,_⟩:=g.elem 0 w i9;rw[hp]at c;cases c;have j:∀(r:List α) (n:Nat),(∀i x,r[i]?=dB x->aj h ⟨b,o+(n+i)*k,eH⟩ 0 (f x))->aj h ⟨b,o,eH⟩ (n*k) (r.flatMap f):=by
    intro r
    induction r with
    |nil=>intro n _;trivial
    |cons x r ih=>
     intro n s;have h0:=s 0 x i9;have e:=ih (n+1) (λi y z=>by have:=s (i+1) y (by simpa using z);rw[show n+1+i=n+(i+1)by omega];exact this);rw[zf];have app:∀(us vs:ba) (i:Nat),aj h ⟨b,o,eH⟩ i us->aj h ⟨b,o,eH⟩ (i+ii us) vs->aj h ⟨b,o,eH⟩ i (us++vs):=by
      intro us
      induction us with
      |nil=>intro vs i _ e;simpa using e
      |cons u us ih=>intro vs i c e;exact⟨c.1,ih vs (i+1) c.2 (by rw[show i+1+ii us=i+(ii us+1)by omega];exact e)⟩
     refine app _ _ _ ?_ (by rw[t,<-zH];exact e);have d:∀(us:ba) (i m:Nat),aj h ⟨b,o+m,eH⟩ i us->aj h ⟨b,o,eH⟩ (m+i) us:=by
      intro us
      induction us with
      |nil=>intros;trivial
      |cons u us ih=>
       intro i m c;refine⟨?_,ih (i+1) m c.2⟩;have:=c.1;rw[add_eq]at this⊢;rw[<-w5];exact this
     have:=d (f x) 0 ((n+0)*k) h0;simpa using this
   have:=j (w::r0) 0 (λi x A=>by
    obtain⟨B,D,c,_,h3⟩:=g.elem i x A;rw[hp]at c;cases c;simpa using h3)
   simpa using this
theorem UB(y:C.Ok)(D:bU C.toAO t e k z by_)(Y:∃i e2,C.T.get t2=dB i/\i.db=.slice e2)(X:ii z=k)(B:0<by_/\by_<=128)(m:∀x,ii (f x)=k)
  (w:Own h e s k f l) (G:Seq h p v k f l2) (q:∀x,∀c∈f x,c.oneCell'=eR) (ab:ii l+ii l2<=2^32) {ty:Nat} {K:Sl->f8->Prop}
  (F:∀L h',Own h' e L k f (l++l2)->aZ (λb=>¬s.on b) h h'->(∀b,L.on b->s.on b∨h.size<=b)->K L h'):
  bV C.P (qt #[t,t2] ty #[.slice s.ptr s.len s.cap,.slice v.ptr v.len v.cap]) (.one (.sc .slc)) h K:=by
 obtain⟨i2,e2,g1,V⟩:=Y;have Q:C.P.underlying t2=dB (.slice e2):=by have:=y.db g1;rw[V]at this;exact jv this
 obtain⟨N,A,x2,x3,W,x4,x5⟩:=D.info y;unfold bV qt;simp only[zX,yE,qy];refine az.bind (az.always (aR (D.under y)) ?_);refine az.bind (az.always (D.size y) ?_);refine az.bind (az.always (aR Q) ?_);refine az.bind (az.pure' ?_);simp only[zn,if_false,yg,if_true];refine az.bind (az.pure' ?_);have n:=w.len;have J:=G.len;by_cases g:s.len+v.len<=s.cap
 ·rw[f9 g];refine az.bind (gG m G ?_);rcases w.head with⟨p1,p2,p3⟩|⟨b,rest,p1,p2,p3,p4⟩
  ·rw[p1];have I:l2=[]:=zc i4;subst I;refine az.pure' ⟨⟨eH,s.len+v.len,s.cap⟩,i0,F _ _ ⟨?_,.inl ⟨i0,p2,by simp[p3]⟩⟩ (aZ.refl _ _) ?_⟩
   ·simp;omega
   ·rintro R ⟨o,d⟩;cases d
  ·rw[p1];refine az.bind ?_;rw[add_eq,wh];have j:=dK m l;have a:=dK m l2;have H:ii (l2.flatMap f)<=ii rest:=by rw[a,p3];exact za k i4
   refine fx (e:=e) (pre:=l.flatMap f) (old:=rest.take (l2.flatMap f).length) (post:=rest.drop (l2.flatMap f).length) ?_ ?_ ?_ ?_ ?_
   ·rw[qp,qF];exact p2
   ·rw[qU];exact w8 H
   ·rw[j,n];omega
   ·intro c hc;obtain⟨x,_,E⟩:=zS.1 hc;exact q x c E
   ·refine az.pure' ⟨⟨dB ⟨b,0,eH⟩,s.len+v.len,s.cap⟩,i0,F _ _ ⟨?_,.inr ⟨b,rest.drop (l2.flatMap f).length,i0,?_,?_,g⟩⟩ ?_ ?_⟩
    ·simp;omega
    ·rw[iI p2,f9 rfl];simp
    ·rw[zi,p3,a,<-Nat.sub_mul];show(s.cap-s.len-ii l2)*k=(s.cap-(s.len+v.len))*k;congr 1;omega
    ·exact aZ.jI p2 (λhn=>hn ⟨0,p1⟩)
    ·rintro R ⟨o,d⟩;cases d;exact .inl ⟨0,p1⟩
 ·rw[g0 g];have r:Seq h (λ_=>True) s k f l:=w.seq m λ_ _=>trivial;have S:=w.cap;refine az.bind (az.always (dD A) ?_);rw[g0 λZ=>by rcases Z.2 with h|h<;>first|exact h|(rw[x3]at h;omega)];refine az.bind (az.always (dD A) ?_);have U:=TA (s.len+v.len) s.cap;rw[g0 (by
   have:vn (s.len+v.len) s.cap*N.bytes<=(16*2^32+16*768)*128:=wb i4 (by rw[x3];exact B.2);omega)]
  refine az.bind (az.Kx ⟨λhf=>(by cases hf),λ_ nn=>?_⟩);refine az.bind (az.always (dD A) ?_);refine az.bind (az.He ?_);refine az.bind (gG m r ?_);refine az.bind (gG m G ?_);have M:aK C.P (zeroValue e) W:=(dD A).bind (by rw[x4];exact .pure);refine az.bind (az.always M ?_);rw[x5,DN];unfold newRow;refine az.bind (az.bind (az.pE (az.pure' (az.pure' ?_))));generalize O:Question.cut (Question.appendCap (s.len+v.len) s.cap e) nn=cc;have u:s.len+v.len<=cc:=by rw[<-O];simp only[Question.cut];omega
  refine⟨⟨dB ⟨h.size,0,eH⟩,s.len+v.len,cc⟩,i0,F _ _ ⟨?_,.inr ⟨h.size,iR z (cc-(s.len+v.len)),i0,?_,?_,u⟩⟩ (aZ.push _ _ _) ?_⟩
  ·simp;omega
  ·simp
  ·rw[nT,X]
  ·rintro R ⟨o,d⟩;cases d;exact .inr (qm _)
end
structure cw (h:f8) (a:eY) (e:TypeId) (cs:ba):Prop where
 off:a.off=0
 spot:a.spot=eH
 ga:h[a.block]?=dB (.cells cs.toArray e (0,0))
variable {a:eY} {cs:ba}
theorem cw.addr(c:cw h a e cs):a=⟨a.block,0,eH⟩:=by
 obtain⟨b,o,s⟩:=a;have:=c.off;have:=c.spot
 simp_all
theorem cw.ag(b:cw h a e cs)(c:aZ p h h')(d:p a.block):cw h' a e cs:=⟨b.off,b.spot,c.block d b.ga⟩
theorem cw.lt(b:cw h a e cs):a.block<h.size:=lt_of_block b.ga
theorem cw.cell(b:cw h a e cs){j:Nat}{v:eX}(c:cs[j]?=dB v):f7 h (a.add j)=dB v:=by rw[b.addr,add_eq,BH b.ga];simpa using c
theorem cw.cell0(c:cw h a e cs){v:eX}(b:cs[0]?=dB v):f7 h a=dB v:=c.cell (j:=0) b
theorem cw.cells(d:cw h a e cs)(j:Nat)(vs:ba)(c:(cs.drop j).take vs.length=vs):aj h (a.add j) 0 vs:=by
 rw[d.addr,add_eq,wh];have b:ii vs<=ii (cs.drop j):=by have:=congrArg List.length c;rw[qU]at this;omega
 rcases Nat.lt_or_ge cs.length j with hj|hj
 ·rw[zi]at b;have:vs=[]:=zc i4;subst this;trivial
 ·refine Ai (e:=e) (fr:=(0,0)) (pre:=cs.take j) (post:=(cs.drop j).drop vs.length) ?_ i7;have:cs.take j++vs++(cs.drop j).drop vs.length=cs:=by
   conv=>lhs;rw[qp];arg 2;arg 1;rw[<-c]
   rw[qF,qF]
  rw[this];exact d.ga
theorem cw.aP(c:cw h a e cs)(vs:ba)(b:cs.take vs.length=vs):aj h a 0 vs:=c.cells 0 vs b
variable {i:TI}
theorem we(f:C.Ok)(d:C.T.get t=dB i){K:eY->f8->Prop}(c:∀a h',a.block=h.size->cw h' a t i.zero->aZ (λ_=>True) h h'->h'.size=h.size+1->K a h'):
  rq C.P (qN t eR (.tuple #[])) h K:=by
 obtain⟨z,e,b⟩:=ro f.toOk d;unfold rq qN;refine az.bind (az.always e ?_);refine az.bind (az.bind (az.bind (az.pE (az.pure' (az.pure' (az.pure' ?_))))));refine⟨⟨h.size,0,eH⟩,i0,c _ _ i0 ⟨i0,i0,?_⟩ (aZ.push _ _ _) i9⟩;rw[<-b];simp
theorem TB{v:eX}{P:Program}{K:eY->f8->Prop}(b:∀a h',a.block=h.size->cw h' a t v.cells.toList->aZ (λ_=>True) h h'->h'.size=h.size+1->K a h'):
  rq P (qO t v) h K:=by
 unfold rq qO;refine az.bind (az.bind (az.bind (az.pE (az.pure' (az.pure' (az.pure' ?_))))));refine⟨⟨h.size,0,eH⟩,i0,b _ _ i0 ⟨i0,i0,?_⟩ (aZ.push _ _ _) i9⟩;simp
theorem run_store(m:C.Ok){a:eY}{e:TypeId}{b:ba}(c:cw h a e b)(n:C.T.get t=dB i)(off:Nat){v:eX}(vs:ba)(l:v.cells=vs.toArray)(f:i.size=ii vs)
  (d:vs.all (·.oneCell')=eR) (g:off+ii vs<=ii b) {K:Unit->f8->Prop}
  (k:∀h',cw h' a e (b.take off++vs++b.drop (off+ii vs))->aZ (·≠a.block) h h'->h'.size=h.size->K () h'):
  az C.P (qf t (.pointer (dB (a.add off))) v) h K:=by
 have j:=c.addr;unfold qf;refine az.bind (az.pure' ?_);unfold storeVar;refine az.bind (az.always (ey m.toOk n) ?_);rw[l,f];simp only[yh,ne_eq,not_true,if_false];rw[j,add_eq,wh];refine fx (e:=e) (pre:=b.take off) (old:=(b.drop off).take vs.length) (post:=b.drop (off+ii vs)) ?_ ?_ ?_ ?_ ?_
 ·have:b.take off++(b.drop off).take vs.length++b.drop (off+ii vs)=b:=by rw[<-zJ,qp,qF,qF]
  rw[this];exact c.ga
 ·simp;omega
 ·simp;omega
 ·intro x o;have:=q7.1 d x o;exact this
 ·refine k _ ⟨c.off,c.spot,?_⟩ (aZ.jI c.ga i9) (by simp[jI]);rw[iI c.ga,f9 rfl]
theorem BI(m:C.Ok){a:eY}{e:TypeId}{c:ba}(j:cw h a e c)(k:C.T.get t=dB i){v:eX}(vs:ba)(g:v.cells=vs.toArray)(d:i.size=ii vs)
  (b:vs.all (·.oneCell')=eR) (f:ii vs<=ii c) {K:Unit->f8->Prop}
  (l:∀h',cw h' a e (vs++c.drop vs.length)->aZ (·≠a.block) h h'->h'.size=h.size->K () h'):
  az C.P (qf t (.pointer (dB a)) v) h K:=
 run_store m j k 0 vs g d b i4 (λh' x y z=>l h' (by simpa using x) y z)
section
variable {e:Nat}
theorem DO{a:α}(b:f a=z):∀n,iR z n=(qh n a).flatMap f
 |0=>rfl
 |n+1=>by rw[iR,List.replicate_succ,zf,b,DO b n]
theorem af(x:Int)(b:-9223372036854775808<=x:=by omega)(c:x<=9223372036854775807:=by omega):qc xz x=x:=by
 show(if(eR&&decide (x%2^64>=2^63))=eR then x%2^64-2^64 else x%2^64)=x;by_cases a:x%2^64>=2^63
 ·rw[f9 (by rw[wA];exact g9 a)];omega
 ·rw[g0 (by rw[wA];exactλh=>a (hZ h))];omega
theorem run_make(q:C.Ok)(o:bU C.toAO t e k z by_)(l:0<by_/\by_<=128)(u:α)(A:f u=z)(d:ii z=k){D M:IntKind}{n c:Int}(m b:Nat)(N:n=m)(L:c=b)(p:m<=b)(w:b<=2^32)
  {K:Sl->f8->Prop} (G:∀j h',Own h' e j k f (qh m u)->j.ptr=dB ⟨h.size,0,eH⟩->j.cap=b->aZ (λ_=>True) h h'->h'.size=h.size+1->K j h'):
  bV C.P (qG t (.int D n) (.int M c)) (.one (.sc .slc)) h K:=by
 subst N;subst L;obtain⟨s,B,x2,x3,H,J,I⟩:=o.info q;unfold bV qG;refine az.bind (az.always (aR (o.under q)) ?_);refine az.bind (az.pure' ?_);refine az.bind (az.pure' ?_);refine az.bind (az.always (dD B) ?_);have F:qc xz (m:Int)=m:=af _;have E:qc xz (b:Int)=b:=af _;have O:¬((s.bytes:Int)*(b:Int)>2^48):=by
  rw[x3];have:by_*b<=128*2^32:=wb l.2 w;have:((by_:Int)*(b:Int))<=((128*2^32:Nat):Int):=by exact_mod_cast this
  omega
 simp only[F,E];rw[g0 i7];refine az.bind (az.He ?_);refine az.bind (az.always (o.size q) ?_);have r:aK C.P (zeroValue e) H:=(dD B).bind (by rw[J];exact .pure);have fin:∀g:Array eX,(b*k≠0->g=z.toArray)->az C.P (do
   let a<-newRow e ((xj (b*k)).map (g[·%g.size]!))
   pure (Value.slice (dB a) m b)) h (λv h'=>∃x:(Rt.one (.sc .slc)).den,v=(Rt.one (.sc .slc)).enc x/\K x h'):=by
  intro g y;have i:((xj (b*k)).map (g[·%g.size]!))=(iR z b).toArray:=by
   by_cases h0:b*k=0
   ·rw[h0];have:iR z b=[]:=zc (by rw[nT,d,h0]);rw[this];simp
   ·rw[y h0];exact OA z b _ (by rw[d])
  rw[i];refine az.bind (az.bind (az.pE (az.pure' (az.pure' ?_))));refine⟨⟨dB ⟨h.size,0,eH⟩,m,b⟩,i0,G _ _ ⟨i9,.inr ⟨h.size,iR z (b-m),i0,?_,?_,p⟩⟩ i0 i0 (aZ.push _ _ _) i9⟩
  ·have:iR z b=(qh m u).flatMap f++iR z (b-m):=by rw[DO A,DO A,<-zg,List.replicate_append_replicate];congr 2;omega
   rw[this];simp
  ·rw[nT,d]
 simp only[ql];by_cases h0:b*k=0
 ·rw[f9 h0];exact az.bind (az.pure' (fin _ λh=>absurd h0 h))
 ·rw[g0 h0];refine az.bind (az.always r ?_);exact az.bind (az.pure' (fin _ λ_=>I))
theorem KC(m:C.Ok)(j:bU C.toAO t e k z by_)(d:ii z=k){n:Nat}{parts:Array (Nat×eX)}(l:List α)(D:ii l=n)(A:n*k<=2^20)
  (b:wF (λi=>dB (i*k,k)) (iR z n).toArray parts.toList=dB (l.flatMap f).toArray) {K:Sl->f8->Prop}
  (r:∀o h',Own h' e o k f l->o.ptr=dB ⟨h.size,0,eH⟩->aZ (λ_=>True) h h'->h'.size=h.size+1->K o h'):
  bV C.P (qq t n parts) (.one (.sc .slc)) h K:=by
 obtain⟨u,w,x2,x3,s,B,y⟩:=j.info m;unfold bV qq;refine az.bind (az.always (aR (j.under m)) ?_);refine az.bind (az.always (j.size m) ?_);rw[g0 i4];have p:aK C.P (zeroValue e) s:=(dD w).bind (by rw[B];exact .pure);have fin:∀c:Array eX,(n*k≠0->c=z.toArray)->az C.P (do
   let dB cells:=wF (λi=>dB (i*k,k)) ((xj (n*k)).map (c[·%c.size]!)) parts.toList
    |stuck "buildSlice: a part of the wrong size"
   pure (Value.slice (dB (<-newRow e cells)) n n)) h (λv h'=>∃x:(Rt.one (.sc .slc)).den,v=(Rt.one (.sc .slc)).enc x/\K x h'):=by
  intro c q;have g:((xj (n*k)).map (c[·%c.size]!))=(iR z n).toArray:=by
   by_cases h0:n*k=0
   ·rw[h0];have:iR z n=[]:=zc (by rw[nT,d,h0]);rw[this];simp
   ·rw[q h0];exact OA z n _ (by rw[d])
  rw[g,b];refine az.bind (az.bind (az.pE (az.pure' (az.pure' ?_))));refine⟨⟨dB ⟨h.size,0,eH⟩,n,n⟩,i0,r _ _ ⟨D.symm,.inr ⟨h.size,[],i0,i9,i9,qm _⟩⟩ i0 (aZ.push _ _ _) i9⟩
 by_cases h0:n*k=0
 ·rw[f9 h0];exact az.bind (az.pure' (fin _ λh=>absurd h0 h))
 ·rw[g0 h0];refine az.bind (az.always p ?_);exact az.bind (az.pure' (fin _ λ_=>y))
theorem Own.set{i:TI}(B:C.Ok)(q:Own h e s k f l)(p:∀x,ii (f x)=k)(F:C.T.get t=dB i){x:Int}(n:Nat)(G:x=n)(v:n<ii l){j:eX}(y:α)(z:j.cells=(f y).toArray)(u:i.size=k)
  (o:(f y).all (·.oneCell')=eR) {K:f8->Prop} (A:∀h',Own h' e s k f (l.set n y)->aZ (λb=>¬s.on b) h h'->h'.size=h.size->K h'):
  ∃a:eY,(s.ptr=dB a/\0<=x/\x<((s.len:Nat):Int))/\az C.P (qf t (.pointer (dB (a.add (x.toNat*k)))) j) h λ_ h'=>K h':=by
 subst G;rcases q.head with⟨_,_,h3⟩|⟨b,rest,h1,h2,h3,h4⟩
 ·subst h3;simp at v
 ·refine⟨_,⟨h1,i4,by rw[q.len];omega⟩,?_⟩;unfold qf;refine az.bind (az.pure' ?_);unfold storeVar;refine az.bind (az.always (ey B.toOk F) ?_);rw[z,u];have r:=p y;simp only[yh,r,ne_eq,not_true,if_false];rw[add_eq,wh,ql];have d:l=l.take n++l[n]::l.drop (n+1):=by rw[<-qQ v,qF]
  have g:l.set n y=l.take n++y::l.drop (n+1):=ye.trans (f9 v);have m:ii ((l.take n).flatMap f)=n*k:=by rw[dK p,qU,w8 i4]
  refine fx (e:=e) (pre:=(l.take n).flatMap f) (old:=f l[n]) (post:=(l.drop (n+1)).flatMap f++rest) ?_ ?_ ?_ ?_ ?_
  ·have:l.flatMap f++rest=(l.take n).flatMap f++f l[n]++((l.drop (n+1)).flatMap f++rest):=by have w:=congrArg (List.flatMap f) d;rw[zg,zf]at w;rw[w];simp
   rw[<-this];exact h2
  ·rw[p,p]
  ·rw[m];omega
  ·intro c E;have:=q7.1 o c E;exact this
  ·refine A _ ⟨by rw[zl];exact q.len,.inr ⟨b,rest,h1,?_,h3,h4⟩⟩ (aZ.jI h2 λD=>D ⟨0,h1⟩) (by simp[jI]);rw[iI h2,f9 i0,g];simp
end
def grow(c:Nat->Nat)(n i:Nat):Nat->Nat:=λb=>if b<n then c b else i
theorem gE{c:Nat->Nat}{n i b:Nat}(h:b<n):grow c n i b=c b:=f9 h
theorem pK{c:Nat->Nat}{n i b:Nat}(h:n<=b:=by omega):grow c n i b=i:=g0 i4
structure dO {α:Type} (h:f8) (c:Nat->Nat) (i:Nat) (e:TypeId) (s:Sl) (k:Nat) (f:α->ba) (l:List α):Prop where
 own:Own h e s k f l
 bx:∀b,s.on b->c b=i
structure kI (h:f8) (c:Nat->Nat) (i:Nat) (a:eY) (e:TypeId) (cs:ba):Prop where
 box:cw h a e cs
 bx:c a.block=i
structure mK (h0 h:f8) (c:Nat->Nat):Prop where
 ag:aZ (λb=>b<h0.size) h0 h
 bx:∀b,b<h0.size->c b=0
variable {h0:f8} {c:Nat->Nat} {j n m:Nat}
section
variable {i:Nat}
theorem dO.keep(d:dO h c j e s k f l)(n:aZ (λb=>c b≠i) h h')(g:j≠i):dO h' (grow c h.size m) j e s k f l:=
 ⟨d.own.ag n λb a=>by rw[d.bx b a];exact g,λb a=>by rw[gE (d.own.lt a)];exact d.bx b a⟩
theorem kI.keep(d:kI h c j a e cs)(g:aZ (λb=>c b≠i) h h')(f:j≠i):kI h' (grow c h.size m) j a e cs:=
 ⟨d.box.ag g (by rw[d.bx];exact f),by rw[gE d.box.lt];exact d.bx⟩
theorem mK.keep(d:mK h0 h c)(e:aZ (λb=>c b≠i) h h')(f:i≠0):mK h0 h' (grow c h.size m):=
 ⟨d.ag.then e λb a _=>by rw[d.bx b a];exact f.symm,λb a=>by rw[gE (qY a d.ag.1)];exact d.bx b a⟩
theorem mK.refl(h:f8):mK h h (λ_=>0):=⟨aZ.refl _ _,λ_ _=>rfl⟩
theorem dO.seq(a:dO h c j e s k f l)(d:∀x,ii (f x)=k):Seq h (λb=>c b=j) s k f l:=a.own.seq d a.bx
theorem dO.UC(a:dO h c j e s k f l)(d:∀x,ii (f x)=k):Seq h (λb=>b<h.size) s k f l:=a.own.seq d λ_ g=>a.own.lt g
theorem dO.nil(h:f8)(c:Nat->Nat)(i:Nat)(e:TypeId)(k:Nat)(f:α->ba):dO h c i e ⟨eH,0,0⟩ k f []:=⟨Own.nil h e k f,λb a=>by obtain⟨o,d⟩:=a;cases d⟩
theorem aZ.bx(a:aZ (λ_=>True) h h')(c:Nat->Nat)(i:Nat):aZ (λb=>c b≠i) h h':=a.mono λ_ _ _=>trivial
end
variable {ti:TI}
section
variable {i e:Nat}
theorem sD(f:C.Ok)(_:mK h0 h c)(i:Nat)(d:C.T.get t=dB ti){K:eY->f8->Prop}(e:∀a h',kI h' (grow c h.size i) i a t ti.zero->aZ (λb=>c b≠i) h h'->K a h'):
  rq C.P (qN t eR (.tuple #[])) h K:=
 we f d λa h' x y z _=>e a h' ⟨y,by rw[pK]⟩ (z.bx c i)
theorem OB(P:Program)(_:mK h0 h c)(i:Nat){v:eX}{K:eY->f8->Prop}(d:∀a h',kI h' (grow c h.size i) i a t v.cells.toList->aZ (λb=>c b≠i) h h'->K a h'):
  rq P (qO t v) h K:=
 TB λa h' x y z _=>d a h' ⟨y,by rw[pK]⟩ (z.bx c i)
theorem kI.store(o:C.Ok)(g:kI h c i a e cs)(p:C.T.get t=dB ti)(off:Nat){v:eX}(vs:ba)(m:v.cells=vs.toArray)(j:ti.size=ii vs)
  (f:vs.all (·.oneCell')=eR) (d:off+ii vs<=ii cs) {K:Unit->f8->Prop}
  (l:∀h',kI h' (grow c h.size i) i a e (cs.take off++vs++cs.drop (off+ii vs))->aZ (λb=>c b≠i) h h'->K () h'):
  az C.P (qf t (.pointer (dB (a.add off))) v) h K:=
 run_store o g.box p off vs m j f d λh' x y z=>l h' ⟨x,by rw[gE g.box.lt];exact g.bx⟩ (y.mono λb _ k n=>k (by rw[n];exact g.bx))
theorem kI.jJ(n:C.Ok)(k:kI h c i a e cs)(m:C.T.get t=dB ti){v:eX}(vs:ba)(j:v.cells=vs.toArray)(f:ti.size=ii vs)
  (d:vs.all (·.oneCell')=eR) (g:ii vs<=ii cs) {K:Unit->f8->Prop}
  (l:∀h',kI h' (grow c h.size i) i a e (vs++cs.drop vs.length)->aZ (λb=>c b≠i) h h'->K () h'):
  az C.P (qf t (.pointer (dB a)) v) h K:=
 k.store n m 0 vs j f d i4 (λh' x y=>l h' (by simpa using x) y)
theorem wf(A:C.Ok)(_:mK h0 h c)(i:Nat)(f:α->ba)(u:bU C.toAO t e k z by_)(d:0<by_/\by_<=128)(j:α)(w:f j=z)(g:ii z=k){r E:IntKind}{n q:Int}(m:Nat)(D:n=m)(B:q=m)(l:m<=2^32)
  {K:Sl->f8->Prop} (v:∀a h',dO h' (grow c h.size i) i e a k f (qh m j)->aZ (λb=>c b≠i) h h'->K a h'):
  bV C.P (qG t (.int r n) (.int E q)) (.one (.sc .slc)) h K:=
 run_make A u d j w g m m D B (qm _) l λa h' x y _ z _=>v a h' ⟨x,λb s=>by obtain⟨o,p⟩:=s;rw[y]at p;cases p;rw[pK (qm _)]⟩ (z.bx c i)
theorem Hm(s:C.Ok)(_:mK h0 h c)(i:Nat)(f:α->ba)(q:bU C.toAO t e k z by_)(g:ii z=k){n:Nat}{parts:Array (Nat×eX)}(l:List α)(u:ii l=n)(j:n*k<=2^20)
  (a:wF (λi=>dB (i*k,k)) (iR z n).toArray parts.toList=dB (l.flatMap f).toArray) {K:Sl->f8->Prop}
  (r:∀d h',dO h' (grow c h.size i) i e d k f l->aZ (λb=>c b≠i) h h'->K d h'):
  bV C.P (qq t n parts) (.one (.sc .slc)) h K:=
 KC s q g l u j a λd h' x y z _=>r d h' ⟨x,λb p=>by obtain⟨o,m⟩:=p;rw[y]at m;cases m;rw[pK (qm _)]⟩ (z.bx c i)
theorem dO.append(D:C.Ok)(d:dO h c i e s k f l)(r:bU C.toAO t e k z by_)(m:∃i e2,C.T.get t2=dB i/\i.db=.slice e2)(B:ii z=k)(j:0<by_/\by_<=128)(E:∀x,ii (f x)=k)
  (A:Seq h p v k f l2) (a:∀x,∀c∈f x,c.oneCell'=eR) (n:ii l+ii l2<=2^32) {ty:Nat} {K:Sl->f8->Prop}
  (u:∀g h',dO h' (grow c h.size i) i e g k f (l++l2)->aZ (λb=>c b≠i) h h'->K g h'):
  bV C.P (qt #[t,t2] ty #[.slice s.ptr s.len s.cap,.slice v.ptr v.len v.cap]) (.one (.sc .slc)) h K:=
 UB D r m B j E d.own A a n λg h' x y w=>u g h' ⟨x,λb q=>by
  rcases w b q with w|w
  ·rw[gE (d.own.lt w)];exact d.bx b w
  ·exact pK w⟩ (y.mono λb _ o m=>o (d.bx b m))
theorem dO.set(v:C.Ok)(j:dO h c i e s k f l)(A:∀x,ii (f x)=k)(B:C.T.get t=dB ti){x:Int}(n:Nat)(E:x=n)(D:n<ii l){d:eX}(y:α)(q:d.cells=(f y).toArray)(m:ti.size=k)
  (g:(f y).all (·.oneCell')=eR) {K:f8->Prop} (r:∀h',dO h' (grow c h.size i) i e s k f (l.set n y)->aZ (λb=>c b≠i) h h'->K h'):
  ∃a:eY,(s.ptr=dB a/\0<=x/\x<((s.len:Nat):Int))/\az C.P (qf t (.pointer (dB (a.add (x.toNat*k)))) d) h λ_ h'=>K h':=
 j.own.set v A B n E D y q m g λh' z w _=>r h' ⟨z,λb p=>by rw[gE (j.own.lt p)];exact j.bx b p⟩ (w.mono λb _ o u=>o (j.bx b u))
end
section
variable {i e:Nat}
theorem grow_grow{c:Nat->Nat}{n m i:Nat}(h:n<=m):grow (grow c n i) m i=grow c n i:=by
 funext b;unfold grow;split
 ·rfl
 ·rw[g0 i4]
theorem aZ.step(a:aZ (λb=>c b≠i) h h'){d:f8}(b:aZ (λb=>grow c h.size i b≠i) h' d):aZ (λb=>c b≠i) h d:=
 a.then b λx f e=>by rw[gE f];exact e
theorem dO.push(G:C.Ok)(r:dO h c i e s k f l)(q:bU C.toAO t e k z by_)(F:ii z=k)(o:0<by_/\by_<=128)(H:∀x,ii (f x)=k)
  (j:∀x,∀c∈f x,c.oneCell'=eR) (x:α) {parts:Array (Nat×eX)} (a:wF (λi=>dB (i*k,k)) (iR z 1).toArray parts.toList=dB ([x].flatMap f).toArray)
  (A:1*k<=2^20) (D:ii l+1<=2^32) {ty:Nat} {K:Sl->f8->Prop}
  (I:∀n h',dO h' (grow c h.size i) i e n k f (l++[x])->aZ (λb=>c b≠i) h h'->K n h'):
  bV C.P (qq t 1 parts) (.one (.sc .slc)) h λv m=>bV C.P (qt #[t,t] ty #[.slice s.ptr s.len s.cap,.slice v.ptr v.len v.cap]) (.one (.sc .slc)) m K:=by
 refine KC G q F [x] i0 A a λv m J O y _=>?_;have w:aZ (λb=>c b≠i) h m:=y.bx c i;have B:dO m (grow c h.size i) i e s k f l:=⟨r.own.ag y λ_ _=>trivial,λb E=>by rw[gE (r.own.lt E)];exact r.bx b E⟩
 have g:h.size<=m.size:=y.1;obtain⟨L,Q,N,x2,_⟩:=q.ex;refine B.append G q ⟨L,e,N,x2⟩ F o H (J.seq (p:=λ_=>True) H λ_ _=>trivial) j D λn M d u=>?_;rw[grow_grow g]at d;exact I n M d (w.step u)
structure agK (h:f8) (c:Nat->Nat) (top lo:Nat) (e:TypeId) (s:Sl) (k:Nat) (f:α->ba) (ll:List (List α)) (rs:List Sl):Prop where
 own:dO h c top e s 1 bp rs
 len:ii rs=ii ll
 row:∀(i:Nat) r l,rs[i]?=dB r->ll[i]?=dB l->Seq h (λb=>b<h.size/\lo<=c b/\c b<lo+ii ll) r k f l
theorem jK:∀x,∀c∈bp x,c.oneCell'=eR:=by intro x c a;simp only[bp,qB]at a;subst a;rfl
end
structure agL {α:Type} (h:f8) (r:Nat) (g:α->eX) (kvs:List (Int×α)):Prop where
 ex:∃es clock,h[r]?=dB (.map es clock)/\es.toList.map (λe=>(e.key,e.val))=kvs.map (λp=>(Value.int .i64 p.1,g p.2))
variable {P:Program} {r:Nat} {g:α->eX} {kvs:List (Int×α)}
theorem OC(x n:Int)(b:0<n):x%n=if x.tmod n<0 then x.tmod n+n else x.tmod n:=by
 have d:=vG x b;have e:-n<x.tmod n:=Int.lt_tmod_of_pos x b;have c:=Int.tmod_add_mul_tdiv x n;have a:0<=(if x.tmod n<0 then x.tmod n+n else x.tmod n)/\(if x.tmod n<0 then x.tmod n+n else x.tmod n)<n:=by split<;>omega
 have e2:x=(if x.tmod n<0 then x.tmod n+n else x.tmod n)+n*(if x.tmod n<0 then x.tdiv n-1 else x.tdiv n):=by
  split
  ·rw[Int.mul_sub];omega
  ·omega
 conv=>lhs;rw[e2]
 rw[Int.add_mul_emod_self_left];exact Int.emod_eq_of_lt a.1 a.2
theorem aH{α:Type}(l:List α)(k:Nat)(h:k<ii l:=by omega):l.take (k+1)=l.take k++[l[k]]:=zM h
theorem eJ:∀x,∀c∈ak x,c.oneCell'=eR:=by intro x c a;simp only[ak,qB]at a;subst a;rfl
theorem iF:∀x,∀c∈aD x,c.oneCell'=eR:=by intro x c a;simp only[aD,qB]at a;subst a;rfl
theorem up{h c d:f8}(a:aZ (λb=>b<h.size) h c)(b:aZ (λb=>b<c.size) c d):aZ (λb=>b<h.size) h d:=
 a.then b λ_ e _=>qY e a.1
theorem any{h c:f8}(a:aZ (λ_=>True) h c):aZ (λb=>b<h.size) h c:=a.mono λ_ _ _=>trivial
theorem Seq.up{α:Type}{h h':f8}{s:Sl}{k:Nat}{f:α->ba}{l:List α}(c:Seq h (λb=>b<h.size) s k f l)(a:aZ (λb=>b<h.size) h h'):Seq h' (λb=>b<h'.size) s k f l:=
 (c.ag a).mono λ_ d=>qY d a.1
theorem iu.up{α:Type}{h h':f8}{s:Sl}{k:Nat}{f:α->ba}{l:List (List α)}{rs:List Sl}(c:iu h (λb=>b<h.size) s k f l rs)(a:aZ (λb=>b<h.size) h h'):iu h' (λb=>b<h'.size) s k f l rs:=
 (c.ag a).mono λ_ d=>qY d a.1
theorem Seq.drop{α:Type}{h:f8}{p:aA}{s:Sl}{w:Nat}{f:α->ba}{l:List α}(c:Seq h p s w f l)(k:Nat)(m:s.len<=s.cap):
  Seq h p ⟨if s.cap=k then s.ptr else s.ptr.map (·.add (k*w)),s.len-k,s.cap-k⟩ w f (l.drop k):=by
 have g:=c.len;refine⟨mn,λi x a=>?_⟩;rw[wO]at a;obtain⟨b,o,j,d,h3⟩:=c.elem _ x a;have e:=(qn.1 a).1;refine⟨b,o+k*w,?_,d,?_⟩
 ·dsimp only;rw[g0 i4,j,q9,add_eq]
 ·rw[show o+k*w+i*w=o+(k+i)*w by rw[Nat.add_mul];omega];exact h3
theorem Seq.take{α:Type}{h:f8}{p:aA}{s:Sl}{w:Nat}{f:α->ba}{l:List α}(b:Seq h p s w f l)(k:Nat)(c:k<=ii l):
  Seq h p ⟨s.ptr,k,s.cap⟩ w f (l.take k):=by
 refine⟨i7,λi x a=>?_⟩;rw[vg]at a;split at a
 ·exact b.elem i x a
 ·cases a
theorem getD_lt{α:Type}{l:List α}{d:α}{i:Nat}(h:i<ii l:=by omega):l.getD i d=l[i]:=by rw[qe,qd h];rfl
structure HP where
 p:f8->aA->Prop
 loc:∀{h h':f8} {q:aA},p h q->aZ q h h'->p h' q
 mono:∀{h:f8} {q q':aA},p h q->(∀b,q b->q' b)->p h q'
def emp:HP:=⟨λ_ _=>True,λ_ _=>trivial,λ_ _=>trivial⟩
def ae{α:Type}(e:TypeId)(s:Sl)(k:Nat)(f:α->ba)(l:List α):HP:=
 ⟨λh q=>Own h e s k f l/\∀b,s.on b->q b,λa c=>⟨a.1.ag c a.2,a.2⟩,λa g=>⟨a.1,λb d=>g b (a.2 b d)⟩⟩
def al(a:eY)(e:TypeId)(c:ba):HP:=
 ⟨λh q=>cw h a e c/\q a.block,λx b=>⟨x.1.ag b x.2,x.2⟩,λx d=>⟨x.1,d _ x.2⟩⟩
def rY{α:Type}(s:Sl)(k:Nat)(f:α->ba)(l:List α):HP:=
 ⟨λh q=>Seq h q s k f l,λa b=>a.ag b,λa c=>a.mono c⟩
def fN{α:Type}(e:TypeId)(s:Sl)(k:Nat)(f:α->ba)(m:List (List α)):HP:=
 ⟨λh q=>∃(rs:List Sl) (j:aA),Own h e s 1 bp rs/\(∀b,s.on b->q b/\¬j b)/\(∀b,j b->q b)/\rs.length=ii m/\∀(i:Nat) r l,rs[i]?=dB r->m[i]?=dB l->Seq h j r k f l,
  λ⟨rs,j,a,b,c,d,e⟩ hp=>⟨rs,j,a.ag hp λx g=>(b x g).1,b,c,d,λi r l o n=>(e i r l o n).ag (hp.mono λx _ g=>c x g)⟩,
  λ⟨rs,j,a,b,c,d,e⟩ hq=>⟨rs,j,a,λx g=>⟨hq x (b x g).1,(b x g).2⟩,λx g=>hq x (c x g),d,e⟩⟩
structure aa (B:aA) (h0 h:f8) (As:List HP):Prop where
 low:∀b,B b->b<h0.size
 ag:aZ B h0 h
 ex:∃c:Nat->Nat,(∀b,B b->c b=0)/\∀(i:Nat) (A:HP),As[i]?=dB A->A.p h (λb=>b<h.size/\c b=i+1)
abbrev Sp(a h:f8)(As:List HP):Prop:=aa (λb=>b<a.size) a h As
variable {As Bs:List HP} {A2 D:HP}
section
variable {B:aA} {A:HP} {i:Nat}
theorem Sp.refl(h:f8):Sp h h []:=⟨λ_ h=>h,aZ.refl _ _,λ_=>0,λ_ _=>rfl,λi A a=>by simp at a⟩
theorem aa.at(H:aa B h0 h As)(i:Nat)(d:As[i]?=dB A):A.p h (λb=>b<h.size):=by obtain⟨c,_,e⟩:=H.ex;exact A.mono (e i A d) λ_ a=>a.1
theorem aa.fin(H:aa B h0 h As)(i:Nat)(e:As[i]?=dB A):A.p h (λb=>¬B b/\b<h.size):=by obtain⟨c,f,g⟩:=H.ex;exact A.mono (g i A e) λb d=>⟨λa=>by have:=f b a;omega,d.1⟩
theorem Sp.fresh(H:Sp h0 h As)(i:Nat)(c:As[i]?=dB A):A.p h (λb=>h0.size<=b/\b<h.size):=
 A.mono (aa.fin H i c) λb a=>⟨i4,a.2⟩
theorem aa.comp(H:aa B h0 h As)(R:Sp h h' Bs):aa B h0 h' (As++Bs):=by
 obtain⟨j,k,m,l,p⟩:=H;obtain⟨_,e,g,o,n⟩:=R;have c:=k.1;refine⟨j,k.then e λb a _=>qY a c,λb=>if b<h.size then m b else if g b=0 then 0 else As.length+g b,λb a=>?_,λi A d=>?_⟩
 ·dsimp only;rw[f9 (qY (j b a) c)];exact l b a
 ·by_cases q:i<ii As
  ·rw[qo q]at d;refine A.mono (A.loc (p i A d) (e.mono λb _ a=>a.1)) λb a=>⟨qY a.1 e.1,?_⟩
   dsimp only;rw[f9 a.1];exact a.2
  ·rw[qj i4]at d;refine A.mono (n _ A d) λb a=>⟨a.1,?_⟩
   have:¬b<h.size:=λf=>by have:=o b f;omega
   dsimp only;rw[g0 this,g0 i4];omega
theorem aa.up(H:aa B h0 h As)(R:aZ (λb=>b<h.size) h h'):aa B h0 h' As:=by have:=H.comp (Bs:=[]) ⟨λ_ h=>h,R,λ_=>0,λ_ _=>rfl,λi A a=>by simp at a⟩;simpa using this
theorem Sp.one(R:aZ (λb=>b<h.size) h h')(d:A.p h' λb=>h.size<=b/\b<h'.size):Sp h h' [A]:=by
 refine⟨λ_ h=>h,R,λb=>if b<h.size then 0 else 1,λb a=>f9 a,λi A2 c=>?_⟩;cases i with
 |succ i=>simp at c
 |zero=>
  simp at c;subst c;exact A.mono d λb a=>⟨a.2,by dsimp only;rw[g0 i4]⟩
theorem Sp.zip(R:aZ (λb=>b<h.size) h h'):Sp h h' []:=aa.up (Sp.refl h) R
theorem aa.enter(q:aA)(c:Nat->Nat)(f:∀b,q b->b<h.size)(a:∀(i:Nat) (A:HP),As[i]?=dB A->A.p h λb=>q b/\c b=i+1):aa (λb=>b<h.size/\¬q b) h h As:=by
 classical
 refine⟨λb d=>d.1,aZ.refl _ _,λb=>if q b then c b else 0,λb d=>g0 d.2,λi A e=>A.mono (a i A e) λb d=>⟨f b d.1,?_⟩⟩;dsimp only;rw[f9 d.1];exact d.2
theorem aa.WV(q:aA)(e:∀b,q b->b<h.size)(a:A.p h q):aa (λb=>b<h.size/\¬q b) h h [A]:=
 .enter q (λ_=>1) e λi A2 c=>by
  cases i with
  |succ i=>simp at c
  |zero=>simp at c;subst c;exact A.mono a λb d=>⟨d,i0⟩
theorem aa.BJ(l:∀b,B b->b<h0.size)(f:aZ B h0 h)(z:∀b,B b->c b=0)(a:∀(i:Nat) (A:HP),As[i]?=dB A->A.p h λb=>b<h.size/\c b=i+1)
  (k:aZ (λb=>¬(b<h.size/\c b=i+1)) h h') (m:D.p h' λb=>b<h'.size/\((b<h.size/\c b=i+1)∨h.size<=b)):aa B h0 h' (As.set i D):=by
 refine⟨l,f.then k λb _ d n=>by have:=z b d;omega,grow c h.size (i+1),λb d=>?_,λj A e=>?_⟩
 ·rw[gE (qY (l b d) f.1)];exact z b d
 ·rw[zb]at e;split at e
  ·rename_i g;subst g;split at e
   ·injection e with e
    subst e;refine D.mono m λb d=>⟨d.1,?_⟩
    rcases d.2 with h1|h1
    ·rw[gE h1.1];exact h1.2
    ·exact pK h1
   ·cases e
  ·rename_i g;refine A.mono (A.loc (a j A e) (k.mono λb _ d n=>i4)) λb d=>⟨qY d.1 k.1,?_⟩
   rw[gE d.1];exact d.2
theorem aa.step(H:aa B h0 h As)(i:Nat)(g:As[i]?=dB A)(e:∀q:aA,A.p h q->(∀b,q b->b<h.size)->aZ (λb=>¬q b) h h'/\D.p h' λb=>b<h'.size/\(q b∨h.size<=b)):aa B h0 h' (As.set i D):=by obtain⟨d,p,c,z,a⟩:=H;obtain⟨j,k⟩:=e _ (a i A g) λb f=>f.1;exact aa.BJ d p z a j k
theorem aa.gb(H:aa B h0 h As)(i:Nat)(e:As[i]?=dB A)(d:∀q:aA,A.p h q->D.p h q):aa B h0 h (As.set i D):=
 H.step i e λq f a=>⟨aZ.refl _ _,D.mono (d q f) λb c=>⟨a b c,.inl c⟩⟩
theorem aa.merge(H:aa B h0 h As)(i j:Nat)(r:i≠j)(t:As[i]?=dB A)(o:As[j]?=dB A2)
  (q:∀l m:aA,(∀b,l b->¬m b)->A.p h l->A2.p h m->D.p h λb=>l b∨m b):aa B h0 h ((As.set i D).set j emp):=by
 obtain⟨s,p,c,z,a⟩:=H;refine⟨s,p,λb=>if c b=j+1 then i+1 else c b,λb e=>?_,λk n d=>?_⟩
 ·have:=z b e;dsimp only;rw[g0 i4];exact this
 ·rw[zb]at d;split at d
  ·split at d
   ·cases d;trivial
   ·cases d
  ·rename_i u;rw[zb]at d;split at d
   ·rename_i g;subst g;split at d
    ·injection d with d
     subst d;refine D.mono (q _ _ (λb f v=>i4) (a i A t) (a j A2 o)) λb e=>?_;rcases e with f|f
     ·exact⟨f.1,by dsimp only;rw[g0 i4];exact f.2⟩
     ·exact⟨f.1,by dsimp only;rw[f9 f.2]⟩
    ·cases d
   ·rename_i g;refine n.mono (a k n d) λb e=>⟨e.1,?_⟩
    dsimp only;rw[g0 i4];exact e.2
theorem aa.pick(H:aa B h0 h As)(f:Nat->Nat)(l:∀i j,f i=f j->i=j)(m:∀(i:Nat) (A2:HP),Bs[i]?=dB A2->As[f i]?=dB A2):aa B h0 h Bs:=by
 obtain⟨k,p,c,z,a⟩:=H
 classical
 refine⟨k,p,λb=>if e:∃i,c b=f i+1 then e.choose+1 else 0,λb e=>?_,λi A2 g=>?_⟩
 ·have:=z b e;dsimp only;rw[dif_neg];rintro⟨i,g⟩;omega
 ·refine A2.mono (a _ _ (m i A2 g)) λb e=>⟨e.1,?_⟩
  have d:∃i,c b=f i+1:=⟨i,e.2⟩
  dsimp only;rw[dif_pos d];have o:=d.choose_spec;have n:=l d.choose i i4;rw[n]
theorem aa.take(H:aa B h0 h As)(n:Nat)(a:∀(i:Nat) (A2:HP),Bs[i]?=dB A2->As[n+i]?=dB A2):aa B h0 h Bs:=H.pick (λi=>n+i) (λ_ _ h=>i4) a
end
section
variable {B:aA} {i e:Nat}
theorem aa.own(H:aa B h0 h As)(i:Nat)(a:As[i]?=dB (ae e s k f l)):Own h e s k f l:=(H.at i a).1
theorem aa.seq(H:aa B h0 h As)(i:Nat)(a:As[i]?=dB (ae e s k f l))(c:∀x,ii (f x)=k):Seq h (λb=>b<h.size) s k f l:=(H.at i a).1.seq c (H.at i a).2
theorem aa.rd(H:aa B h0 h As)(i:Nat)(a:As[i]?=dB (rY s k f l)):Seq h (λb=>b<h.size) s k f l:=H.at i a
theorem aa.box(H:aa B h0 h As)(i:Nat)(b:As[i]?=dB (al a e cs)):cw h a e cs:=(H.at i b).1
theorem aa.nc(H:aa B h0 h As)(i:Nat)(p:As[i]?=dB (ae e s k f l)){β:Type}{o n:Nat}{g:β->ba}{l':List β}(m:aZ (λb=>¬s.on b) h h')(q:Own h' o s n g l'):aa B h0 h' (As.set i (ae o s n g l')):=
 H.step i p λ_ d j=>⟨m.mono λb _ a c=>a (d.2 b c),q,λb a=>⟨qY (j b (d.2 b a)) m.1,.inl (d.2 b a)⟩⟩
theorem aa.AQ(H:aa B h0 h As)(i:Nat)(l:As[i]?=dB (al a e cs)){c:ba}(j:aZ (λb=>b≠a.block) h h')(m:cw h' a e c):aa B h0 h' (As.set i (al a e c)):=
 H.step i l λq f g=>⟨j.mono λb _ k d=>k (by rw[d];exact f.2),m,⟨qY (g _ f.2) j.1,.inl f.2⟩⟩
theorem aa.freeze(H:aa B h0 h As)(i:Nat)(c:As[i]?=dB (ae e s k f l))(b:∀x,ii (f x)=k):aa B h0 h (As.set i (rY s k f l)):=H.gb i c λ_ a=>a.1.seq b a.2
theorem aa.set(o:C.Ok)(H:aa B h0 h As)(i:Nat)(g:As[i]?=dB (ae e s k f l))(p:∀x,ii (f x)=k)(q:C.T.get t=dB ti){x:Int}(n:Nat)(u:x=n)(r:n<ii l){b:eX}(y:α)(m:b.cells=(f y).toArray)(d:ti.size=k)
  (c:(f y).all (·.oneCell')=eR) {K:f8->Prop} (j:∀h',aa B h0 h' (As.set i (ae e s k f (l.set n y)))->K h'):
  ∃a:eY,(s.ptr=dB a/\0<=x/\x<((s.len:Nat):Int))/\az C.P (qf t (.pointer (dB (a.add (x.toNat*k)))) b) h λ_ h'=>K h':=
 (H.own i g).set o p q n u r y m d c λh' z w _=>j h' (H.nc i g w z)
theorem aa.push(G:C.Ok)(H:aa B h0 h As)(i:Nat)(O:As[i]?=dB (ae e s k f l))(A:bU C.toAO t e k z by_)(F:ii z=k)(p:0<by_/\by_<=128)(I:∀x,ii (f x)=k)
  (n:∀x,∀c∈f x,c.oneCell'=eR) (x:α) {parts:Array (Nat×eX)} (d:wF (λi=>dB (i*k,k)) (iR z 1).toArray parts.toList=dB ([x].flatMap f).toArray)
  (q:1*k<=2^20) (r:ii l+1<=2^32) {ty:Nat} {K:Sl->f8->Prop}
  (E:∀o h',aa B h0 h' (As.set i (ae e o k f (l++[x])))->K o h'):
  bV C.P (qq t 1 parts) (.one (.sc .slc)) h λv Q=>bV C.P (qt #[t,t] ty #[.slice s.ptr s.len s.cap,.slice v.ptr v.len v.cap]) (.one (.sc .slc)) Q K:=by
 obtain⟨J,y,c,L,a⟩:=H;have w:=a i _ O;have D:dO h c (i+1) e s k f l:=⟨w.1,λb j=>(w.2 b j).2⟩
 refine D.push G A F p I n x d q r λo h' g u=>E o h' ?_;refine aa.BJ J y L a (u.mono λb j N M=>N ⟨j,M⟩) ⟨g.own,λb j=>⟨g.own.lt j,?_⟩⟩;have:=g.bx b j;by_cases m:b<h.size
 ·rw[gE m]at this;exact .inl ⟨m,this⟩
 ·exact .inr i4
theorem aa.append(I:C.Ok)(H:aa B h0 h As)(i:Nat)(Q:As[i]?=dB (ae e s k f l))(y:bU C.toAO t e k z by_)(G:∃i e2,C.T.get t2=dB i/\i.db=.slice e2)(F:ii z=k)(o:0<by_/\by_<=128)(J:∀x,ii (f x)=k)
  (E:Seq h p v k f l2) (m:∀x,∀c∈f x,c.oneCell'=eR) (q:ii l+ii l2<=2^32) {ty:Nat} {K:Sl->f8->Prop}
  (D:∀n h',aa B h0 h' (As.set i (ae e n k f (l++l2)))->K n h'):
  bV C.P (qt #[t,t2] ty #[.slice s.ptr s.len s.cap,.slice v.ptr v.len v.cap]) (.one (.sc .slc)) h K:=by
 obtain⟨L,w,c,M,a⟩:=H;have u:=a i _ Q;have A:dO h c (i+1) e s k f l:=⟨u.1,λb g=>(u.2 b g).2⟩
 refine A.append I y G F o J E m q λn h' d r=>D n h' ?_;refine aa.BJ L w M a (r.mono λb g O N=>O ⟨g,N⟩) ⟨d.own,λb g=>⟨d.own.lt g,?_⟩⟩;have:=d.bx b g;by_cases j:b<h.size
 ·rw[gE j]at this;exact .inl ⟨j,this⟩
 ·exact .inr i4
theorem KD{h h':f8}{n:Nat}(i:n=h.size)(d:Own h' e s k f l)(g:s.ptr=dB ⟨n,0,eH⟩)(c:aZ (λ_=>True) h h'):Sp h h' [ae e s k f l]:=
 .one (any c) ⟨d,λb a=>⟨by obtain⟨o,a⟩:=a;rw[g]at a;cases a;omega,d.lt a⟩⟩
theorem aa.make(s:C.Ok)(H:aa B h0 h As)(f:α->ba)(p:bU C.toAO t e k z by_)(c:0<by_/\by_<=128)(i:α)(r:f i=z)(d:ii z=k){o D:IntKind}{n l:Int}(m b:Nat)(A:n=m)(v:l=b)(g:m<=b)(j:b<=2^32)
  {K:Sl->f8->Prop} (q:∀a h',a.len=m->a.cap=b->aa B h0 h' (As++[ae e a k f (qh m i)])->K a h'):
  bV C.P (qG t (.int o n) (.int D l)) (.one (.sc .slc)) h K:=
 run_make s p c i r d m b A v g j λa h' x y w u _=>q a h' (by rw[x.len];simp) w (H.comp (KD i0 x y u))
theorem aa.lit(m:C.Ok)(H:aa B h0 h As)(f:α->ba)(g:bU C.toAO t e k z by_)(c:ii z=k){n:Nat}{parts:Array (Nat×eX)}(l:List α)(p:ii l=n)(d:n*k<=2^20)
  (a:wF (λi=>dB (i*k,k)) (iR z n).toArray parts.toList=dB (l.flatMap f).toArray) {K:Sl->f8->Prop}
  (j:∀b h',aa B h0 h' (As++[ae e b k f l])->K b h'):
  bV C.P (qq t n parts) (.one (.sc .slc)) h K:=
 KC m g c l p d a λb h' x y o _=>j b h' (H.comp (KD i0 x y o))
theorem KE{h h':f8}(d:a.block=h.size)(c:cw h' a e cs)(b:aZ (λ_=>True) h h'):Sp h h' [al a e cs]:=
 .one (any b) ⟨c,i4,c.lt⟩
theorem aa.alloc(e:C.Ok)(H:aa B h0 h As)(b:C.T.get t=dB ti){K:eY->f8->Prop}(c:∀a h',aa B h0 h' (As++[al a t ti.zero])->K a h'):
  rq C.P (qN t eR (.tuple #[])) h K:=
 we e b λa h' x y d _=>c a h' (H.comp (KE x y d))
theorem aa.boxed(H:aa B h0 h As){P:Program}{v:eX}{K:eY->f8->Prop}(c:∀a h',aa B h0 h' (As++[al a t v.cells.toList])->K a h'):
  rq P (qO t v) h K:=
 TB λa h' x y b _=>c a h' (H.comp (KE x y b))
theorem aa.store(l:C.Ok)(H:aa B h0 h As)(i:Nat)(f:As[i]?=dB (al a e cs))(k:C.T.get t=dB ti)(off:Nat){v:eX}(vs:ba)(g:v.cells=vs.toArray)(d:ti.size=ii vs)
  (b:vs.all (·.oneCell')=eR) (c:off+ii vs<=ii cs) {K:Unit->f8->Prop}
  (j:∀h',aa B h0 h' (As.set i (al a e (cs.take off++vs++cs.drop (off+ii vs))))->K () h'):
  az C.P (qf t (.pointer (dB (a.add off))) v) h K:=
 run_store l (H.box i f) k off vs g d b c λh' x y _=>j h' (H.AQ i f y x)
theorem aa.jJ(l:C.Ok)(H:aa B h0 h As)(i:Nat)(j:As[i]?=dB (al a e cs))(k:C.T.get t=dB ti){v:eX}(vs:ba)(f:v.cells=vs.toArray)(c:ti.size=ii vs)
  (b:vs.all (·.oneCell')=eR) (d:ii vs<=ii cs) {K:Unit->f8->Prop}
  (g:∀h',aa B h0 h' (As.set i (al a e (vs++cs.drop vs.length)))->K () h'):
  az C.P (qf t (.pointer (dB a)) v) h K:=
 H.store l i j k 0 vs f c b i4 (λh' x=>g h' (by simpa using x))
theorem aa.nil(H:aa B h0 h As)(e k:Nat)(f:α->ba):aa B h0 h (As++[ae e ⟨eH,0,0⟩ k f []]):=
 H.comp (.one (aZ.refl _ _) ⟨Own.nil h e k f,λb a=>by obtain⟨o,a⟩:=a;cases a⟩)
theorem aa.ID(H:aa B h0 h As)(e k:Nat)(f:α->ba):aa B h0 h (As++[fN e ⟨eH,0,0⟩ k f []]):=
 H.comp (.one (aZ.refl _ _) ⟨[],λ_=>False,Own.nil h e 1 bp,λb a=>(by obtain⟨o,a⟩:=a;cases a),λ_ a=>a.elim,rfl,λi r l h=>m9⟩)
theorem aa.tk(hC:C.Ok)(H:aa B h0 h As)(i j:Nat)(z:i≠j){I:List (List α)}{r:Sl}{x:List α}(U:As[i]?=dB (fN e s k f I))(V:As[j]?=dB (rY r k f x))(Z:bU C.toAO t e 1 [.slice eH 0 0] 24)
  (ab:ii I+1<=2^32) {ty:Nat} {K:Sl->f8->Prop} (hk:∀O h',aa B h0 h' ((As.set j emp).set i (fN e O k f (I++[x])))->K O h'):
  bV C.P (qq t 1 #[(0,.slice r.ptr r.len r.cap)]) (.one (.sc .slc)) h λv w=>bV C.P (qt #[t,t] ty #[.slice s.ptr s.len s.cap,.slice v.ptr v.len v.cap]) (.one (.sc .slc)) w K:=by
 have X:=H.merge i j z U V (D:=⟨λh q=>∃(rs:List Sl) (g:aA),Own h e s 1 bp rs/\(∀b,s.on b->q b/\¬g b)/\(∀b,g b->q b)/\rs.length=ii I/\(∀(i:Nat) r l,rs[i]?=dB r->I[i]?=dB l->Seq h g r k f l)/\Seq h g r k f x,
  λ⟨rs,g,a,b,c,d,e,f⟩ hp=>⟨rs,g,a.ag hp λx n=>(b x n).1,b,c,d,λi r l w A=>(e i r l w A).ag (hp.mono λx _ n=>c x n),f.ag (hp.mono λx _ n=>c x n)⟩,
  λ⟨rs,g,a,b,c,d,e,f⟩ hq=>⟨rs,g,a,λx n=>⟨hq x (b x n).1,(b x n).2⟩,λx n=>hq x (c x n),d,e,f⟩⟩)
  (λg q2 hd hA hB=>by
   obtain⟨rs,q3,a,b,c,d,e'⟩:=hA;refine⟨rs,λb=>q3 b∨q2 b,a,λx n=>⟨.inl (b x n).1,λL=>L.elim (b x n).2 (hd x (b x n).1)⟩,λx n=>n.elim (λh=>.inl (c x h)) .inr,d,λi r l w A=>(e' i r l w A).mono λ_ h=>.inl h,Seq.mono hB λ_ h=>.inr h⟩)
 have u:i<ii As:=(qn.1 U).1;obtain⟨lo,W,c,zz,a⟩:=X;have Y:=a i _ (by rw[zC (Ne.symm z),zj u]);obtain⟨rs,g,a1,a2,a3,a4,a5,a6⟩:=Y;let T:Nat->Nat:=λb=> @ite _ (g b) (Classical.propDecidable _) (ii As+2) (c b);have F:∀b,g b->b<h.size/\c b=i+1:=a3;have ho:dO h T (i+1) e s 1 bp rs:=⟨a1,λb m=>by
  have:=a2 b m;show @ite _ (g b) (Classical.propDecidable _) _ _=_;rw[g0 this.2];exact this.1.2⟩
 refine ho.push hC Z i0 i5 (λ_=>rfl) jK r i0 i5 i4 λO h' y G=>hk O h' ?_;rw[vA _ _ (Ne.symm z)];rw[<-yz (l:=As) (i:=i),vA _ _ z];have M:∀b,g b->T b≠i+1:=λb m=>by
  show @ite _ (g b) (Classical.propDecidable _) _ _≠_;rw[f9 m];omega
 refine aa.BJ lo W zz a (G.mono λb m hn hc=>hn ⟨m,?_⟩) ⟨rs++[r],λb=>g b/\b<h.size,y.own,λb m=>?_,λb m=>⟨qY m.2 G.1,.inl ⟨m.2,(F b m.1).2⟩⟩,by simp[a4],λQ r' l' w A=>?_⟩
 ·by_cases E:g b
  ·exact(F b E).2
  ·have p:@ite _ (g b) (Classical.propDecidable _) (ii As+2) (c b)=i+1:=hc;rw[g0 E]at p;exact p
 ·have o:=y.bx b m;by_cases u:b<h.size
  ·rw[gE u]at o;have N:¬g b:=λE=>M b E o;have p:@ite _ (g b) (Classical.propDecidable _) (ii As+2) (c b)=i+1:=o;rw[g0 N]at p;exact⟨⟨y.own.lt m,.inl ⟨u,p⟩⟩,λL=>N L.1⟩
  ·exact⟨⟨y.own.lt m,.inr i4⟩,λL=>u L.2⟩
 ·have J:∀{S:Sl} {l:List α},Seq h g S k f l->Seq h' (λb=>g b/\b<h.size) S k f l:=λhs=>
   (hs.mono (q:=λb=>g b/\b<h.size) λb m=>⟨m,(F b m).1⟩).ag (G.mono λb _ m=>M b m.1)
  by_cases R:Q<ii rs
  ·rw[qo R]at w;rw[qo i4]at A;exact J (a5 Q r' l' w A)
  ·have:Q=ii rs:=by have:=(qn.1 w).1;simp at this;omega
   subst this;simp at w;rw[a4]at A;simp at A;subst w;subst A;exact J a6
theorem aa.rows(H:aa B h0 h As)(i:Nat){g:List (List α)}(m:As[i]?=dB (fN e s k f g)):∃rs,iu h (λb=>b<h.size) s k f g rs:=by obtain⟨rs,p,a,b,c,d,e⟩:=H.at i m;exact⟨rs,a.seq (λ_=>rfl) λx n=>(b x n).1,d,λi r l j o=>(e i r l j o).mono c⟩
end
theorem aad(vs:ba):∀(pre old post:ba),ii old=ii vs->((vs.zipIdx 0).foldl (λ(cs:Array eX) (p:eX×Nat)=>cs.setIfInBounds (ii pre+p.2) p.1) (pre++old++post).toArray)=(pre++vs++post).toArray:=by
 have b:∀(vs pre old post:ba) (k:Nat),ii old=ii vs->ii pre=ii pre->∀n,n+k=ii pre->((vs.zipIdx k).foldl (λ(cs:Array eX) (p:eX×Nat)=>cs.setIfInBounds (n+p.2) p.1) (pre++old++post).toArray)=(pre++vs++post).toArray:=by
  intro vs
  induction vs with
  |nil=>intro pre old post k a _ n _;rw[zc a];rfl
  |cons v vs ih=>
   intro pre old post k a _ n c;cases old with
   |nil=>simp at a
   |cons u old=>
    rw[List.zipIdx_cons,zE];have e:(pre++(u::old)++post).toArray.setIfInBounds (n+k) v=((pre++[v])++old++post).toArray:=by rw[c];apply yG;simp
    dsimp only;rw[e,ih (pre++[v]) old post (k+1) j9 i0 n i7];simp
 intro pre old post h;exact b vs pre old post 0 h i0 pre.length i4
theorem OD{a:Nat->Option (Nat×Nat)}{i:Nat}{v:eX}{vs pre old post:ba}{rest:List (Nat×eX)}(b:v.cells=vs.toArray)(c:a i=dB (ii pre,ii vs))(d:ii old=ii vs):
  wF a (pre++old++post).toArray ((i,v)::rest)=wF a (pre++vs++post).toArray rest:=by
 conv=>lhs;unfold wF
 simp only[c,b];rw[g0 i7];congr 1;have:=aad vs pre old post d;simpa using this
theorem DP(g:C.Ok)(o:C.T.get t=dB i){m:List (Nat×TypeId)}(d:i.db=.struct m){c:List (Nat×Nat)}(k:placesOf C.T m=dB c){vs:List (Nat×eX)}{cells:Array eX}
  (a:wF (λn=>c[n]?) i.zero.toArray vs=dB cells):aK C.P (Instr.build t vs.toArray) (.agg cells):=by
 obtain⟨z,q,e⟩:=ro g.toOk o;have b:i.zero.toArray=z.cells:=by rw[<-e]
 have l:=g.db o;rw[d]at l;obtain⟨p,r,rfl⟩:=oB l;refine q.bind ((aR r).bind ?_);have j:aK C.P (p.mapM λf=>(do pure (f.offset,<-sizeOf f.type):Sem (Nat×Nat))) c.toArray:=by rw[Array.mapM_eq_mapM_toList];intro w;have:=tG g.toOk k w;rw[map_eq_pure_bind,Sem.run_bind,this];rfl
 refine j.bind ?_;have h:wF (λn=>c.toArray[n]?) z.cells vs.toArray.toList=dB cells:=by rw[<-b];simpa using a
 rw[h];exact .pure
theorem take_set{α:Type}(l:List α)(n:Nat)(x:α)(h:n<ii l):l.take n++[x]++l.drop (n+1)=l.set n x:=by rw[ye,f9 h];simp
section
variable {B:aA} {e:Nat}
theorem aa.storeAt(l:C.Ok)(H:aa B h0 h As)(i:Nat)(j:As[i]?=dB (al a e cs))(k:C.T.get t=dB ti){off:Nat}{v:eX}(f:v.cells=#[v])(d:ti.size=1)
  (b:v.oneCell'=eR) (c:off<ii cs) {K:Unit->f8->Prop}
  (g:∀h',aa B h0 h' (As.set i (al a e (cs.set off v)))->K () h'):
  az C.P (qf t (.pointer (dB (a.add off))) v) h K:=
 H.store l i j k off [v] f d l4 i7 λh' x=>g h' (by rw[<-take_set _ _ _ c];simpa using x)
theorem aa.storeAll(l:C.Ok)(H:aa B h0 h As)(i:Nat)(j:As[i]?=dB (al a e cs))(k:C.T.get t=dB ti){v:eX}(vs:ba)(f:v.cells=vs.toArray)(c:ti.size=ii vs)
  (b:vs.all (·.oneCell')=eR) (d:ii vs=ii cs) {K:Unit->f8->Prop}
  (g:∀h',aa B h0 h' (As.set i (al a e vs))->K () h'):
  az C.P (qf t (.pointer (dB a)) v) h K:=
 H.jJ l i j k vs f c b i4 λh' x=>g h' (by rw[zk i4,qM]at x;exact x)
end
theorem sE(n:Nat)(a:n<=9223372036854775807:=by omega):qc xz (n:Int)=n:=af _
abbrev Rd{α:Type}(h:f8)(s:Sl)(k:Nat)(f:α->ba)(l:List α):Prop:=Seq h (λb=>b<h.size) s k f l
abbrev fW{α:Type}(h:f8)(s:Sl)(k:Nat)(f:α->ba)(a:List (List α)):Prop:=∃rs,iu h (λb=>b<h.size) s k f a rs
section
variable {B:aA} {e:Nat}
theorem fW.up(a:fW h s k f ll)(c:aZ (λb=>b<h.size) h h'):fW h' s k f ll:=by obtain⟨rs,a⟩:=a;exact⟨rs,iu.up a c⟩
theorem fW.len(a:fW h s k f ll):s.len=ii ll:=by obtain⟨rs,a⟩:=a;exact a.Oy
theorem fW.get(b:fW h s k f ll){i:Int}(n:Nat)(c:i=n)(d:n<ii ll){K:Sl->Prop}(e:∀r,Rd h r k f ll[n]->K r):
  ∃a:eY,(s.ptr=dB a/\0<=i/\i<((s.len:Nat):Int))/\∃x:Sl,f7 h (a.add (i.toNat*1))=dB (.slice x.ptr x.len x.cap)/\K x:=by
 obtain⟨rs,b⟩:=b;exact b.get n c d λr g _=>e r g
theorem Seq.isSome{p:aA}(a:Seq h p s k f l)(c:l≠[]):s.ptr.isNone=eS:=by
 cases l with
 |nil=>exact absurd i0 c
 |cons x t=>obtain⟨b,o,d,_⟩:=a.elem 0 x i9;rw[d];rfl
theorem Seq.isNil{p:aA}(b:Seq h p s k f l)(a:s.ptr.isNone=eR):l=[]:=by
 cases l with
 |nil=>rfl
 |cons x t=>rw[b.isSome i9]at a;cases a
theorem aa.DQ(H:aa B h0 h As)(i:Nat)(a:As[i]?=dB (fN e s k f ll)):fW h s k f ll:=H.rows i a
end
section
variable {B:aA} {A:HP}
theorem aa.del(H:aa B h0 h As)(i:Nat):aa B h0 h (As.eraseIdx i):=
 H.pick (λj=>if j<i then j else j+1) (λa b d=>by split at d<;>split at d<;>omega) λj A e=>by
  rw[List.getElem?_eraseIdx]at e;split at e
  ·rename_i c;rw[f9 c];exact e
  ·rename_i c;rw[g0 c];exact e
theorem aa.call(H:aa B h0 h As)(i:Nat)(G:As[i]?=dB A)(q:aA)(L:∀q':aA,A.p h q'->∀b,q b->q' b)(R:aa (λb=>b<h.size/\¬q b) h h' (D::Bs)):aa B h0 h' (As.set i D++Bs):=by
 classical
 obtain⟨w,y,g,v,E⟩:=H;obtain⟨_,t,j,J,z⟩:=R;have s:=y.1;have x:=(qn.1 G).1;have l:∀b,q b->b<h.size/\g b=i+1:=L _ (E i A G);have u:∀b,B b->b<h.size/\¬q b:=λb a=>⟨qY (w b a) s,λm=>by have:=v b a;have:=l b m;omega⟩
 let c:Nat->Nat:=λb=>if b<h.size/\¬q b then(if g b=i+1 then 0 else g b)else if j b=0 then 0 else if j b=1 then i+1 else As.length+j b-1
 have e:∀b,b<h.size/\¬q b->g b≠i+1->c b=g b:=λb a K=>by show ite _ _ _=_;rw[f9 a,g0 K]
 have f:∀b,j b≠0->c b=if j b=1 then i+1 else As.length+j b-1:=λb a=>by
  have:¬(b<h.size/\¬q b):=λm=>a (J b m);show ite _ _ _=_;rw[g0 this,g0 a]
 refine⟨w,y.then t λb _ a=>u b a,c,λb a=>?_,λk n d=>?_⟩
 ·have:=v b a;rw[e b (u b a) i4];exact this
 ·by_cases F:k<ii As
  ·rw[qo (by simpa using F),zb]at d;split at d
   ·rename_i o;subst o;injection d with d
    subst d;refine D.mono (z 0 D i0) λb a=>⟨a.1,?_⟩
    rw[f b i4,f9 a.2]
   ·rename_i o;have r:∀b,b<h.size/\g b=k+1->b<h.size/\¬q b:=λb a=>⟨a.1,λm=>by have:=l b m;omega⟩
    refine n.mono (n.loc (E k n d) (t.mono λb _ a=>r b a)) λb a=>⟨qY a.1 t.1,?_⟩
    rw[e b (r b a) i4];exact a.2
  ·rw[qj (by simpa using F)]at d;rw[zl]at d;have I:=z (k-ii As+1) n o8;refine n.mono I λb a=>⟨a.1,?_⟩
   rw[f b i4,g0 i4];omega
end
section
variable {B:aA} {A:HP} {e:Nat}
theorem aa.off(H:aa B h0 h As)(i j:Nat)(o:i≠j)(n:As[i]?=dB (ae e s k f l))(g:As[j]?=dB A):A.p h (λb=>b<h.size/\¬s.on b):=by
 obtain⟨_,_,c,_,a⟩:=H;refine A.mono (a j A g) λb m=>⟨m.1,λd=>?_⟩
 have:=(a i _ n).2 b d;omega
theorem aa.base(H:aa B h0 h As)(i:Nat)(j:As[i]?=dB (ae e s k f l)){b:Nat}(g:B b):¬s.on b:=λd=>by
 obtain⟨_,_,c,z,a⟩:=H;have:=(a i _ j).2 b d;have:=z b g;omega
theorem aa.aes(H:aa B h0 h (As++[D]))(i:Nat)(k:i<ii As):aa B h0 h (As.set i D):=
 H.pick (λj=>if j<ii As then(if j=i then As.length else j)else j+1) (λa b c=>by split at c<;>split at c<;>(try split at c)<;>(try split at c)<;>omega) λj A e=>by
  have f:j<ii As:=by have:=(qn.1 e).1;simpa using this
  rw[f9 f];rw[zb]at e;split at e
  ·rename_i d;subst d;rw[f9 i0,qj (qm _),ze];exact e
  ·rename_i d;rw[g0 λg=>d g.symm,qo f];exact e
theorem aa.ach(H:aa B h0 h As)(i j:Nat){A2:HP}(n:As[i]?=dB A)(m:As[j]?=dB A2):aa B h0 h ((As.set i A2).set j A):=by
 have g:=(qn.1 n).1;have k:=(qn.1 m).1;refine H.pick (λx=>if x=j then i else if x=i then j else x) (λa b c=>by split at c<;>split at c<;>(try split at c)<;>(try split at c)<;>omega) λx o d=>?_;rw[zb,zb]at d;by_cases e:j=x
 ·subst e;simp[k]at d;subst d;simpa using n
 ·by_cases l:i=x
  ·subst l;simp[e,g]at d;subst d;rw[g0 λf=>e f.symm,f9 rfl];exact m
  ·simp[e,l]at d;rw[g0 λf=>e f.symm,g0 λf=>l f.symm];exact d
end
def bB{α:Type}(e k:Nat)(f:α->ba)(rs:List Sl)(a:List (List α)):List HP:=zm (λr l=>ae e r k f l) rs a
section
variable {e:Nat}
theorem mf(h:ii rs=ii ll):ii (bB e k f rs ll)=ii ll:=by simp[bB,h]
theorem fV(h:ii rs=ii ll)(i:Nat)(a:i<ii ll):(bB e k f rs ll)[i]?=dB (ae e (rs[i]'(by omega)) k f ll[i]):=by
 have b:i<ii rs:=i4
 simp[bB,wg,qd a,qd b]
theorem tO(h:ii rs=ii ll)(r:Sl)(l:List α):bB e k f (rs++[r]) (ll++[l])=bB e k f rs ll++[ae e r k f l]:=by unfold bB;rw[yH h];rfl
theorem kJ(h:ii rs=ii ll)(i:Nat)(r:Sl)(l:List α):(bB e k f rs ll).set i (ae e r k f l)=bB e k f (rs.set i r) (ll.set i l):=by
 apply zI;intro j;simp only[bB,zb,wg,List.length_zipWith];by_cases a:i=j
 ·subst a;by_cases b:i<ii ll
  ·have:i<ii rs:=i4
   simp[b,this];omega
  ·have:¬i<ii rs:=i4
   simp[b];omega
 ·simp[a]
theorem OE(h:ii rs=ii ll)(i:Nat)(a:i<ii ll)(l:List α):(bB e k f rs ll).set i (ae e (rs[i]'(by omega)) k f l)=bB e k f rs (ll.set i l):=by rw[kJ h,List.set_getElem_self]
theorem aa.OF{B:aA}{j h:f8}{s:Sl}{a:Nat}(H:aa B j h (ae a s 1 bp rs::bB e k f rs ll))(c:ii rs=ii ll)(m:∀x,ii (f x)=k):fW h s k f ll:=by
 refine⟨rs,H.seq 0 i0 λ_=>rfl,c,λi r l g b=>?_⟩;have d:i<ii ll:=(qn.1 b).1;have n:=fV (e:=e) (k:=k) (f:=f) c i d;have h3:=H.seq (i+1) l6 m;have a:rs[i]'(by omega)=r:=by rw[qd i4]at g;simpa using g
 have e2:ll[i]=l:=by rw[qd d]at b;simpa using b
 rw[a,e2]at h3;exact h3
end
theorem Seq.NY{X:Type}{g:X->eX}(d:Seq h p s 1 f l){i:Int}(n:Nat)(k:i=n)(m:n<ii l)(x:X)(r:f l[n]=[g x]){K:eY->X->Prop}(j:∀a:eY,f7 h (a.add (i.toNat*1))=dB (g x)->K a x):
  ∃a:eY,(s.ptr=dB a/\0<=i/\i<((s.len:Nat):Int))/\∃x:X,f7 h (a.add (i.toNat*1))=dB (g x)/\K a x:=by
 subst k;obtain⟨b,o,q,_,h3⟩:=d.elem n l[n] (qd m);rw[r]at h3;have e:=h3.1;rw[add_eq,wJ]at e;have c:f7 h ((⟨b,o,eH⟩:eY).add ((n:Int).toNat*1))=dB (g x):=by rw[add_eq];simpa using e
 exact⟨_,⟨q,i4,by rw[d.len];omega⟩,x,c,j _ c⟩
theorem Seq.mv{h:f8}{p:aA}{s:Sl}{rs:List Sl}(d:Seq h p s 1 bp rs){i:Int}(n:Nat)(j:i=n)(k:n<ii rs){K:eY->Sl->Prop}
  (f:∀a:eY,f7 h (a.add (i.toNat*1))=dB (.slice rs[n].ptr rs[n].len rs[n].cap)->p (a.add (i.toNat*1)).block->K a rs[n]):
  ∃a:eY,(s.ptr=dB a/\0<=i/\i<((s.len:Nat):Int))/\∃x:Sl,f7 h (a.add (i.toNat*1))=dB (.slice x.ptr x.len x.cap)/\K a x:=by
 subst j;obtain⟨b,o,l,g,h3⟩:=d.elem n rs[n] (qd k);have e:=h3.1;rw[add_eq,wJ]at e;have c:f7 h ((⟨b,o,eH⟩:eY).add ((n:Int).toNat*1))=dB (.slice rs[n].ptr rs[n].len rs[n].cap):=by rw[add_eq];simpa using e
 exact⟨_,⟨l,i4,by rw[d.len];omega⟩,rs[n],c,f _ c (by rw[add_eq];exact g)⟩
section
variable {B:aA} {e:Nat}
theorem Own.cut(a:Own h e s k f l)(c:∀x,ii (f x)=k)(j:Nat)(d:j<=ii l):Own h e ⟨s.ptr,j,s.cap⟩ k f (l.take j):=by
 have g:=a.len;refine⟨i7,?_⟩;rcases a.head with⟨h1,h2,h3⟩|⟨b,rest,h1,h2,h3,h4⟩
 ·subst h3;exact .inl ⟨h1,h2,i9⟩
 ·refine .inr ⟨b,(l.drop j).flatMap f++rest,h1,?_,?_,i6⟩
  ·rw[<-qp,<-zg,qF];exact h2
  ·rw[qw,dK c,zi,h3,<-Nat.add_mul];dsimp only;congr 1;omega
end
section
variable {B:aA} {e:Nat}
end
variable {ty:Nat}
section
variable {e:Nat} {B:aA}
theorem Own.IE(F:C.Ok)(D:bU C.toAO t e k z by_)(A:∀x,ii (f x)=k)(u:Own h e s k f l)(E:Seq h p v k f l2)(g:∀x,∀c∈f x,c.oneCell'=eR){K:Int->f8->Prop}
  (w:∀n h',Own h' e s k f (l2.take l.length++l.drop l2.length)->aZ (λb=>¬s.on b) h h'->K n h'):
  bV C.P (yy #[t,t2] ty #[.slice s.ptr s.len s.cap,.slice v.ptr v.len v.cap]) (.one (.sc (.int .i64))) h K:=by
 unfold bV yy;simp only[zX,yE,qy];refine az.bind (az.always (aR (D.under F)) ?_);refine az.bind (az.pure' ?_);refine az.bind (az.always (D.size F) ?_);have a:=u.len;have d:=E.len;obtain⟨m,i⟩:∃m,m=Nat.min v.len s.len:=⟨_,rfl⟩
 rw[<-i];have o:m<=ii l2:=by rw[i,<-d];exact Nat.min_le_left _ _
 have j:m<=ii l:=by rw[i,<-a];exact Nat.min_le_right _ _
 have G:m=min l2.length l.length:=by rw[i,a,d]
 have B:=E.take m o;have H:l2.take l.length++l.drop l2.length=l2.take m++l.drop m:=by
  rcases Nat.le_total l2.length l.length with hh|hh
  ·rw[qi hh,show m=ii l2 by omega,qV]
  ·rw[show m=ii l by omega,zk hh,List.drop_length]
 rw[H]at w;have q:wN k m (.slice v.ptr v.len v.cap)=wN k m (.slice v.ptr m v.cap):=by cases v.ptr<;>rfl
 rw[q];refine az.bind (gG (v:=⟨v.ptr,m,v.cap⟩) A B ?_);rcases u.head with⟨h1,h2,h3⟩|⟨b,rest,h1,h2,h3,h4⟩
 ·rw[h1];subst h3;have:m=0:=by simpa using j
  subst this;refine az.pure' ⟨_,i0,w _ h ?_ (aZ.refl _ _)⟩;simpa using u
 ·rw[h1];refine az.bind ?_;have y:l.flatMap f++rest=(l.take m).flatMap f++((l.drop m).flatMap f++rest):=by rw[<-qp,<-zg,qF]
  rw[y]at h2;refine fx (e:=e) (pre:=[]) (old:=(l.take m).flatMap f) (post:=(l.drop m).flatMap f++rest) (by simpa using h2) (by rw[dK A,dK A,qU,qU];congr 1;omega) i0 ?_ ?_
  ·intro c I;obtain⟨x,_,r⟩:=zS.1 I;exact g x c r
  ·refine az.pure' ⟨_,i0,w _ _ ⟨by rw[a,qw,qU,zi];omega,.inr ⟨b,rest,h1,?_,h3,h4⟩⟩ (aZ.jI h2 λJ=>J ⟨0,h1⟩)⟩;rw[iI h2,f9 i0,zg];simp
theorem aa.IE(o:C.Ok)(H:aa B h0 h As)(i:Nat)(b:As[i]?=dB (ae e s k f l))(m:bU C.toAO t e k z by_)(g:∀x,ii (f x)=k)(d:Seq h p v k f l2)(a:∀x,∀c∈f x,c.oneCell'=eR){K:Int->f8->Prop}
  (j:∀n h',aa B h0 h' (As.set i (ae e s k f (l2.take l.length++l.drop l2.length)))->K n h'):
  bV C.P (yy #[t,t2] ty #[.slice s.ptr s.len s.cap,.slice v.ptr v.len v.cap]) (.one (.sc (.int .i64))) h K:=
 (H.own i b).IE o m g d a λn h' x y=>j n h' (H.nc i b y x)
end
def KF(d:Sl)(w i:Nat):Sl:=⟨if d.cap=i*w then d.ptr else d.ptr.map (·.add (i*w*1)),(i+1)*w-i*w,d.cap-i*w⟩
def DR{α:Type}(l:List α)(w i:Nat):List α:=(l.drop (i*w)).take w
theorem Seq.piece{α:Type}{h:f8}{p:aA}{s:Sl}{f:α->ba}{l:List α}(a:Seq h p s 1 f l)(b:s.len<=s.cap)(w i:Nat)(g:(i+1)*w<=ii l):Seq h p (KF s w i) 1 f (DR l w i):=by
 have c:=a.drop (i*w) b;have e:(i+1)*w=i*w+w:=zH i w;have d:=c.take w l5;have e2:(i+1)*w-i*w=w:=i4
 unfold KF DR;rw[e2];exact d
theorem adg{α:Type}{l:List α}{w i:Nat}(a:(i+1)*w<=ii l):ii (DR l w i)=w:=by have e:(i+1)*w=i*w+w:=zH i w;simp only[DR,qU,zi];omega
def HP.sep(A D:HP):HP:=
 ⟨λh q=>∃f g:aA,(∀b,f b->¬g b)/\(∀b,f b->q b)/\(∀b,g b->q b)/\A.p h f/\D.p h g,
  λ⟨f,g,a,b,c,d,e⟩ hp=>⟨f,g,a,b,c,A.loc d (hp.mono λx _ i=>b x i),D.loc e (hp.mono λx _ i=>c x i)⟩,
  λ⟨f,g,a,b,c,d,e⟩ hq=>⟨f,g,a,λx i=>hq x (b x i),λx i=>hq x (c x i),d,e⟩⟩
def HP.ex{ι:Type}(F:ι->HP):HP:=⟨λh q=>∃i,(F i).p h q,λ⟨i,a⟩ hp=>⟨i,(F i).loc a hp⟩,λ⟨i,a⟩ hq=>⟨i,(F i).mono a hq⟩⟩
def HP.and(A:HP)(P:Prop):HP:=⟨λh q=>A.p h q/\P,λa b=>⟨A.loc a.1 b,a.2⟩,λa c=>⟨A.mono a.1 c,a.2⟩⟩
variable {E:HP}
section
variable {B:aA} {A:HP} {i:Nat}
theorem aa.split(H:aa B h0 h As)(i:Nat)(n:As[i]?=dB (A.sep D)):aa B h0 h (As.set i A++[D]):=by
 classical
 obtain⟨q,p,c,z,a⟩:=H;obtain⟨w,u,o,m,s2,r,t⟩:=a i _ n;have s:=(qn.1 n).1;refine⟨q,p,λb=>if u b then As.length+1 else c b,λb e=>?_,λj X d=>?_⟩
 ·have v:=z b e;dsimp only;rw[g0];exact v;intro g;have:=(s2 b g).2;omega
 ·by_cases l:j<ii As
  ·rw[qo (by simpa using l),zb]at d;split at d
   ·rename_i f;subst f
    first|rw[f9 l]at d|skip
    injection d with d
    subst d;refine A.mono r λb e=>⟨(m b e).1,?_⟩
    dsimp only;rw[g0 (o b e)];exact(m b e).2
   ·rename_i f;refine X.mono (a j X d) λb e=>⟨e.1,?_⟩
    dsimp only;rw[g0];exact e.2;intro g;have:=(s2 b g).2;omega
  ·rw[qj (by simpa using l)]at d;rw[zl]at d;have k:j=ii As:=by have:=(qn.1 d).1;simp at this;omega
   subst k;simp at d;subst d;refine D.mono t λb e=>⟨(s2 b e).1,?_⟩
   dsimp only;rw[f9 e]
theorem aa.join(H:aa B h0 h As)(i j:Nat)(b:i≠j)(f:As[i]?=dB A)(d:As[j]?=dB D):aa B h0 h ((As.set i (A.sep D)).set j emp):=
 H.merge i j b f d λk l g e c=>⟨k,l,g,λ_ a=>.inl a,λ_ a=>.inr a,e,c⟩
theorem aa.UD{ι:Type}{F:ι->HP}(H:aa B h0 h As)(i:Nat)(f:As[i]?=dB (HP.ex F)):∃x,aa B h0 h (As.set i (F x)):=by
 obtain⟨e,p,c,z,a⟩:=H;obtain⟨x,g⟩:=a i _ f;refine⟨x,e,p,c,z,λj X b=>?_⟩;rw[zb]at b;split at b
 ·rename_i d;subst d;split at b
  ·injection b with b;subst b;exact g
  ·cases b
 ·exact a j X b
theorem aa.close'{ι:Type}{F:ι->HP}(H:aa B h0 h As)(i:Nat)(x:ι)(a:As[i]?=dB (F x)):aa B h0 h (As.set i (HP.ex F)):=H.gb i a λ_ b=>⟨x,b⟩
theorem aa.fact{P:Prop}(H:aa B h0 h As)(i:Nat)(a:As[i]?=dB (A.and P)):P:=(H.at i a).2
theorem aa.aci{P:Prop}(H:aa B h0 h As)(i:Nat)(a:As[i]?=dB (A.and P)):aa B h0 h (As.set i A):=H.gb i a λ_ b=>b.1
theorem aa.afS{P:Prop}(H:aa B h0 h As)(i:Nat)(b:As[i]?=dB A)(a:P):aa B h0 h (As.set i (A.and P)):=H.gb i b λ_ c=>⟨c,a⟩
theorem aa.cons(H:aa B h0 h As)(i:Nat)(g:As[i]?=dB A):aa B h0 h (A::As.set i emp):=by
 obtain⟨k,p,c,z,a⟩:=H;have l:=(qn.1 g).1;refine⟨k,p,λb=>if c b=i+1 then 1 else if c b=0 then 0 else c b+1,λb e=>?_,λj X d=>?_⟩
 ·have:=z b e;dsimp only;rw[g0 i4,f9 this]
 ·cases j with
  |zero=>
   simp at d;subst d;refine A.mono (a i A g) λb e=>⟨e.1,by dsimp only;rw[f9 e.2]⟩
  |succ j=>
   rw[qy,zb]at d;split at d
   ·rename_i f;injection d with d;subst d;trivial
   ·rename_i f;refine X.mono (a j X d) λb e=>⟨e.1,by dsimp only;rw[g0 i4,g0 i4];omega⟩
theorem aa.rest(H:aa B h0 h (A::As)):aa B h0 h As:=H.pick (λj=>j+1) (λa b h=>i4) λj X c=>n9
end
structure iZ (α β:Type) where
 p:f8->aA->α->β->Prop
 loc:∀{h h':f8} {q:aA} {a:α} {b:β},p h q a b->aZ q h h'->p h' q a b
 mono:∀{h:f8} {q q':aA} {a:α} {b:β},p h q a b->(∀x,q x->q' x)->p h q' a b
def cF{α:Type}(k:Nat)(f:α->ba):iZ Sl (List α):=⟨λh q s l=>Seq h q s k f l,λa b=>a.ag b,λa c=>a.mono c⟩
def rZ{α:Type}(k:Nat)(f:α->ba):iZ Sl (List α):=⟨λh q s l=>Seq h q s k f l/\(l=[]->s.ptr=eH),λa b=>⟨a.1.ag b,a.2⟩,λa c=>⟨a.1.mono c,a.2⟩⟩
def bH{α β:Type}(E:iZ α β)(k:Nat)(f:α->ba):iZ Sl (List β):=
 ⟨λh q s ll=>∃rs:List α,Seq h q s k f rs/\rs.length=ii ll/\∀(i:Nat) r l,rs[i]?=dB r->ll[i]?=dB l->E.p h q r l,
  λ⟨rs,a,b,c⟩ hp=>⟨rs,a.ag hp,b,λi r l d e=>E.loc (c i r l d e) hp⟩,λ⟨rs,a,b,c⟩ hq=>⟨rs,a.mono hq,b,λi r l d e=>E.mono (c i r l d e) hq⟩⟩
def aet{α β:Type}(E:iZ α β)(P:α->β->Prop):iZ α β:=⟨λh q a b=>E.p h q a b/\P a b,λa c=>⟨E.loc a.1 c,a.2⟩,λa d=>⟨E.mono a.1 d,a.2⟩⟩
def EA{α β:Type}(E:iZ α β)(a:α)(b:β):HP:=⟨λh q=>E.p h q a b,λx c=>E.loc x c,λx d=>E.mono x d⟩
abbrev dQ{α β:Type}(E:iZ α β)(h:f8)(a:α)(b:β):Prop:=E.p h (λb=>b<h.size) a b
def ce{α β:Type}(e:TypeId)(s:Sl)(k:Nat)(f:α->ba)(E:iZ α β)(m:List β):HP:=
 ⟨λh q=>∃(rs:List α) (j:aA),Own h e s k f rs/\(∀b,s.on b->q b/\¬j b)/\(∀b,j b->q b)/\rs.length=ii m/\∀(i:Nat) r l,rs[i]?=dB r->m[i]?=dB l->E.p h j r l,
  λ⟨rs,j,a,b,c,d,e⟩ hp=>⟨rs,j,a.ag hp λx g=>(b x g).1,b,c,d,λi r l o n=>E.loc (e i r l o n) (hp.mono λx _ g=>c x g)⟩,
  λ⟨rs,j,a,b,c,d,e⟩ hq=>⟨rs,j,a,λx g=>⟨hq x (b x g).1,(b x g).2⟩,λx g=>hq x (c x g),d,e⟩⟩
variable {β:Type} {b:β}
section
variable {E:iZ α β} {ll:List β} {a:α}
theorem dQ.up(x:dQ E h a b)(c:aZ (λb=>b<h.size) h h'):dQ E h' a b:=E.mono (E.loc x c) λ_ d=>qY d c.1
theorem bH.jl(x:(bH E k f).p h q s ll):∃rs:List α,Seq h q s k f rs/\rs.length=ii ll/\∀(i:Nat) (d:i<ii rs) (e:i<ii ll),E.p h q rs[i] ll[i]:=by obtain⟨rs,a,b,c⟩:=x;exact⟨rs,a,b,λi d e=>c i _ _ (qd d) (qd e)⟩
theorem bH.len(x:(bH E k f).p h q s ll):s.len=ii ll:=by obtain⟨rs,a,b,c⟩:=x;rw[a.len,b]
theorem bH.nil(h:f8)(q:aA)(a:bm)(c:Nat):(bH E k f).p h q ⟨a,0,c⟩ []:=⟨[],Seq.nil h q c a k f,i0,λi r l b=>by simp at b⟩
theorem bH.take(x:(bH E k f).p h q s ll)(n:Nat)(j:n<=ii ll):(bH E k f).p h q ⟨s.ptr,n,s.cap⟩ (ll.take n):=by
 obtain⟨rs,a,b,c⟩:=x;refine⟨rs.take n,a.take n i4,l4,λi r l d e=>?_⟩;rw[vg]at d e;split at d
 ·rename_i g;rw[f9 g]at e;exact c i r l d e
 ·cases d
theorem bH.get{X:Type}{g:X->eX}(x:(bH E 1 f).p h q s ll){i:Int}(n:Nat)(b:i=n)(c:n<ii ll)(u:α->X)(d:∀r,f r=[g (u r)]){K:X->Prop}(j:∀r,E.p h q r ll[n]->K (u r)):
  ∃a:eY,(s.ptr=dB a/\0<=i/\i<((s.len:Nat):Int))/\∃x:X,f7 h (a.add (i.toNat*1))=dB (g x)/\K x:=by
 obtain⟨rs,e,k,h3⟩:=bH.jl x;exact e.bD n b i4 (u (rs[n]'(by omega))) (d _) (j _ (h3 n i4 c))
theorem bH.mv{E:iZ Sl β}(x:(bH E 1 bp).p h q s ll){i:Int}(n:Nat)(b:i=n)(c:n<ii ll){K:Sl->Prop}(d:∀r,E.p h q r ll[n]->K r):
  ∃a:eY,(s.ptr=dB a/\0<=i/\i<((s.len:Nat):Int))/\∃x:Sl,f7 h (a.add (i.toNat*1))=dB (.slice x.ptr x.len x.cap)/\K x:=
 bH.get (g:=λr:Sl=>Value.slice r.ptr r.len r.cap) x n b c id (λ_=>rfl) d
theorem bH.tofW{γ:Type}{d:Nat}{g:γ->ba}{l:List (List γ)}(x:dQ (bH (cF d g) 1 bp) h s l):fW h s d g l:=by obtain⟨rs,a,b,c⟩:=x;exact⟨rs,a,b,c⟩
theorem bH.impl{α':Type}{e:Type}{E':iZ α e}(u:β->e)(g:∀{h q a b},E.p h q a b->E'.p h q a (u b))(x:(bH E k f).p h q s ll):(bH E' k f).p h q s (ll.map u):=by
 obtain⟨rs,a,b,c⟩:=x;refine⟨rs,a,l4,λi r l j d=>?_⟩;rw[qR]at d;cases h3:ll[i]? with
 |none=>rw[h3]at d;cases d
 |some y=>rw[h3]at d;simp at d;subst d;exact g (c i r y j h3)
end
section
variable {E:iZ α β} {e:Nat} {B:aA} {ll:List β}
theorem aa.DS(H:aa B h0 h As)(e k:Nat)(f:α->ba)(E:iZ α β):aa B h0 h (As++[ce e ⟨eH,0,0⟩ k f E []]):=
 H.comp (.one (aZ.refl _ _) ⟨[],λ_=>False,Own.nil h e k f,λb a=>(by obtain⟨o,a⟩:=a;cases a),λ_ a=>a.elim,rfl,λi r l h=>m9⟩)
theorem aa.LR(H:aa B h0 h As)(i:Nat)(m:As[i]?=dB (ce e s k f E ll))(j:∀x,ii (f x)=k):dQ (bH E k f) h s ll:=by obtain⟨rs,p,a,b,c,d,e⟩:=H.at i m;exact⟨rs,a.seq j λx n=>(b x n).1,d,λi r l g o=>E.mono (e i r l g o) c⟩
theorem aa.TC(H:aa B h0 h As)(i:Nat)(m:As[i]?=dB (ce e s k f E ll))(j:∀x,ii (f x)=k):aa B h0 h (As.set i (EA (bH E k f) s ll)):=
 H.gb i m λq ⟨rs,p,a,b,c,d,e⟩=>⟨rs,a.seq j λx n=>(b x n).1,d,λi r l g o=>E.mono (e i r l g o) c⟩
theorem aa.eAt{a:α}{b:β}(H:aa B h0 h As)(i:Nat)(c:As[i]?=dB (EA E a b)):dQ E h a b:=H.at i c
theorem aa.UE(H:aa B h0 h As)(i:Nat)(g:As[i]?=dB (ce e s k f E ll)):s.len=ii ll/\s.len<=s.cap:=by obtain⟨rs,j,a,b,c,d,e⟩:=H.at i g;exact⟨by rw[a.len,d],a.cap⟩
theorem aa.rv(hC:C.Ok)(H:aa B h0 h As)(i j:Nat)(A:i≠j){a:α}{b:β}(hi:As[i]?=dB (ce e s k f E ll))(hj:As[j]?=dB (EA E a b))(he:bU C.toAO t e k z by_)(hz:ii z=k)(V:0<by_/\by_<=128)(hw:∀x,ii (f x)=k)
  (O:∀x,∀c∈f x,c.oneCell'=eR) {parts:Array (Nat×eX)} (L:wF (λi=>dB (i*k,k)) (iR z 1).toArray parts.toList=dB ([a].flatMap f).toArray) (U:1*k<=2^20)
  (ab:ii ll+1<=2^32) {ty:Nat} {K:Sl->f8->Prop} (hk:∀T h',aa B h0 h' ((As.set j emp).set i (ce e T k f E (ll++[b])))->K T h'):
  bV C.P (qq t 1 parts) (.one (.sc .slc)) h λv y=>bV C.P (qt #[t,t] ty #[.slice s.ptr s.len s.cap,.slice v.ptr v.len v.cap]) (.one (.sc .slc)) y K:=by
 have H2:=H.merge i j A hi hj (D:=⟨λh q=>∃(rs:List α) (g:aA),Own h e s k f rs/\(∀b,s.on b->q b/\¬g b)/\(∀b,g b->q b)/\rs.length=ii ll/\(∀(i:Nat) r l,rs[i]?=dB r->ll[i]?=dB l->E.p h g r l)/\E.p h g a b,
  λ⟨rs,g,a,b,c,d,e,f⟩ hp=>⟨rs,g,a.ag hp λx n=>(b x n).1,b,c,d,λi r l y G=>E.loc (e i r l y G) (hp.mono λx _ n=>c x n),E.loc f (hp.mono λx _ n=>c x n)⟩,
  λ⟨rs,g,a,b,c,d,e,f⟩ hq=>⟨rs,g,a,λx n=>⟨hq x (b x n).1,(b x n).2⟩,λx n=>hq x (c x n),d,e,f⟩⟩)
  (λg q2 hd hA hB=>by
   obtain⟨rs,q3,a,b,c,d,e'⟩:=hA;refine⟨rs,λb=>q3 b∨q2 b,a,λx n=>⟨.inl (b x n).1,λS=>S.elim (b x n).2 (hd x (b x n).1)⟩,λx n=>n.elim (λh=>.inl (c x h)) .inr,d,λi r l y G=>E.mono (e' i r l y G) λ_ h=>.inl h,E.mono hB λ_ h=>.inr h⟩)
 have o:i<ii As:=(qn.1 hi).1;obtain⟨lo,pp,c,zz,ax⟩:=H2;have ha:=ax i _ (by rw[zC (Ne.symm A),zj o]);obtain⟨rs,g,a1,a2,a3,a4,a5,a6⟩:=ha;let Y:Nat->Nat:=λb=> @ite _ (g b) (Classical.propDecidable _) (ii As+2) (c b);have J:∀b,g b->b<h.size/\c b=i+1:=a3;have ho:dO h Y (i+1) e s k f rs:=⟨a1,λb m=>by
  have:=a2 b m;show @ite _ (g b) (Classical.propDecidable _) _ _=_;rw[g0 this.2];exact this.1.2⟩
 refine ho.push hC he hz V hw O a L U i4 λT h' F M=>hk T h' ?_;rw[vA _ _ (Ne.symm A)];rw[<-yz (l:=As) (i:=i),vA _ _ A];have N:∀b,g b->Y b≠i+1:=λb m=>by
  show @ite _ (g b) (Classical.propDecidable _) _ _≠_;rw[f9 m];omega
 refine aa.BJ lo pp zz ax (M.mono λb m hn hc=>hn ⟨m,?_⟩) ⟨rs++[a],λb=>g b/\b<h.size,F.own,λb m=>?_,λb m=>⟨qY m.2 M.1,.inl ⟨m.2,(J b m.1).2⟩⟩,by simp[a4],λW r' l' y G=>?_⟩
 ·by_cases I:g b
  ·exact(J b I).2
  ·have w:@ite _ (g b) (Classical.propDecidable _) (ii As+2) (c b)=i+1:=hc;rw[g0 I]at w;exact w
 ·have u:=F.bx b m;by_cases o:b<h.size
  ·rw[gE o]at u;have Q:¬g b:=λI=>N b I u;have w:@ite _ (g b) (Classical.propDecidable _) (ii As+2) (c b)=i+1:=u;rw[g0 Q]at w;exact⟨⟨F.own.lt m,.inl ⟨o,w⟩⟩,λS=>Q S.1⟩
  ·exact⟨⟨F.own.lt m,.inr i4⟩,λS=>o S.2⟩
 ·have R:∀{Z:α} {l:β},E.p h g Z l->E.p h' (λb=>g b/\b<h.size) Z l:=λhs=>
   E.loc (E.mono hs (q':=λb=>g b/\b<h.size) λb m=>⟨m,(J b m).1⟩) (M.mono λb _ m=>N b m.1)
  by_cases X:W<ii rs
  ·rw[qo X]at y;rw[qo i4]at G;exact R (a5 W r' l' y G)
  ·have:W=ii rs:=by have:=(qn.1 y).1;simp at this;omega
   subst this;simp at y;rw[a4]at G;simp at G;subst y;subst G;exact R a6
theorem aa.agp{N:TI}(hC:C.Ok)(H:aa B h0 h As)(i j:Nat)(y:i≠j){a:α}{b:β}(Q:As[i]?=dB (ce e s k f E ll))(R:As[j]?=dB (EA E a b))(hw:∀x,ii (f x)=k)(ht:C.T.get t=dB N){x:Int}(n:Nat)(g:x=n)(hn:n<ii ll){G:eX}(Y:G.cells=(f a).toArray)(M:N.size=k)
  (J:(f a).all (·.oneCell')=eR) {K:f8->Prop} (W:∀h',aa B h0 h' ((As.set j emp).set i (ce e s k f E (ll.set n b)))->K h'):
  ∃a:eY,(s.ptr=dB a/\0<=x/\x<((s.len:Nat):Int))/\az C.P (qf t (.pointer (dB (a.add (x.toNat*k)))) G) h λ_ h'=>K h':=by
 have U:=H.merge i j y Q R (D:=⟨λh q=>∃(rs:List α) (m:aA),Own h e s k f rs/\(∀b,s.on b->q b/\¬m b)/\(∀b,m b->q b)/\rs.length=ii ll/\(∀(i:Nat) r l,rs[i]?=dB r->ll[i]?=dB l->E.p h m r l)/\E.p h m a b,
  λ⟨rs,m,a,b,c,d,e,f⟩ hp=>⟨rs,m,a.ag hp λx g=>(b x g).1,b,c,d,λi r l o v=>E.loc (e i r l o v) (hp.mono λx _ g=>c x g),E.loc f (hp.mono λx _ g=>c x g)⟩,
  λ⟨rs,m,a,b,c,d,e,f⟩ hq=>⟨rs,m,a,λx g=>⟨hq x (b x g).1,(b x g).2⟩,λx g=>hq x (c x g),d,e,f⟩⟩)
  (λm q2 hd hA Z=>by
   obtain⟨rs,q3,a,b,c,d,e'⟩:=hA;refine⟨rs,λb=>q3 b∨q2 b,a,λx g=>⟨.inl (b x g).1,λhh=>hh.elim (b x g).2 (hd x (b x g).1)⟩,λx g=>g.elim (λh=>.inl (c x h)) .inr,d,λi r l o v=>E.mono (e' i r l o v) λ_ h=>.inl h,E.mono Z λ_ h=>.inr h⟩)
 have L:i<ii As:=(qn.1 Q).1;obtain⟨lo,S,c,zz,ax⟩:=U;have V:=ax i _ (by rw[zC (Ne.symm y),zj L]);obtain⟨rs,m,a1,I,a3,a4,a5,a6⟩:=V;refine a1.set hC hw ht n g i4 a Y M J λh' z w _=>W h' ?_;rw[vA _ _ (Ne.symm y)];rw[<-yz (l:=As) (i:=i),vA _ _ y];have keep:∀{O:α} {l:β},E.p h m O l->E.p h' m O l:=λhs=>E.loc hs (w.mono λb _ u A=>(I b A).2 u);refine aa.BJ lo S zz ax (w.mono λb _ u A=>u (I b A).1) ⟨rs.set n a,m,z,λb u=>⟨⟨qY (I b u).1.1 w.1,.inl (I b u).1⟩,(I b u).2⟩,λb u=>⟨qY (a3 b u).1 w.1,.inl (a3 b u)⟩,by simp[a4],λX r' l' o v=>?_⟩;rw[zb]at o v;split at o
 ·rename_i F;rw[f9 F]at v;split at o
  ·injection o with o;subst o
   have e:l'=b:=by rw[f9 i4]at v;exact(zP.inj v).symm
   subst e;exact keep a6
  ·cases o
 ·rename_i F;rw[g0 F]at v;exact keep (a5 X r' l' o v)
end
section
variable {E:iZ α β} {e:Nat} {B:aA}
theorem aa.aeu(H:aa B h0 h As)(i j:Nat)(c:i≠j){a:α}{b:β}(u:As[i]?=dB (ae e s k f [a]))(o:As[j]?=dB (EA E a b)):aa B h0 h ((As.set i (ce e s k f E [b])).set j emp):=
 H.merge i j c u o λw v t d q=>⟨[a],v,d.1,λx n=>⟨.inl (d.2 x n),t x (d.2 x n)⟩,λ_ p=>.inr p,i0,λi r l g m=>by
  cases i with
  |succ i=>simp at g
  |zero=>simp at g m;subst g;subst m;exact q⟩
theorem aa.IF{α:Type}{f:α->ba}{l:List α}(H:aa B h0 h As)(i:Nat)(c:As[i]?=dB (ae e s k f l))(b:∀x,ii (f x)=k):aa B h0 h (As.set i (EA (cF k f) s l)):=H.gb i c λ_ a=>a.1.seq b a.2
end
variable {e2:Nat}
section
variable {B:aA} {e:Nat}
theorem aa.adh(H:aa B h0 h (As++(ae e s 1 bp rs::bB e2 k f rs ll)))(y:ii rs=ii ll)(F:∀x,ii (f x)=k)(n:Nat)(K:n<=ii ll):aa B h0 h (As++[ce e ⟨s.ptr,n,s.cap⟩ 1 bp (cF k f) (ll.take n)]):=by
 classical
 obtain⟨G,p,c,z,a⟩:=H;refine⟨G,p,λb=>if c b>ii As then As.length+1 else c b,λb d=>?_,λj X g=>?_⟩
 ·have:=z b d;dsimp only;rw[g0 i4];exact this
 ·by_cases o:j<ii As
  ·rw[qo o]at g;refine X.mono (a j X (by rw[qo o];exact g)) λb d=>⟨d.1,?_⟩
   dsimp only;rw[g0 i4];exact d.2
  ·rw[qj i4]at g;have t:j=ii As:=by have:=(qn.1 g).1;simp at this;omega
   subst t;simp at g;subst g;have A:=a As.length (ae e s 1 bp rs) (by rw[qj (qm _)];simp);refine⟨rs.take n,λb=>b<h.size/\c b>ii As+1,A.1.cut (λ_=>rfl) n i4,λb d=>?_,λb d=>?_,by simp[y],λi r l m h3=>?_⟩
   ·have v:=A.2 b d;refine⟨⟨v.1,?_⟩,λJ=>i4⟩;dsimp only;rw[f9 i4]
   ·refine⟨d.1,?_⟩;dsimp only;rw[f9 i4]
   ·rw[vg]at m h3;split at m
    ·rename_i u;rw[f9 u]at h3;have w:i<ii ll:=(qn.1 h3).1;have I:=fV (e:=e2) (k:=k) (f:=f) y i w;have q:=a (ii As+(i+1)) _ (by rw[qj i4];simpa using I);have E:rs[i]'(by omega)=r:=by rw[qd i4]at m;simpa using m
     have D:ll[i]=l:=by rw[qd w]at h3;simpa using h3
     rw[E,D]at q;exact q.1.seq F λb d=>⟨(q.2 b d).1,by have:=(q.2 b d).2;omega⟩
    ·cases m
theorem aa.NZ{s:Sl}{a:List (List α)}(H:aa B h0 h As)(i:Nat)(b:As[i]?=dB (fN e s k f a)):aa B h0 h (As.set i (ce e s 1 bp (cF k f) a)):=H.gb i b λ_ c=>c
end
theorem LS{h h':f8}{p:aA}(a:aZ p h h'):∀{L:au},L.ok h->(∀x∈L,p x.1.block)->L.ok h'
 |[],_,_=>trivial
 |x::L,hk,hq=>⟨a.cell (hq x i9) hk.1,LS a hk.2 λy b=>hq y l4⟩
theorem kp{h h':f8}(d:aZ (λb=>b<h.size) h h'){L:au}(c:L.ok h):L.ok h':=LS d c (by
 clear d
 induction L with
 |nil=>intro x a;cases a
 |cons y L ih=>
  intro x a;rcases q8.1 a with rfl|a
  ·exact sC c.1
  ·exact ih c.2 x a)
theorem bV.both{P:Program}{s:Sem eX}{h:f8}{K:Sl->f8->Prop}{Q:f8->Prop}(i:bV P s (.one (.sc .slc)) h λ_ h'=>Q h')(e:bV P s (.one (.sc .slc)) h K):bV P s (.one (.sc .slc)) h λx h'=>Q h'/\K x h':=by intro w a;obtain⟨k,m,c,f,o,a3,a4⟩:=i w a;obtain⟨j,l,b,n,x2,d,g⟩:=e w a;rw[c]at b;cases b;exact⟨_,_,c,f,x2,d,a4,g⟩
theorem aa.ne{α:Type}{B:aA}{C:Ctx}{m h:f8}{As:List HP}{e t k d:Nat}{z:ba}{K:Sl->f8->Prop}(o:C.Ok)(H:aa B m h As)(f:α->ba)(j:bU C.toAO t e k z d)(b:ii z=k){n:Nat}{parts:Array (Nat×eX)}(l:List α)(r:ii l=n)(c:n*k<=2^20)
  (a:wF (λi=>dB (i*k,k)) (iR z n).toArray parts.toList=dB (l.flatMap f).toArray) {L:au} (g:L.ok h) (q:bV C.P (qq t n parts) (.one (.sc .slc)) h K):
  bV C.P (qq t n parts) (.one (.sc .slc)) h λx h'=>L.ok h'/\K x h':=
 bV.both ((Sp.refl h).lit o f j b l r c a λ_ _ p=>kp p.ag g) q
section
variable {B:aA} {A:HP} {i:Nat}
theorem aa.front(H:aa B h0 h (As++Bs)):aa B h0 h (Bs++As):=
 H.pick (λj=>if j<ii Bs then As.length+j else if j<ii Bs+ii As then j-ii Bs else j)
  (λa b c=>by(try dsimp only at c);split at c<;>split at c<;>(try split at c)<;>(try split at c)<;>omega) λj X d=>by
  try dsimp only
  split
  ·rename_i e;rw[qo e]at d;rw[qj i4,zx];exact d
  ·rename_i e;rw[qj i4]at d;have:=(qn.1 d).1;rw[f9 i4,qo this];exact d
theorem aa.bv(H:aa B h0 h (As++[A])):aa B h0 h (A::As):=H.front
theorem aa.cj(H:aa B h0 h As)(R:Sp h h' [A]):aa B h0 h' (A::As):=(H.comp R).bv
theorem aa.nM(H:aa B h0 h (A::As)):aa B h0 h As:=H.rest
theorem aa.oD(H:aa B h0 h (A::D::As)):aa B h0 h (A::As):=H.del 1
theorem aa.rx{ι:Type}{F:ι->HP}(H:aa B h0 h (HP.ex F::As)):∃x,aa B h0 h (F x::As):=H.UD 0 i0
theorem aa.tQ{ι:Type}{F:ι->HP}(x:ι)(H:aa B h0 h (F x::As)):aa B h0 h (HP.ex F::As):=H.close' 0 x i0
theorem aa.rO(H:aa B h0 h (A.sep D::As)):aa B h0 h (D::A::As):=(H.split 0 i0).bv
theorem aa.lJ(H:aa B h0 h (D::A::As)):aa B h0 h (A.sep D::As):=by have a:aa B h0 h (emp::A.sep D::As):=H.join 1 0 i5 i0 i0;exact a.rest
theorem aa.nC(H:aa B h0 h (A::D::As)):aa B h0 h (D::A::As):=H.ach 0 1 i0 i0
end
theorem Seq.lK{h:f8}{p:aA}{s:Sl}{rs:List Sl}(b:Seq h p s 1 bp rs){i:Int}(n:Nat)(c:i=n)(d:n<ii rs){K:Sl->Prop}(e:K rs[n]):
  ∃a:eY,(s.ptr=dB a/\0<=i/\i<((s.len:Nat):Int))/\∃x:Sl,f7 h (a.add (i.toNat*1))=dB (.slice x.ptr x.len x.cap)/\K x:=
 b.bD (g:=λr:Sl=>Value.slice r.ptr r.len r.cap) n c d rs[n] i0 e
def St(B:aA)(a:f8)(As:List HP)(Q:f8->Prop):Prop:=∀(Bs:List HP) (h':f8),aa B a h' (Bs++As)->Q h'
variable {Q:f8->Prop}
section
variable {B:aA} {A:HP}
theorem St.at(x:St B h0 As Q)(Bs:List HP)(H:aa B h0 h (Bs++As)):Q h:=x Bs h H
theorem St.base(b:Q h0)(a:∀h',aZ B h0 h'->Q h'):St B h0 As Q:=λ_ _ H=>a _ H.ag
theorem St.dS(j:Nat)(a:As[j]?=dB A)(c:∀h',A.p h' (λb=>b<h'.size)->Q h'):St B h0 As Q:=λBs h' H=>c _ (H.at (ii Bs+j) (by rw[qj i4,zx];exact a))
theorem St.cons(x:St B h0 As Q):St B h0 (A::As) Q:=λBs h' H=>x (Bs++[A]) h' (by rw[qp];exact H)
end
section
variable {E:iZ Sl β} {ll:List β}
theorem bH.agq(x:(bH E 1 bp).p h q s ll){i:Int}(n:Nat)(k:i=n)(l:n<ii ll){K:Sl->Prop}(j:∀(a:eY) (r:Sl),s.ptr=dB a->f7 h (a.add (n*1))=dB (.slice r.ptr r.len r.cap)->E.p h q r ll[n]->K r):
  ∃a:eY,(s.ptr=dB a/\0<=i/\i<((s.len:Nat):Int))/\∃x:Sl,f7 h (a.add (i.toNat*1))=dB (.slice x.ptr x.len x.cap)/\K x:=by
 subst k;obtain⟨rs,f,m,h3⟩:=bH.jl x;obtain⟨b,o,d,e2,g⟩:=f.elem n (rs[n]'(by omega)) (qd i4);have e:=g.1;rw[add_eq,wJ]at e;have c:f7 h ((⟨b,o,eH⟩:eY).add (n*1))=dB (.slice (rs[n]'(by omega)).ptr (rs[n]'(by omega)).len (rs[n]'(by omega)).cap):=by rw[add_eq];exact e
 refine⟨_,⟨d,i4,by rw[f.len];omega⟩,rs[n]'(by omega),by rw[ql];exact c,j _ _ d c (h3 n i4 l)⟩
theorem bH.pick(x:(bH E 1 bp).p h q s ll)(n:Nat)(k:n<ii ll){a:eY}{r:Sl}(g:s.ptr=dB a)(j:f7 h (a.add (n*1))=dB (.slice r.ptr r.len r.cap)):E.p h q r ll[n]:=by
 obtain⟨rs,l,u,h3⟩:=bH.jl x;obtain⟨b,o,d,e2,i⟩:=l.elem n (rs[n]'(by omega)) (qd i4);rw[g]at d;injection d with d
 subst d;have e:=i.1;rw[add_eq,wJ]at e;have c:f7 h ((⟨b,o,eH⟩:eY).add (n*1))=dB (.slice (rs[n]'(by omega)).ptr (rs[n]'(by omega)).len (rs[n]'(by omega)).cap):=by rw[add_eq];exact e
 rw[j]at c;have f:=h3 n i4 k;generalize rs[n]'(by omega)=r' at c f;obtain⟨w,l1,m⟩:=r;obtain⟨v,l2,t⟩:=r';simp at c;obtain⟨rfl,rfl,rfl⟩:=c;exact f
end
theorem DT{α:Type}{l:List α}(f:l.Nodup){a b:Nat}(c:a<ii l)(d:b<ii l)(h:l[a]=l[b]):a=b:=by
 have e:=zu.1 f;rcases yi a b with hlt|he|hgt
 ·exact absurd h (e a b c d hlt)
 ·exact he
 ·exact absurd h.symm (e b a d c hgt)
theorem aa.cu{B:aA}{k h:f8}{As:List HP}(H:aa B k h As)(L:List Nat)(g:∀j∈L,j<ii As:=by simp)(m:L.Nodup:=by decide):aa B k h (L.map λj=>As.getD j emp):=by
 refine H.pick (λi=>if h:i<ii L then L[i]else As.length+i) (λa b c=>?_) λi A2 e=>?_
 ·try dsimp only at c
  split at c<;>split at c
  ·exact DT m _ _ c
  ·have:=g _ (qg (l:=L) (n:=a) o0);omega
  ·have:=g _ (qg (l:=L) (n:=b) o0);omega
  ·omega
 ·try dsimp only
  rw[qR]at e;split
  ·rename_i d;rw[qd d]at e;have f:=g _ (qg d);simp only[q9,zP.injEq]at e;rw[<-e,qe,qd f];rfl
  ·rename_i d;rw[qP i4]at e;simp at e
theorem St.mk'{B:aA}{a:f8}{As:List HP}{Q:f8->Prop}(x:∀h',aa B a h' As->Q h'):St B a As Q:=λBs h' H=>x h' (H.take Bs.length λi A b=>by
 rw[qj i4,zx];exact b)
theorem St.here{B:aA}{a h:f8}{As:List HP}{Q:f8->Prop}(x:St B a As Q)(H:aa B a h As):Q h:=x [] h H
theorem St.mono{B:aA}{a:f8}{As:List HP}{Q b:f8->Prop}(x:St B a As Q)(c:∀h,Q h->b h):St B a As b:=λBs h' H=>c _ (x Bs h' H)
theorem aa.aT{B:aA}{g h:f8}{As:List HP}(H:aa B g h As)(k:Nat)(L:List Nat)(p:k<=ii As:=by simp)(f:∀j∈L,j<k:=by simp)(o:L.Nodup:=by decide):aa B g h (L.map (λj=>As.getD j emp)++As.drop k):=by
 refine H.pick (λi=>if h:i<ii L then L[i]else k+(i-ii L)) (λa b d=>?_) λi A2 e=>?_
 ·try dsimp only at d
  split at d<;>split at d
  ·exact DT o _ _ d
  ·have:=f _ (qg (l:=L) (n:=a) o0);omega
  ·have:=f _ (qg (l:=L) (n:=b) o0);omega
  ·omega
 ·try dsimp only
  by_cases c:i<ii L
  ·rw[dif_pos c];rw[qo n9,qR,qd c]at e;have m:=f _ (qg c);simp only[q9,zP.injEq]at e;rw[<-e,qe,qd i4];rfl
  ·rw[dif_neg c];rw[qj n9,qx,wO]at e;exact e
section
variable {E:iZ α β} {e:Nat} {B:aA} {rs:List α} {ll:List β}
def Fix(E:iZ α β)(k:Nat)(f:α->ba)(h:f8)(q:aA)(s:Sl)(rs:List α)(a:List β):Prop:=Seq h q s k f rs/\rs.length=ii a/\∀(i:Nat) r l,rs[i]?=dB r->a[i]?=dB l->E.p h q r l
theorem Fix.ag(x:Fix E k f h q s rs ll)(a:aZ q h h'):Fix E k f h' q s rs ll:=⟨x.1.ag a,x.2.1,λi r l b c=>E.loc (x.2.2 i r l b c) a⟩
theorem Fix.mono{q':aA}(x:Fix E k f h q s rs ll)(a:∀b,q b->q' b):Fix E k f h q' s rs ll:=⟨x.1.mono a,x.2.1,λi r l c d=>E.mono (x.2.2 i r l c d) a⟩
abbrev nD(E:iZ α β)(k:Nat)(f:α->ba)(h:f8)(s:Sl)(rs:List α)(a:List β):Prop:=Fix E k f h (λb=>b<h.size) s rs a
theorem nD.up(x:nD E k f h s rs ll)(a:aZ (λb=>b<h.size) h h'):nD E k f h' s rs ll:=(Fix.ag x a).mono λ_ c=>qY c a.1
theorem Fix.row(x:Fix E k f h q s rs ll){i:Nat}(a:i<ii ll):E.p h q (rs[i]'(by rw[x.2.1];exact a)) ll[i]:=x.2.2 i _ _ (qd _) (qd _)
theorem bH.fix(x:(bH E k f).p h q s ll):∃rs,Fix E k f h q s rs ll:=x
theorem Fix.elt(x:Fix E k f h q s rs ll):(bH E k f).p h q s ll:=⟨rs,x⟩
def cO(E:iZ α β)(k:Nat)(f:α->ba)(s:Sl)(rs:List α)(c:List β):HP:=⟨λh q=>Fix E k f h q s rs c,λx a=>x.ag a,λx b=>x.mono b⟩
theorem aa.KG(H:aa B h0 h As)(i:Nat)(m:As[i]?=dB (ce e s k f E ll))(p:∀x,ii (f x)=k):∃rs,aa B h0 h (As.set i (cO E k f s rs ll)):=by
 have g:i<ii As:=(qn.1 m).1;have n:aa B h0 h (As.set i (HP.ex λrs=>cO E k f s rs ll)):=H.gb i m λq ⟨rs,v,a,b,c,d,e⟩=>⟨rs,a.seq p λx u=>(b x u).1,d,λi r l t o=>E.mono (e i r l t o) c⟩
 obtain⟨rs,j⟩:=n.UD i (zj g);exact⟨rs,by rw[yz]at j;exact j⟩
theorem aa.fA(H:aa B h0 h As)(i:Nat)(a:As[i]?=dB (cO E k f s rs ll)):nD E k f h s rs ll:=H.at i a
theorem aa.DU(f:C.Ok)(H:aa B h0 h As)(d:C.T.get t=dB ti){K:eY->f8->Prop}(e:∀a h',aZ (λb=>b<h.size) h h'->aa B h0 h' (As++[al a t ti.zero])->K a h'):
  rq C.P (qN t eR (.tuple #[])) h K:=
 we f d λa h' x y c _=>e a h' (c.mono λ_ _ _=>trivial) (H.comp (KE x y c))
theorem aa.Oa(v:C.Ok)(H:aa B h0 h As)(f:α->ba)(r:bU C.toAO t e k z by_)(d:0<by_/\by_<=128)(j:α)(u:f j=z)(g:ii z=k){q E:IntKind}{n p:Int}(m c:Nat)(D:n=m)(A:p=c)(i:m<=c)(l:c<=2^32)
  {K:Sl->f8->Prop} (s:∀a h',a.len=m->aZ (λb=>b<h.size) h h'->aa B h0 h' (As++[ae e a k f (qh m j)])->K a h'):
  bV C.P (qG t (.int q n) (.int E p)) (.one (.sc .slc)) h K:=
 run_make v r d j u g m c D A i l λa h' x y w o _=>s a h' (by rw[x.len];simp) (o.mono λ_ _ _=>trivial) (H.comp (KD i0 x y o))
end
section
variable {B:aA} {e:Nat}
theorem Own.aae(F:C.Ok)(r:Own h e s k f l)(A:∀x,ii (f x)=k)(J:C.T.get t=dB i){x:Int}(n:Nat)(L:x=n)(v:n<ii l)(j:Nat)(vs:ba)(M:j+ii vs<=k){o:eX}(y:α)(D:o.cells=vs.toArray)(u:i.size=ii vs)
  (q:vs.all (·.oneCell')=eR) (B:f y=(f l[n]).take j++vs++(f l[n]).drop (j+ii vs)) {K:f8->Prop} (E:∀h',Own h' e s k f (l.set n y)->aZ (λb=>¬s.on b) h h'->K h'):
  ∃a:eY,(s.ptr=dB a/\0<=x/\x<((s.len:Nat):Int))/\az C.P (qf t (.pointer (dB ((a.add (x.toNat*k)).add j))) o) h λ_ h'=>K h':=by
 subst L;rcases r.head with⟨_,_,h3⟩|⟨b,rest,h1,h2,h3,h4⟩
 ·subst h3;simp at v
 ·refine⟨_,⟨h1,i4,by rw[r.len];omega⟩,?_⟩;unfold qf;refine az.bind (az.pure' ?_);unfold storeVar;refine az.bind (az.always (ey F.toOk J) ?_);rw[D,u];simp only[yh,ne_eq,not_true,if_false];rw[add_eq,add_eq,wh,ql];have g:l=l.take n++l[n]::l.drop (n+1):=by rw[<-qQ v,qF]
  have m:l.set n y=l.take n++y::l.drop (n+1):=ye.trans (f9 v);have p:ii ((l.take n).flatMap f)=n*k:=by rw[dK A,qU,w8 i4]
  have H:=A l[n];have d:f l[n]=(f l[n]).take j++((f l[n]).drop j).take vs.length++(f l[n]).drop (j+ii vs):=by rw[qp,<-zJ,qF,qF]
  refine fx (e:=e) (pre:=(l.take n).flatMap f++(f l[n]).take j) (old:=((f l[n]).drop j).take vs.length) (post:=(f l[n]).drop (j+ii vs)++((l.drop (n+1)).flatMap f++rest)) ?_ ?_ ?_ ?_ ?_
  ·have:l.flatMap f++rest=(l.take n).flatMap f++(f l[n]).take j++((f l[n]).drop j).take vs.length++((f l[n]).drop (j+ii vs)++((l.drop (n+1)).flatMap f++rest)):=by
    have w:=congrArg (List.flatMap f) g;rw[zg,zf]at w;rw[w];generalize f l[n]=z at d;rw[qp]at d;simp only[qp];congr 1
    conv=>lhs;rw[d]
    simp only[qp]
   rw[<-this];exact h2
  ·simp;omega
  ·rw[qw,p,qU];omega
  ·intro c I;exact q7.1 q c I
  ·refine E _ ⟨by rw[zl];exact r.len,.inr ⟨b,rest,h1,?_,h3,h4⟩⟩ (aZ.jI h2 λG=>G ⟨0,h1⟩);rw[iI h2,f9 i0,m,zg,zf,B];simp[qp]
theorem aa.aae(u:C.Ok)(H:aa B h0 h As)(g:Nat)(b:As[g]?=dB (ae e s k f l))(v:∀x,ii (f x)=k)(A:C.T.get t=dB i){x:Int}(n:Nat)(E:x=n)(D:n<ii l)(j:Nat)(vs:ba)(o:j+ii vs<=k){c:eX}(y:α)(r:c.cells=vs.toArray)(m:i.size=ii vs)
  (d:vs.all (·.oneCell')=eR) (p:f y=(f l[n]).take j++vs++(f l[n]).drop (j+ii vs)) {K:f8->Prop} (q:∀h',aa B h0 h' (As.set g (ae e s k f (l.set n y)))->K h'):
  ∃a:eY,(s.ptr=dB a/\0<=x/\x<((s.len:Nat):Int))/\az C.P (qf t (.pointer (dB ((a.add (x.toNat*k)).add j))) c) h λ_ h'=>K h':=
 (H.own g b).aae u v A n E D j vs o y r m d p λh' z w=>q h' (H.nc g b w z)
end
def HP.all:List HP->HP
 |[]=>emp
 |A::L=>A.sep (HP.all L)
variable {L:List HP}
section
variable {B:aA} {A:HP}
theorem aa.og:∀{L:List HP} {As:List HP},aa B h0 h (HP.all L::As)->aa B h0 h (L++As)
 |[],_,H=>H.rest
 |A::L,As,H=>by
  have f:aa B h0 h (HP.all L::A::As):=H.rO;have e:=aa.og f;exact e.pick (λi=>if i=0 then L.length else if i<=ii L then i-1 else i) (λa b c=>by(try dsimp only at c);split at c<;>split at c<;>(try split at c)<;>(try split at c)<;>omega) λi X d=>by
   try dsimp only
   rw[zB]at d;cases i with
   |zero=>simp at d;subst d;rw[f9 i0,qj (qm _),ze];rfl
   |succ i=>
    rw[qy]at d;rw[g0 i4];by_cases g:i<ii L
    ·rw[qo g]at d;rw[f9 i4,qo i4];simpa using d
    ·rw[qj i4]at d;rw[g0 i4,qj i4];rw[show i+1-ii L=(i-ii L)+1 by omega,qy];exact d
theorem aa.closeAll:∀(L:List HP) {As:List HP},aa B h0 h (L++As)->aa B h0 h (HP.all L::As)
 |[],As,H=>((H.comp (.one (A:=emp) (aZ.refl _ _) trivial)).bv:aa B h0 h (emp::As))
 |A::L,As,H=>by
  have g:aa B h0 h (L++(A::As)):=H.pick (λi=>if i<ii L then i+1 else if i=ii L then 0 else i) (λa b c=>by(try dsimp only at c);split at c<;>split at c<;>(try split at c)<;>(try split at c)<;>omega) λi X d=>by
   try dsimp only
   by_cases e:i<ii L
   ·rw[qo e]at d;rw[f9 e,zB,qy,qo e];exact d
   ·rw[qj i4]at d;by_cases f:i=ii L
    ·subst f;rw[ze]at d;rw[g0 i4,f9 rfl];simpa using d
    ·rw[g0 e,g0 f,zB];obtain⟨j,rfl⟩:∃j,i=ii L+(j+1):=⟨i-ii L-1,i4⟩
     rw[zx,qy]at d;rw[show L.length+(j+1)=(ii L+j)+1 by omega,qy,qj i4,zx];exact d
  exact(aa.closeAll L g).lJ
theorem aa.Hn{P:Prop}(H:aa B h0 h (A.and P::As)):aa B h0 h (A::As)/\P:=⟨H.aci 0 i0,H.fact 0 i0⟩
theorem aa.toHn{P:Prop}(H:aa B h0 h (A::As))(p:P):aa B h0 h (A.and P::As):=H.afS 0 i0 p
end
def dg{α:Type}(e:TypeId)(s:Sl)(b:TypeId)(k:Nat)(f:α->ba)(a:List (List α)):HP:=
 HP.ex λrs:List Sl=>(HP.all (ae e s 1 bp rs::bB b k f rs a)).and (ii rs=ii a)
section
variable {B:aA} {e:Nat}
theorem aa.BL(H:aa B h0 h (dg e s e2 k f ll::As)):∃rs:List Sl,ii rs=ii ll/\aa B h0 h ((ae e s 1 bp rs::bB e2 k f rs ll)++As):=by obtain⟨rs,H⟩:=H.rx;obtain⟨H,a⟩:=H.Hn;exact⟨rs,a,H.og⟩
theorem aa.DW{rs:List Sl}(a:ii rs=ii ll)(H:aa B h0 h ((ae e s 1 bp rs::bB e2 k f rs ll)++As)):aa B h0 h (dg e s e2 k f ll::As):=
 ((aa.closeAll _ H).toHn a).tQ (F:=λrs:List Sl=>(HP.all (ae e s 1 bp rs::bB e2 k f rs ll)).and (ii rs=ii ll)) rs
theorem aa.Aj(H:aa B h0 h As)(e a k:Nat)(f:α->ba):aa B h0 h (dg e ⟨eH,0,0⟩ a k f []::As):=
 aa.DW (rs:=[]) i0 ((H.nil e 1 bp).bv)
theorem aa.OG{Bs:List HP}(H:aa B h0 h (As++Bs)):aa B h0 h As:=H.pick id (λ_ _ h=>h) λi A a=>by
 rw[id,qo (qn.1 a).1];exact a
theorem aa.DX(H:aa B h0 h (dg e s e2 k f ll::As))(a:∀x,ii (f x)=k):fW h s k f ll:=by obtain⟨rs,b,H⟩:=H.BL;exact aa.OF (aa.OG H) b a
theorem aa.sa(H:aa B h0 h (dg e s e2 k f ll::As)):s.len=ii ll/\s.len<=s.cap:=by obtain⟨rs,a,H⟩:=H.BL;exact⟨by rw[(H.own 0 i0).len,a],(H.own 0 i0).cap⟩
theorem aa.FN(j:C.Ok){r:Sl}{x:List α}(H:aa B h0 h (dg e s e2 k f ll::ae e2 r k f x::As))(d:bU C.toAO t e 1 [.slice eH 0 0] 24)(l:ii ll+1<=2^32){ty:Nat}{K:Sl->f8->Prop}
  (g:∀a h',aa B h0 h' (dg e a e2 k f (ll++[x])::As)->K a h'):
  bV C.P (qq t 1 #[(0,.slice r.ptr r.len r.cap)]) (.one (.sc .slc)) h λv m=>bV C.P (qt #[t,t] ty #[.slice s.ptr s.len s.cap,.slice v.ptr v.len v.cap]) (.one (.sc .slc)) m K:=by
 obtain⟨rs,c,H⟩:=H.BL;refine H.push j 0 i0 d i0 i5 (λ_=>rfl) jK r i0 i5 i4 λa h' b=>g a h' ?_;refine aa.DW (rs:=rs++[r]) p7 ?_;rw[tO c];have b:aa B h0 h' (ae e a 1 bp (rs++[r])::(bB e2 k f rs ll++ae e2 r k f x::As)):=b;have i:ae e a 1 bp (rs++[r])::(bB e2 k f rs ll++[ae e2 r k f x])++As=ae e a 1 bp (rs++[r])::(bB e2 k f rs ll++ae e2 r k f x::As):=i9
 rw[i];exact b
end
end Go.Vc
namespace Gf
theorem aaf{p:UInt8->Prop}(h:∀n,n<256->p (yJ n))(a:UInt8):p a:=by
 have:=h a.toNat (UInt8.toNat_lt a)
 rwa [UInt8.ofNat_toNat]at this
def x2(a:UInt8):UInt8:=(a<<<1)^^^(if a&&&0x80=0 then 0 else 0x1b)
def x3(a:UInt8):UInt8:=x2 a^^^a
def pw:Nat->UInt8
 |0=>1
 |n+1=>x3 (pw n)
theorem adi(a b c:UInt8):(a^^^b)&&&c=(a&&&c)^^^(b&&&c):=by apply UInt8.toBitVec_inj.1;simp[UInt8.toBitVec_xor,UInt8.toBitVec_and];ext i hi;simp[Bool.and_xor_distrib_right]
theorem adj(a b:UInt8):(a^^^b)<<<1=(a<<<1)^^^(b<<<1):=by apply UInt8.toBitVec_inj.1;simp[UInt8.toBitVec_xor,UInt8.toBitVec_shiftLeft,BitVec.shiftLeft_xor_distrib]
theorem OH:∀a:UInt8,a&&&0x80=0∨a&&&0x80=0x80:=aaf j4
theorem aag(a b c d:UInt8):(a^^^b)^^^(c^^^d)=(a^^^c)^^^(b^^^d):=by ac_rfl
theorem aev(a b:UInt8):x2 (a^^^b)=x2 a^^^x2 b:=by
 unfold x2;rw[adi,adj];rcases OH a with ha|ha<;>rcases OH b with hb|hb<;>rw[ha,hb]
 ·simp
 ·simp[UInt8.xor_assoc]
 ·rw[aag];simp
 ·rw[aag];simp
theorem aew(a b:UInt8):x3 (a^^^b)=x3 a^^^x3 b:=by unfold x3;rw[aev,aag]
def tR:Nat->UInt8->UInt8
 |0,a=>a
 |n+1,a=>x3 (tR n a)
theorem TD(a b:UInt8):∀n,tR n (a^^^b)=tR n a^^^tR n b
 |0=>rfl
 |n+1=>by simp only[tR,TD a b n,aew]
theorem KH(a:UInt8)(m:Nat):∀n,tR (n+m) a=tR n (tR m a)
 |0=>by simp[tR]
 |n+1=>by rw[Nat.add_right_comm];simp only[tR,KH a m n]
theorem OI:∀n,tR n 0=0
 |0=>rfl
 |n+1=>by rw[tR,OI n];rfl
theorem AR:∀n,pw n=tR n 1
 |0=>rfl
 |n+1=>by rw[pw,tR,AR n]
def agr:Nat:=939374623831894136699086600277250597547650664638770418422125146541797353646788332867483593573384618611044815625336497665827114626705134492515730415652478061620339993830966980270842846318821775850471098591710629241171812800746666233448222972174585295916389942636813666312872914849454985560152530477328703759683306625234997237483834721220409437442253146756845415190424543171129629468776480674528486868811725071010351012234056630775688111116293610821126543142160426617079940511630006820862697466582575257349116925728488930366609138264019883664906661504235885380294353134295748489096855100647154935187045898006656778240
def lg(a:UInt8):Nat:=(agr>>>(8*a.toNat))%256
theorem IG:∀a:UInt8,lg a<255:=aaf j4
theorem UF:∀a:UInt8,a≠0->pw (lg a)=a:=aaf j4
theorem UG:∀n,n<255->lg (pw n)=n:=j4
theorem aex:pw 255=1:=j4
theorem UH:∀n,n<255->pw n≠0:=j4
theorem WW(n:Nat):pw (n+255)=pw n:=by rw[AR,KH,<-AR 255,aex,<-AR]
theorem WX(n:Nat):pw (n%255)=pw n:=by
 have:∀k m,pw (m+255*k)=pw m:=by
  intro k
  induction k with
  |zero=>intro m;rfl
  |succ k ih=>intro m;rw[Nat.mul_succ,<-w5,WW,ih]
 have h:=this (n/255) (n%255);rw[Nat.mod_add_div]at h;exact h.symm
def mul(a b:UInt8):UInt8:=if a=0∨b=0 then 0 else pw ((lg a+lg b)%255)
def inv(a:UInt8):UInt8:=if a=0 then 0 else pw ((255-lg a)%255)
theorem mul_zero(a:UInt8):mul a 0=0:=by simp[mul]
theorem zero_mul(a:UInt8):mul 0 a=0:=by simp[mul]
theorem mul_comm(a b:UInt8):mul a b=mul b a:=by
 unfold mul;rw[Nat.add_comm];by_cases h:a=0∨b=0
 ·rw[f9 h,f9 h.symm]
 ·rw[g0 h,g0 λx=>h x.symm]
theorem OJ(a b:UInt8)(d:a≠0):mul a b=tR (lg a) b:=by
 by_cases c:b=0
 ·subst c;rw[mul_zero,OI]
 ·rw[mul,g0 (by simp[d,c]),WX,AR,KH,<-AR,UF b c]
theorem kf(a b c:UInt8):mul a (b^^^c)=mul a b^^^mul a c:=by
 by_cases d:a=0
 ·subst d;simp[zero_mul]
 ·rw[OJ _ _ d,OJ _ _ d,OJ _ _ d,TD]
theorem TE(a b c:UInt8):mul (a^^^b) c=mul a c^^^mul b c:=by rw[mul_comm,kf,mul_comm c a,mul_comm c b]
theorem WY{a b:UInt8}(d:a≠0)(c:b≠0):mul a b≠0:=by rw[mul,g0 (by simp[d,c])];exact UH _ (vm _ i5)
theorem WZ{a b:UInt8}(d:a≠0)(c:b≠0):lg (mul a b)=(lg a+lg b)%255:=by rw[mul,g0 (by simp[d,c]),UG _ (vm _ i5)]
theorem mul_assoc(a b c:UInt8):mul (mul a b) c=mul a (mul b c):=by
 by_cases e:a=0
 ·subst e;simp[zero_mul]
 by_cases d:b=0
 ·subst d;simp[zero_mul,mul_zero]
 by_cases f:c=0
 ·subst f;simp[mul_zero]
 rw[mul,g0 (by simp[WY e d,f]),WZ e d,mul,g0 (by simp[e,WY d f]),WZ d f];congr 1;omega
theorem aey:lg 1=0:=j4
theorem one_mul(a:UInt8):mul 1 a=a:=by
 by_cases b:a=0
 ·subst b;rfl
 ·rw[mul,g0 l4,aey,wh,WX,UF a b]
theorem mul_one(a:UInt8):mul a 1=a:=by rw[mul_comm,one_mul]
theorem aez{a:UInt8}(b:a≠0):inv a≠0:=by rw[inv,g0 b];exact UH _ (vm _ i5)
theorem KI{a:UInt8}(b:a≠0):mul a (inv a)=1:=by
 have c:=IG a;rw[mul,g0 (by simp[b,aez b]),inv,g0 b,UG _ (vm _ i5)];have:(lg a+(255-lg a)%255)%255=0:=i4
 rw[this];rfl
end Gf
namespace Wl
structure Pow where
 off:Bool
 fuse:Option Nat
 offs:Int
def Pow.new:Pow:=⟨eS,eH,0⟩
def Pow.step(w:Pow):Bool×Pow:=
 if w.off then(eS,w)else match w.fuse with
 |none=>(eR,w)
 |some 0=>(eS,⟨eR,dB 0,Go.IntKind.wrap .i64 (w.offs+1)⟩)
 |some (k+1)=>(eR,⟨eS,dB k,w.offs⟩)
structure bj where
 room:Nat
 l:cI
 wait:Nat
 laid:cI
 has:Bool
 lost:Bool
def bj.new(a:Nat):bj:=⟨a,[],0,[],eS,eS⟩
def bj.append(w:Pow)(d:bj)(b:aV):Int×Pow×bj:=
 if b.length≠64 then(1,w,d)
 else if d.lost then(5,w,d)
 else if d.room<=ii d.l then(7,w,d)
 else if w.off then(14,w,d)
 else if w.step.1 then(0,w.step.2,{d with l:=d.l++[b],wait:=d.wait+1,laid:=[],has:=eS})
 else(14,w.step.2,{d with l:=d.l++[b],wait:=d.wait+1})
def bj.sync(w:Pow)(d:bj):Int×Pow×bj:=
 if d.lost then(5,w,d)
 else if w.step.1 then(0,w.step.2,{d with wait:=0,laid:=[],has:=eS})
 else(14,w.step.2,d)
def bj.rewrite(w:Pow)(d:bj)(l:cI):Int×Pow×bj:=
 if !l.all (λb=>decide (ii b=64))then(1,w,d)
 else if d.lost then(5,w,d)
 else if d.room<ii l then(7,w,d)
 else if w.off then(14,w,d)
 else if w.step.1 then(0,w.step.2,{d with l:=l,wait:=0,laid:=[],has:=eS})
 else(14,w.step.2,{d with laid:=l,has:=eR})
def bj.BM(d:bj):bj:={d with lost:=eR,l:=[],wait:=0,laid:=[],has:=eS}
abbrev aE:=List (Option bj)
def aX(ds:aE)(slot:Int):Option bj:=if 0<=slot/\slot<64 then(ds[slot.toNat]?).join else eH
def bK(ds:aE)(slot:Int)(d:bj):aE:=ds.set slot.toNat (dB d)
def isLive(ds:aE)(slot:Int):Bool:=match aX ds slot with|some d=>!d.lost|none=>eS
def aQ(ds:aE)(bQ:aw):aw:=bQ.filter (isLive ds)
def fO(w:Pow)(ds:aE)(slot:Int)(b:aV):Int×Pow×aE:=
 match aX ds slot with
 |none=>(if b.length≠64 then 1 else 5,w,ds)
 |some d=>((d.append w b).1,(d.append w b).2.1,bK ds slot (d.append w b).2.2)
def gH(w:Pow)(ds:aE)(slot:Int):Int×Pow×aE:=
 match aX ds slot with
 |none=>(5,w,ds)
 |some d=>((d.sync w).1,(d.sync w).2.1,bK ds slot (d.sync w).2.2)
def lc:List (Int×aV)->Pow->aE->Int×Pow×aE
 |[],w,ds=>(0,w,ds)
 |x::l,w,ds=>let r:=fO w ds x.1 x.2;if r.1=0 then lc l r.2.1 r.2.2 else r
def fb:aw->Pow->aE->Int×Pow×aE
 |[],w,ds=>(0,w,ds)
 |x::l,w,ds=>let r:=gH w ds x;if r.1=0 then fb l r.2.1 r.2.2 else r
theorem sF(x:Int)(l:aw)(w:Pow)(ds:aE):fb (x::l) w ds=if(gH w ds x).1=0 then fb l (gH w ds x).2.1 (gH w ds x).2.2 else gH w ds x:=rfl
theorem tU(x:Int×aV)(l:List (Int×aV))(w:Pow)(ds:aE):lc (x::l) w ds=if(fO w ds x.1 x.2).1=0 then lc l (fO w ds x.1 x.2).2.1 (fO w ds x.1 x.2).2.2 else fO w ds x.1 x.2:=rfl
def cL(l:aw):aw:=((qz 64).map λi:Nat=>(i:Int)).filter λi=>decide (i∈l)
def layAll(l:List (Int×aV))(w:Pow)(ds:aE):Int×Pow×aE:=
 let r:=lc l w ds
 if r.1=0 then fb (cL (l.map qK)) r.2.1 r.2.2 else r
end Wl
namespace Go.Vc
open Go
theorem Ho(l:aw):l.flatMap ak=l.map (Value.int .i64):=by
 induction l with
 |nil=>rfl
 |cons a t ih=>rw[zf,ih];rfl
theorem LU{w:World}{e:TypeId}{b:Nat}{rest:ba}{l:aw}(c:w.heap[b]?=dB (.cells (l.flatMap ak++rest).toArray e (0,0))):Sort.Holds (Value.int .i64) w b 0 l.toArray:=by
 intro j d;have a:j<ii l:=o8
 refine⟨?_,by simp[World.frozen?,c]⟩;rw[Ho]at c;have:(l.map (Value.int .i64)++rest)[j]?=dB (xt xz l[j]):=by rw[qo j9,qR,qd a];rfl
 simp[World.cell?,c,this,a]
theorem OK(l l':aw)(rest:ba)(b:ii l'=ii l):Sort.putCells (Value.int .i64) 0 l'.toArray (l.flatMap ak++rest).toArray=(l'.flatMap ak++rest).toArray:=by
 rw[Ho,Ho];apply yN;intro i;simp only[Sort.putCells,Array.getElem?_mapIdx,zX,yh,wh,Nat.zero_le,true_and];by_cases a:i<ii l
 ·rw[qo j9,qo i7];have c:i<ii l':=i4
  simp[a,c]
 ·rw[qj i7,qj i7];simp only[qx,b];cases h:rest[i-ii l]? with
  |none=>rfl
  |some x=>simp only[q9];rw[g0 a]
theorem OL{P:Program}{id:FuncId}(A:∀(ga off cap:Nat) (o:aw) (w:World),Sort.Holds (Value.int .i64) w ga off o.toArray->ga<w.heap.size->ii o<4611686018427387904->
   Calls P id #[.slice (dB ⟨ga,off,eH⟩) o.length cap] w λe i=>e=.returned (.tuple #[])/\∃n os,i=Sort.grow (Sort.putRow (Value.int .i64) (Sort.ahead w n) ga off (o.mergeSort λx y=>decide (x<=y)).toArray) os)
  (D:∀(p:bm) (cap:Nat) (w:World),Calls P id #[.slice p 0 cap] w λe i=>e=.returned (.tuple #[])/\i=w)
  {e:TypeId} {s:Sl} {l:aw} {h:f8} (r:Own h e s 1 ak l) (B:ii l<2^40):
  aq P id #[.slice s.ptr s.len s.cap] h λv h'=>v=.tuple #[]/\Own h' e s 1 ak (l.mergeSort λx y=>decide (x<=y))/\aZ (λb=>¬s.on b) h h':=by
 intro w f;have a:=r.len;rcases r.head with⟨h1,h2,h3⟩|⟨b,rest,h1,h2,h3,h4⟩
 ·subst h3;rw[a,h1];refine(D eH s.cap w).mono ?_;rintro u i ⟨rfl,rfl⟩;have t:(([]:aw).mergeSort λx y=>decide (x<=y))=[]:=i9
  exact⟨_,i0,dG.refl _,i0,by rw[t];exact⟨a,.inl ⟨h1,h2,i0⟩⟩,by rw[<-f];exact aZ.refl _ _⟩
 ·rw[h1,a];have m:w.heap[b]?=dB (.cells (l.flatMap ak++rest).toArray e (0,0)):=by rw[f];exact h2
  refine(A b 0 s.cap l w (LU m) (lt_of_block m) i4).mono ?_;rintro u i ⟨rfl,n,os,rfl⟩;have j:=lt_of_block m;have g:ii (l.mergeSort λx y=>decide (x<=y))=ii l:=w4 l;have c:∀k,k<h.size->(Sort.grow (Sort.putRow (Value.int .i64) (Sort.ahead w n) b 0 (l.mergeSort λx y=>decide (x<=y)).toArray) os).heap[k]?=if b=k then dB (.cells ((l.mergeSort λx y=>decide (x<=y)).flatMap ak++rest).toArray e (0,0))else h[k]?:=by
   intro k q;rw[Sort.heap_grow_old _ _ (by simpa[Sort.putRow,Sort.mapBlock,Sort.ahead,f]using q)];simp only[Sort.putRow,Sort.mapBlock,Sort.ahead,yp];by_cases d:b=k
   ·subst d;rw[f9 i0,f9 i0,m,q9,Sort.onCells,OK _ _ _ g]
   ·rw[g0 d,g0 d,f]
  rw[f]at j;refine⟨_,i0,⟨i0,i0,i0,by simp[Sort.grow,Sort.putRow,Sort.mapBlock,Sort.ahead]⟩,i0,⟨by rw[g];exact a,.inr ⟨b,rest,h1,?_,h3,h4⟩⟩,?_,?_⟩
  ·rw[c b j,f9 rfl]
  ·simp[Sort.grow,Sort.putRow,Sort.mapBlock,Sort.ahead,f]
  ·intro k q z;rw[c k q,g0 λd=>z ⟨0,by rw[h1,d]⟩]
end Go.Vc
namespace Wl
def bM(p:Int×Int×Int):Bool:=decide (p.1>=1)&&(decide (p.1<=16)&&(decide (p.2.1>=1)&&(decide (p.2.1<=4)&&(decide (p.2.2>=1)&&decide (p.2.2<=24)))))
theorem cm(p:Int×Int×Int):bM p=eR↔(1<=p.1/\p.1<=16)/\(1<=p.2.1/\p.2.1<=4)/\1<=p.2.2/\p.2.2<=24:=by simp[bM,and_assoc]
def bG(p:Int×Int×Int):Int:=if bM p then p.1+p.2.1 else 0
open Go
def Da(s:Int):Int:=qc xC (qc xC (s*(6364136223846793005:Int))+(1442695040888963407:Int))
def told(s:Int):Int:=qc xB (qZ (Da s) (2^min (32:Int).toNat (qk xC)))
def lW(s n:Int):Int:=qc xz (wo (qc xC (told s)) (qc xC n))
theorem wrap_u64(x:Int):qc xC x=x%18446744073709551616:=rfl
theorem tV(s n:Int)(d:0<n:=by omega)(e:n<=2^62:=by omega):0<=lW s n/\lW s n<n:=by
 unfold lW;have a:qc xC n=n:=o9
 rw[a];have c:0<=qc xC (told s):=o9
 have e2:=vG (qc xC (told s)) d;have b:0<=wo (qc xC (told s)) n:=Int.tmod_nonneg n c;rw[Go.Vc.af _];exact⟨b,e2⟩
def lh(l:aw)(i:Nat):Int:=l.getD i 0
def ry(l:aw)(i j:Nat):aw:=(l.set i (lh l j)).set j (lh l i)
theorem OM(l:aw)(i j:Nat):ii (ry l i j)=ii l:=by simp[ry]
def gF(n:Nat)(s:Int)(l:aw):Nat->Int×aw
 |0=>(s,l)
 |k+1=>(Da (gF n s l k).1,ry (gF n s l k).2 k (k+(lW (gF n s l k).1 ((n-k:Nat):Int)).toNat))
theorem tW(n:Nat)(s:Int)(l:aw):∀k,(gF n s l k).2.length=ii l
 |0=>rfl
 |k+1=>by rw[gF,OM,tW n s l k]
theorem Hp{l:aw}{i:Nat}(h:i<ii l):lh l i∈l:=by rw[lh,qe,qd h];exact qg h
theorem aah{l:aw}{i j:Nat}(b:i<ii l)(a:j<ii l){x:Int}(c:x∈ry l i j):x∈l:=by
 rcases zU c with h|h
 ·rcases zU h with h|h
  ·exact h
  ·rw[h];exact Hp a
 ·rw[h];exact Hp b
def upto(n:Nat):aw:=(qz n).map λi:Nat=>(i:Int)
theorem gW(n:Nat):ii (upto n)=n:=by simp[upto]
theorem Hq(n:Nat)(s:Int):∀k,k<=n->∀x∈(gF n s (upto n) k).2,0<=x/\x<n
 |0,_,x,hx=>by
  simp only[gF,upto,qu,qJ]at hx;obtain⟨i,j,rfl⟩:=hx;omega
 |k+1,hk,x,hx=>by
  have e:k<n->n-k<=2^62->k+(lW (gF n s (upto n) k).1 ((n-k:Nat):Int)).toNat<n:=λl m=>by
   have:=tV (gF n s (upto n) k).1 ((n-k:Nat):Int);omega
  have f:=tW n s (upto n) k;rw[gW]at f;by_cases b:n-k<=2^62
  ·refine Hq n s k i4 x (aah i4 ?_ hx);have:=e i4 b;omega
  ·--beyond any size:what is set is 0 or a member
   have c:∀y∈ry (gF n s (upto n) k).2 k (k+(lW (gF n s (upto n) k).1 ((n-k:Nat):Int)).toNat),y∈(gF n s (upto n) k).2∨y=0:=by
    intro y d;have g:∀i,lh (gF n s (upto n) k).2 i∈(gF n s (upto n) k).2∨lh (gF n s (upto n) k).2 i=0:=λi=>by
     by_cases h:i<(gF n s (upto n) k).2.length
     ·exact .inl (Hp h)
     ·right;simp only[lh,qe];rw[qP i4];rfl
    rcases zU d with h|h
    ·rcases zU h with h|h
     ·exact .inl h
     ·rw[h];exact g _
    ·rw[h];exact g _
   rcases c x hx with h|h
   ·exact Hq n s k i4 x h
   ·subst h;omega
def ja(l:aw):aw:=l.mergeSort λx y=>decide (x<=y)
theorem DY(l:aw):ii (ja l)=ii l:=w4 l
theorem wn(l:aw)(x:Int):x∈ja l↔x∈l:=List.mem_mergeSort
def FO(s:Int)(n k:Nat):aw:=ja ((gF n s (upto n) k).2.take k)
theorem aai{s:Int}{n k:Nat}(b:k<=n){x:Int}(a:x∈FO s n k):0<=x/\x<n:=
 Hq n s k b x (zD ((wn _ _).1 a))
theorem aaj(s:Int)(n k:Nat)(a:k<=n):ii (FO s n k)=k:=by rw[FO,DY,qU,tW,gW];omega
def fB(l:Nat):Nat:=if l<=1 then l else if l<=4 then 2 else if l<=9 then 3 else if l<=16 then 4 else 5
def FP(r:Nat):Nat:=if r=0 then 0 else if r=1 then 1 else if r<=3 then 2 else 3
def pL(l k:Nat):Nat:=
 (if k>1 then 1048576/(k*(k-1))else 1048576/l)+
  (if k<l/fB l then 1048576*fB l/(l*k)else if k=l/fB l then 1048576*fB l*FP (fB l)/l else 0)
def mL(l:Nat):Nat->Nat
 |0=>0
 |k+1=>mL l k+pL l (k+1)
def jL(l:Nat):aw:=(qz l).map λk=>((mL l (k+1):Nat):Int)
theorem lL(l:Nat):ii (jL l)=l:=by simp[jL]
def UI(t:aw)(x:Int):Nat:=(t.findIdx λy=>decide (y>x))+1
theorem IH:∀l,l<=20->∀k,k<=20->pL l k<=2^30:=j4
theorem FQ(l:Nat)(a:l<=20):∀k,k<=20->mL l k<=k*2^30
 |0,_=>by simp[mL]
 |k+1,hk=>by
  have:=FQ l a k i4;have:=IH l a (k+1) hk;rw[mL];omega
theorem ON:∀l,l<=20->1<=l->0<mL l l:=j4
theorem II(l:Nat)(h:1<=l):(jL l).getLast?=dB ((mL l l:Nat):Int):=by
 obtain⟨k,rfl⟩:∃k,l=k+1:=⟨l-1,i4⟩
 simp[jL,zT]
def DZ(seed id:Int):Int:=qc xC (qc xB ((qE (qk xB) seed^^^(qE (qk xB) (qc xB ((qc xB id)*(2654435761:Int))))).toNat:Nat))
def FR(s:Int)(n:Nat):Nat:=UI (jL n) (lW s (mL n n))
theorem tZ(s:Int)(n:Nat)(b:1<=n)(a:n<=20):FR s n<=n:=by unfold FR UI;have e:=ON n a b;have d:=FQ n a n a;have c:=tV s (mL n n);have:=List.findIdx_lt_length_of_exists (p:=λy=>decide (y>lW s (mL n n))) (xs:=jL n) ⟨_,List.mem_of_getLast? (II n b),by simpa using c.2⟩;rw[lL]at this;omega
def bW(id:Int):Bool:=decide (0<=id)&&decide (id<=65535)
def dE(n:Nat)(seed id:Int):aw:=FO (Da (Da (DZ seed id))) n (FR (Da (DZ seed id)) n)
theorem mM{n:Nat}(a:1<=n)(b:n<=20){seed id x:Int}(c:x∈dE n seed id):0<=x/\x<n:=aai (tZ _ n a b) c
theorem ww{n:Nat}(a:1<=n)(b:n<=20)(seed id:Int):ii (dE n seed id)<=n:=by rw[dE,aaj _ _ _ (tZ _ n a b)];exact tZ _ n a b
def gv(n:Nat)(l:aw):aV:=l.foldl (λr i=>r.set i.toNat 1) (qh n 0)
theorem pM(n:Nat)(l:aw):ii (gv n l)=n:=by
 have:∀(l:aw) (r:aV),ii (l.foldl (λr i=>r.set i.toNat 1) r)=ii r:=by
  intro l
  induction l with
  |nil=>intro r;rfl
  |cons a t ih=>intro r;rw[zE,ih];simp
 rw[gv,this];simp
def nU(n:Nat)(seed id:Int):aV:=gv n (dE n seed id)
theorem OO(n:Nat)(seed id:Int):ii (nU n seed id)=n:=pM _ _
def lM(K H h:Nat):aV:=(qz K).map (λj=>Gf.pw ((h+1)*(j+1)%255))++(qz H).map λi=>if i=h then 1 else 0
def bC(K H:Nat):cI:=(qz H).map (lM K H)
theorem ua(K H h:Nat):ii (lM K H h)=K+H:=by simp[lM]
def dP(p:Int×Int×Int)(seed:Int)(a:aw):cI:=
 if bM p then bC p.1.toNat p.2.1.toNat++(a.filter bW).map (nU (bG p).toNat seed)else[]
theorem nV{α:Type}{f:α->Bool}{l:List α}{k:Nat}(a:k<ii l):(l.take (k+1)).filter f=if f l[k]then(l.take k).filter f++[l[k]]else(l.take k).filter f:=by rw[zM a,zq];by_cases h:f l[k]=eR<;>simp[h]
abbrev Row:=aV
abbrev aL:=List Row
def scaleB(c:UInt8)(l:Row):Row:=l.map (Gf.mul c)
def cY(c:UInt8)(a to:Row):Row:=zm (λx y=>y^^^Gf.mul c x) a to
def aN(r:Row)(bx:Nat):UInt8:=r.getD bx 0
def aB(m:aL)(i:Nat):Row:=m.getD i []
def jb(m:aL)(a bx:Nat):Option Nat:=(qz m.length).find? λi=>decide (a<=i)&&(aN (aB m i) bx !=0)
def jm(m:aL)(i j:Nat):aL:=(m.set i (aB m j)).set j (aB m i)
def fi(a bx:Nat)(m:aL)(k:Nat):aL:=m.mapIdx λi r=>if i<k/\i≠a then cY (aN r bx) (aB m a) r else r
def jT(a bx:Nat)(m:aL):aL:=m.set a (scaleB (Gf.inv (aN (aB m a) bx)) (aB m a))
def jn(s:Nat×aL)(bx:Nat):Nat×aL:=
 match jb s.2 s.1 bx with
 |none=>s
 |some i=>(s.1+1,fi s.1 bx (jT s.1 bx (jm s.2 s.1 i)) s.2.length)
def bI(m:aL):Nat->Nat×aL
 |0=>(0,m)
 |c+1=>jn (bI m c) c
def eK(m:aL):Nat:=ii (aB m 0)
def ca(m:aL):Nat:=(bI m (eK m)).1
def aY(n:Nat)(m:aL):Prop:=∀r∈m,ii r=n
theorem oh(c:UInt8)(l:Row):ii (scaleB c l)=ii l:=by simp[scaleB]
theorem bZ{c:UInt8}{a t:Row}(h:ii a=ii t:=by omega):ii (cY c a t)=ii t:=by simp[cY,h]
theorem bz{m:aL}{i:Nat}(h:i<ii m):aB m i=m[i]:=by rw[aB,qe,qd h];rfl
theorem cA{n:Nat}{m:aL}(h:aY n m){i:Nat}(a:i<ii m:=by omega):ii (aB m i)=n:=by rw[bz a];exact h _ (qg a)
theorem Hr{n:Nat}{m:aL}(h:aY n m){i:Nat}{r:Row}(a:ii r=n):aY n (m.set i r):=λx b=>by
 rcases zU b with h1|h1
 ·exact h x h1
 ·rw[h1];exact a
theorem UJ{P:Nat->Bool}{n:Nat}(h:∀j,j<n->P j=eS):(qz n).find? P=eH:=by rw[yu];intro x a;rw[qJ]at a;simp[h x a]
theorem UK{P:Nat->Bool}{n k:Nat}(e:k<n)(h:∀j,j<k->P j=eS)(d:P k=eR):(qz n).find? P=dB k:=by
 rw[List.find?_eq_some_iff_append];refine⟨d,qz k,List.range' (k+1) (n-k-1),?_,λa b=>?_⟩
 ·rw[yX,yX];have c:n=k+(n-k):=i4
  have e2:n-k=(n-k-1)+1:=i4
  conv=>lhs;rw[c,<-List.range'_append_1 (s:=0) (m:=k) (n:=n-k)]
  rw[wh]
  conv=>lhs;rw[e2,List.range'_succ]
 ·rw[qJ]at b;simp[h a b]
theorem rz{m:aL}{a bx i:Nat}(h:jb m a bx=dB i):a<=i/\i<ii m/\aN (aB m i) bx≠0:=by have b:=List.find?_some h;have c:=List.mem_of_find?_eq_some h;simp at b c;exact⟨b.1,c,b.2⟩
theorem RJ{m:aL}{a bx:Nat}(h:jb m a bx=eH):∀i,a<=i->i<ii m->aN (aB m i) bx=0:=λi b c=>by
 have:=yu.1 h i (qJ.2 c);simpa[b]using this
theorem lE(m:aL)(i j:Nat):ii (jm m i j)=ii m:=by simp[jm]
theorem Ea{n:Nat}{m:aL}(h:aY n m){i j:Nat}(b:i<ii m)(a:j<ii m):aY n (jm m i j):=Hr (Hr h (cA h a)) (cA h b)
theorem nW(t c:Nat)(m:aL):ii (jT t c m)=ii m:=by simp[jT]
theorem xE{n:Nat}{m:aL}(h:aY n m){t c:Nat}(a:t<ii m):aY n (jT t c m):=Hr h (by rw[oh];exact cA h a)
theorem nX(t c:Nat)(m:aL)(k:Nat):ii (fi t c m k)=ii m:=by simp[fi]
theorem xF{n:Nat}{m:aL}(h:aY n m){t c k:Nat}(d:t<ii m):aY n (fi t c m k):=λx e=>by
 obtain⟨i,b,rfl⟩:=List.mem_mapIdx.1 e;have a:=h _ (qg b);split
 ·rw[bZ (by rw[cA h d,a])];exact a
 ·exact a
theorem Xa(t c:Nat)(m:aL):fi t c m 0=m:=by apply zI;intro i;simp[fi,vo]
theorem pN{t c k:Nat}{m:aL}{i:Nat}(a:i<ii m):aB (fi t c m k) i=if i<k/\i≠t then cY (aN (aB m i) c) (aB m t) (aB m i)else aB m i:=by rw[bz (by rw[nX];exact a),bz a];simp[fi]
theorem Xb{t c k:Nat}{m:aL}(d:k<ii m)(b:k≠t):fi t c m (k+1)=(fi t c m k).set k (cY (aN (aB m k) c) (aB m t) (aB m k)):=by
 apply zI;intro i;simp only[fi,zb,vo,List.length_mapIdx];by_cases a:k=i
 ·subst a;simp only[if_true,d,qd d,q9];rw[f9 ⟨i4,b⟩,bz d]
 ·rw[g0 a];congr 1;funext r;by_cases h:i<k/\i≠t
  ·rw[f9 h,f9 ⟨i4,h.2⟩]
  ·rw[g0 h,g0 λe=>h ⟨i4,e.2⟩]
theorem Xc{t c:Nat}{m:aL}:fi t c m (t+1)=fi t c m t:=by
 apply zI;intro i;simp only[fi,vo];congr 1;funext r;by_cases h:i<t/\i≠t
 ·rw[f9 h,f9 ⟨i4,h.2⟩]
 ·rw[g0 h,g0 λa=>h ⟨i4,a.2⟩]
theorem Xd{n:Nat}{s:Nat×aL}(h:aY n s.2)(bx:Nat):aY n (jn s bx).2/\(jn s bx).2.length=ii s.2:=by
 unfold jn;cases hb:jb s.2 s.1 bx with
 |none=>exact⟨h,i0⟩
 |some i=>
  have a:=rz hb;dsimp only;refine⟨xF (xE (Ea h i4 a.2.1) (by rw[lE];omega)) (by rw[nW,lE];omega),by rw[nX,nW,lE]⟩
theorem gV{n:Nat}{m:aL}(h:aY n m):∀c,aY n (bI m c).2/\(bI m c).2.length=ii m
 |0=>⟨h,i0⟩
 |c+1=>by
  have:=gV h c;have a:=Xd this.1 c;rw[bI];exact⟨a.1,by rw[a.2,this.2]⟩
theorem aak{s:Nat×aL}(h:s.1<=ii s.2)(bx:Nat):(jn s bx).1<=(jn s bx).2.length:=by
 unfold jn;cases hb:jb s.2 s.1 bx with
 |none=>exact h
 |some i=>
  have a:=rz hb;dsimp only;rw[nX,nW,lE];omega
theorem BN(m:aL):∀c,(bI m c).1<=(bI m c).2.length
 |0=>by simp[bI]
 |c+1=>aak (BN m c) c
end Wl
namespace Go.Vc
open Go
variable {C:Ctx} {t t2 ty e k:Nat} {z:ba} {by_:Nat} {α:Type} {h h0:f8} {p B:aA} {s v:Sl} {f:α->ba} {l l2:List α} {As:List HP}
theorem Own.OP(Q:C.Ok)(N:bU C.toAO t e k z by_)(F:∀x,ii (f x)=k)(r:Own h e s k f l)(O:Seq h p v k f l2)(B:∀x,∀c∈f x,c.oneCell'=eR)(j:Nat)(S:j<=ii l){q:bm}{L V:Nat}(g:q=if s.cap=j then s.ptr else s.ptr.map (·.add (j*k)))(A:L=s.len-j){K:Int->f8->Prop}
  (D:∀n h',Own h' e s k f (l.take j++(l2.take (ii l-j)++l.drop (j+ii l2)))->aZ (λb=>¬s.on b) h h'->K n h'):
  bV C.P (yy #[t,t2] ty #[.slice q L V,.slice v.ptr v.len v.cap]) (.one (.sc (.int .i64))) h K:=by
 unfold bV yy;simp only[zX,yE,qy];refine az.bind (az.always (aR (N.under Q)) ?_);refine az.bind (az.pure' ?_);refine az.bind (az.always (N.size Q) ?_);have i:=r.len;have w:=O.len;have R:=r.cap;obtain⟨m,E⟩:∃m,m=Nat.min v.len L:=⟨_,rfl⟩
 rw[<-E];have G:m<=ii l2:=by rw[E,<-w];exact Nat.min_le_left _ _
 have o:m<=ii l-j:=by rw[E,<-i,A];exact Nat.min_le_right _ _
 have T:m=min l2.length (ii l-j):=by rw[E,A,i,w]
 have M:=O.take m G;have U:l2.take (ii l-j)++l.drop (j+ii l2)=l2.take m++l.drop (j+m):=by
  rcases Nat.le_total l2.length (ii l-j)with hh|hh
  ·rw[qi hh,show m=ii l2 by omega,qV]
  ·rw[show m=ii l-j by omega,zk (show l.length<=j+ii l2 by omega),zk i4]
 rw[U]at D;have H:wN k m (.slice v.ptr v.len v.cap)=wN k m (.slice v.ptr m v.cap):=by cases v.ptr<;>rfl
 rw[H];refine az.bind (gG (v:=⟨v.ptr,m,v.cap⟩) F M ?_);have d:m=0->l.take j++(l2.take m++l.drop (j+m))=l:=λe=>by rw[e];simp
 rcases r.head with⟨h1,h2,h3⟩|⟨b,rest,h1,h2,h3,h4⟩
 ·have a:q=eH:=by rw[g,h1];split<;>rfl
  rw[a];subst h3;have:m=0:=by simp at o;exact o
  refine az.pure' ⟨_,i0,D _ h ?_ (aZ.refl _ _)⟩;rw[d this];exact r
 ·by_cases u:s.cap=j
  ·have a:q=dB ⟨b,0,eH⟩:=by rw[g,f9 u,h1]
   rw[a];have y:m=0:=i4
   refine az.bind ?_;rw[y];simp only[vp,List.flatMap_nil];exact az.pure' (az.pure' ⟨_,i0,D _ h (by rw[d y];exact r) (aZ.refl _ _)⟩)
  ·have a:q=dB ⟨b,0+j*k,eH⟩:=by rw[g,g0 u,h1];simp only[q9];rw[add_eq]
   rw[a];refine az.bind ?_;have J:l.flatMap f++rest=(l.take j).flatMap f++((l.drop j).take m).flatMap f++((l.drop (j+m)).flatMap f++rest):=by rw[<-qp,<-zg,<-zg,<-zJ,qp (List.take j l),qF,qF]
   rw[J]at h2;refine fx (e:=e) (pre:=(l.take j).flatMap f) (old:=((l.drop j).take m).flatMap f) (post:=(l.drop (j+m)).flatMap f++rest) h2 (by rw[dK F,dK F,qU,qU,zi];congr 1;omega) (by rw[dK F,qU];rw[w8 S];omega) ?_ ?_
   ·intro c W;obtain⟨x,_,I⟩:=zS.1 W;exact B x c I
   ·refine az.pure' ⟨_,i0,D _ _ ⟨by rw[i,qw,qw,qU,qU,zi];omega,.inr ⟨b,rest,h1,?_,h3,h4⟩⟩ (aZ.jI h2 λX=>X ⟨0,h1⟩)⟩;rw[iI h2,f9 i0,zg,zg];simp[qp]
theorem aa.OP(A:C.Ok)(H:aa B h0 h As)(i:Nat)(o:As[i]?=dB (ae e s k f l))(r:bU C.toAO t e k z by_)(E:∀x,ii (f x)=k)(w:Seq h p v k f l2)(a:∀x,∀c∈f x,c.oneCell'=eR)(j:Nat)(q:j<=ii l){g:bm}{m D:Nat}(b:g=if s.cap=j then s.ptr else s.ptr.map (·.add (j*k)))(d:m=s.len-j){K:Int->f8->Prop}
  (u:∀n h',aa B h0 h' (As.set i (ae e s k f (l.take j++(l2.take (ii l-j)++l.drop (j+ii l2)))))->K n h'):
  bV C.P (yy #[t,t2] ty #[.slice g m D,.slice v.ptr v.len v.cap]) (.one (.sc (.int .i64))) h K:=
 (H.own i o).OP A r E w a j q b d λn h' x y=>u n h' (H.nc i o y x)
end Go.Vc
namespace Wl
open Go
def b8(n:Int):UInt8:=yJ (n%256).toNat
theorem ez(n:Int):qc xA n=((b8 n).toNat:Int):=by
 have h0:=yn n (show(256:Int)≠0 by decide);have a:=wP n (show(0:Int)<256 by decide);have e:((b8 n).toNat:Int)=n%256:=by unfold b8;rw[UInt8.toNat_ofNat'];omega
 rw[e];unfold qc;simp[qk,va]
abbrev jw:=BitVec 32
def jM(s:jw):jw:=if s&&&1#32=1#32 then(s>>>1)^^^3988292384#32 else s>>>1
def eC:Nat->jw->jw
 |0,s=>s
 |n+1,s=>jM (eC n s)
def mg(s:jw)(x:UInt8):jw:=eC 8 (s^^^BitVec.ofNat 32 x.toNat)
def kU(l:aV):jw:=l.foldl mg 4294967295#32
def lX(l:aV):jw:=4294967295#32^^^kU l
theorem UL(l:aV)(x:UInt8):kU (l++[x])=mg (kU l) x:=by unfold kU;rw[zQ];rfl
theorem OQ(s:jw):qc xB ((s.toNat:Nat):Int)=(s.toNat:Int):=by have:=s.isLt;unfold qc;simp[qk,va];omega
theorem UM(a b:jw):qc xB ((qE (qk xB) (a.toNat:Int)^^^qE (qk xB) (b.toNat:Int)).toNat:Nat)=((a^^^b).toNat:Int):=by show qc xB (((qE 32 (a.toNat:Int)^^^qE 32 (b.toNat:Int):BitVec 32).toNat:Nat):Int)=_;rw[yb,yb,vH,vH,vI,vI,OQ]
theorem afT(a b:jw):qc xB ((qE (qk xB) (a.toNat:Int)&&&qE (qk xB) (b.toNat:Int)).toNat:Nat)=((a&&&b).toNat:Int):=by show qc xB (((qE 32 (a.toNat:Int)&&&qE 32 (b.toNat:Int):BitVec 32).toNat:Nat):Int)=_;rw[yb,yb,vH,vH,vI,vI,OQ]
theorem LV(n:Int):qc xB n=((qE 32 n).toNat:Int):=by unfold qc;simp[qk,va,BitVec.toNat_ofInt];omega
theorem adk(s:jw):qZ (s.toNat:Int) (2^min (1:Int).toNat (qk xB))=((s>>>1).toNat:Int):=by rw[show min (1:Int).toNat (qk xB)=1 from i0,yP _ i5,BitVec.toNat_ushiftRight,Nat.shiftRight_eq_div_pow];simp
theorem TF(s:jw):((s&&&1#32).toNat:Int)=1↔s&&&1#32=1#32:=by
 constructor
 ·intro h;apply BitVec.eq_of_toNat_eq;have:(1#32:jw).toNat=1:=rfl;omega
 ·intro h;rw[h];rfl
def li(s:jw):aV:=(qz 4).map λi=>b8 (qZ (s.toNat:Int) (2^(8*i)))
theorem BO(s:jw):ii (li s)=4:=by simp[li]
def dU(kind:Int)(a:aV):aV:=[87,115,1,b8 kind]++a++qh (55-ii a) 0
def dX(kind:Int)(a:aV):aV:=
 if 1<=kind/\kind<=255/\a.length<=55 then dU kind a++li (lX (dU kind a))++[165]else[]
theorem ub{kind:Int}{a:aV}(h:ii a<=55):ii (dU kind a)=59:=by simp[dU];omega
theorem mh{kind:Int}{a:aV}(b:1<=kind)(c:kind<=255)(h3:ii a<=55):ii (dX kind a)=64:=by unfold dX;rw[f9 ⟨b,c,h3⟩];simp[ub h3,BO]
end Wl
namespace Go.Vc
open Go
def jf(s:ByteArray):aV:=s.data.toList
theorem BP(s:ByteArray):ii (jf s)=s.size:=rfl
def ags(n:Nat):Obj->Obj
 | .cells c elem (lo,hi)=>.cells c elem (if lo==hi then(n,n+1)else(min lo n,max hi (n+1)))
 |o=>o
theorem az.Xe{P:Program}{h:f8}{b n:Nat}{c:Array eX}{e:TypeId}{K:Unit->f8->Prop}(g:h[b]?=dB (.cells c e (0,0)))(k:n=c.size)(i:∀h',(∀x,x≠b->h'[x]?=h[x]?)->h'.size=h.size->(∃f,h'[b]?=dB (.cells c e f))->K () h'):
  az P (freeze {block:=b,off:=n} 1) h K:=λw d=>by
 refine⟨(),w.freeze {block:=b,off:=n} 1,run_freeze P w _ _,⟨i0,i0,i0,qm _⟩,?_⟩;subst d;have a:(w.freeze {block:=b,off:=n} 1).heap=w.heap.modify b (ags n):=rfl;refine i _ (λx j=>?_) ?_ ?_
 ·rw[a,yp,g0 λe=>j e.symm]
 ·rw[a];simp
 ·rw[a,yp,f9 i0,g];exact⟨_,i0⟩
variable {C:Ctx} {B:aA} {h h0:f8} {As:List HP} {t e ts:Nat}
theorem adl(j:C.Ok)(y:∃i,C.T.get ts=dB i/\i.db=.str)(F:∃i,C.T.get t=dB i/\i.db=.slice e)(p:∃i,C.T.get e=dB i/\i.db=.int .u8)(s:ByteArray){K:Sl->f8->Prop}(u:∀r h',Sp h h' [rY r 1 aD (jf s)]->K r h'):
  bV C.P (convert ts t (.string s)) (.one (.sc .slc)) h K:=by
 obtain⟨J,G,D⟩:=y;obtain⟨L,E,v⟩:=F;obtain⟨i3,a3,w⟩:=p;have z:C.P.underlying ts=dB .string:=by have:=j.db G;rw[D]at this;exact tj this
 have q:C.P.underlying t=dB (.slice e):=by have:=j.db E;rw[v]at this;exact jv this
 have u3:C.P.underlying e=dB (.int .u8):=by have:=j.db a3;rw[w]at this;exact FI this
 unfold bV convert;refine az.bind (az.always (aR z) ?_);refine az.bind (az.always (aR q) ?_);refine az.bind (az.always (aR u3) ?_);unfold Conv.stringToBytes;refine az.bind (az.Kx ⟨λA=>(by cases A),λ_ B=>?_⟩);generalize k:Question.cut (Question.appendCap s.size 0 e) B=cc;have m:s.size<=cc:=by rw[<-k];simp only[Question.cut];omega
 unfold newRow;refine az.bind (az.bind (az.pE (az.pure' ?_)));unfold markStringish;obtain⟨cs,a⟩:∃cs:Array eX,cs=s.data.map (λb=>Value.int .u8 b.toNat)++Array.replicate (cc-s.size) (Value.int .u8 0):=⟨_,rfl⟩
 rw[<-a];refine az.bind (az.bind (az.aem ?_));have d:shapeOf (h.push (.cells cs e)) h.size=dB (e,cs.size):=by unfold shapeOf;simp
 dsimp only;rw[d];refine az.Xe (c:=cs) (e:=e) i9 i0 λh' o l g=>?_;refine az.pure' ⟨⟨dB ⟨h.size,0,eH⟩,s.size,cc⟩,i0,u _ _ ?_⟩;obtain⟨f,g⟩:=g;refine .one ⟨by rw[l];simp,λb I _=>by rw[o b i4,Array.getElem?_push,g0 i4]⟩ ?_;refine⟨by rw[BP],λi x n=>⟨h.size,0,i0,⟨qm _,by rw[l];simp⟩,?_,trivial⟩⟩;rw[add_zero];have H:i<s.data.size:=by have:=(qn.1 n).1;simpa[jf]using this
 unfold f7;simp only[g,Nat.mul_one,wh,Option.isSome_none,zn,if_false];rw[a,Array.getElem?_append_left lb,Array.getElem?_map];have:s.data[i]?=dB x:=by rw[<-n];simp[jf]
 rw[this];rfl
variable {t2 k:Nat} {z:ba} {by_:Nat} {s:Sl} {l:aV}
theorem Nf(u:C.Ok)(B:bU C.toAO t e 1 z by_)(Y:∃i,C.T.get t2=dB i/\i.db=.str)(X:ii z=1)(A:0<by_/\by_<=128)
  (r:Own h e s 1 aD l) (x:ByteArray) (ab:ii l+x.size<=2^32) {ty:Nat} {K:Sl->f8->Prop}
  (D:∀G h',Own h' e G 1 aD (l++jf x)->aZ (λb=>¬s.on b) h h'->(∀b,G.on b->s.on b∨h.size<=b)->K G h'):
  bV C.P (qt #[t,t2] ty #[.slice s.ptr s.len s.cap,.string x]) (.one (.sc .slc)) h K:=by
 obtain⟨i2,g1,S⟩:=Y;have L:C.P.underlying t2=dB .string:=by have:=u.db g1;rw[S]at this;exact tj this
 obtain⟨I,w,x2,x3,V,x4,x5⟩:=B.info u;have n:∀y∈(jf x).flatMap aD,y.oneCell'=eR:=λy O=>by
  obtain⟨b,_,R⟩:=zS.1 O;exact iF b y R
 have g:((x.extract 0 x.size).data.map λb=>Value.int .u8 (b.toNat:Int))=((jf x).flatMap aD).toArray:=by
  have W:x.extract 0 x.size=x:=by apply ByteArray.ext;simp[ByteArray.data_extract]
  rw[W];apply yG;simp only[vV,jf];exact List.map_eq_flatMap
 unfold bV qt;simp only[zX,yE,qy];refine az.bind (az.always (aR (B.under u)) ?_);refine az.bind (az.always (B.size u) ?_);refine az.bind (az.always (aR L) ?_);refine az.bind (az.pure' ?_);simp only[zn,if_false,yg,if_true];refine az.bind (az.pure' ?_);have m:=r.len;have v:∀y,ii (aD y)=1:=λ_=>rfl;have j:=dK v l;have a:=dK v (jf x);have U:=BP x;have k:∀{h:f8} {K:Array eX->f8->Prop},K ((jf x).flatMap aD).toArray h->az C.P (wN 1 x.size (.string x)) h K:=λ{h K} hK=>by
  unfold wN;dsimp only;rw[g];exact az.pure' hK
 by_cases f:s.len+x.size<=s.cap
 ·rw[f9 f];refine az.bind (k ?_);rcases r.head with⟨p1,p2,p3⟩|⟨b,rest,p1,p2,p3,p4⟩
  ·rw[p1];have F:jf x=[]:=zc i4;refine az.pure' ⟨⟨eH,s.len+x.size,s.cap⟩,i0,D _ _ ⟨?_,.inl ⟨i0,p2,by simp[p3,F]⟩⟩ (aZ.refl _ _) ?_⟩
   ·simp;omega
   ·rintro M ⟨o,d⟩;cases d
  ·rw[p1];refine az.bind ?_;rw[add_eq,wh];have E:ii ((jf x).flatMap aD)<=ii rest:=by rw[a,p3];omega
   refine fx (e:=e) (pre:=l.flatMap aD) (old:=rest.take ((jf x).flatMap aD).length) (post:=rest.drop ((jf x).flatMap aD).length) ?_ ?_ ?_ ?_ ?_
   ·rw[qp,qF];exact p2
   ·rw[qU];exact w8 E
   ·rw[j,m];omega
   ·intro c hc;exact n c (by simpa using hc)
   ·refine az.pure' ⟨⟨dB ⟨b,0,eH⟩,s.len+x.size,s.cap⟩,i0,D _ _ ⟨?_,.inr ⟨b,rest.drop ((jf x).flatMap aD).length,i0,?_,?_,f⟩⟩ ?_ ?_⟩
    ·simp;omega
    ·rw[iI p2,f9 rfl];simp
    ·rw[zi,p3,a];show(s.cap-s.len)*1-ii (jf x)*1=(s.cap-(s.len+x.size))*1;omega
    ·exact aZ.jI p2 (λhn=>hn ⟨0,p1⟩)
    ·rintro M ⟨o,d⟩;cases d;exact .inl ⟨0,p1⟩
 ·rw[g0 f];have p:Seq h (λ_=>True) s 1 aD l:=r.seq v λ_ _=>trivial;have N:=r.cap;refine az.bind (az.always (dD w) ?_);rw[g0 λZ=>by rcases Z.2 with h|h<;>first|exact h|(rw[x3]at h;omega)];refine az.bind (az.always (dD w) ?_);have Q:=TA (s.len+x.size) s.cap;rw[g0 (by
   have:vn (s.len+x.size) s.cap*I.bytes<=(16*2^32+16*768)*128:=wb i4 (by rw[x3];exact A.2);omega)]
  refine az.bind (az.Kx ⟨λhf=>(by cases hf),λ_ nn=>?_⟩);refine az.bind (az.always (dD w) ?_);refine az.bind (az.He ?_);refine az.bind (gG v p ?_);refine az.bind (k ?_);have H:aK C.P (zeroValue e) V:=(dD w).bind (by rw[x4];exact .pure);refine az.bind (az.always H ?_);rw[x5,DN];unfold newRow;refine az.bind (az.bind (az.pE (az.pure' (az.pure' ?_))));generalize J:Question.cut (Question.appendCap (s.len+x.size) s.cap e) nn=cc;have q:s.len+x.size<=cc:=by rw[<-J];simp only[Question.cut];omega
  refine⟨⟨dB ⟨h.size,0,eH⟩,s.len+x.size,cc⟩,i0,D _ _ ⟨?_,.inr ⟨h.size,iR z (cc-(s.len+x.size)),i0,?_,?_,q⟩⟩ (aZ.push _ _ _) ?_⟩
  ·simp;omega
  ·simp
  ·rw[nT,X]
  ·rintro M ⟨o,d⟩;cases d;exact .inr (qm _)
theorem aa.Xf(w:C.Ok)(H:aa B h0 h As)(i:Nat)(F:As[i]?=dB (ae e s 1 aD l))(q:bU C.toAO t e 1 z by_)(v:∃i,C.T.get t2=dB i/\i.db=.str)(u:ii z=1)(j:0<by_/\by_<=128)
  (x:ByteArray) (m:ii l+x.size<=2^32) {ty:Nat} {K:Sl->f8->Prop} (r:∀f h',aa B h0 h' (As.set i (ae e f 1 aD (l++jf x)))->K f h'):
  bV C.P (qt #[t,t2] ty #[.slice s.ptr s.len s.cap,.string x]) (.one (.sc .slc)) h K:=by
 obtain⟨y,p,c,A,a⟩:=H;have g:=a i _ F;refine Nf w q v u j g.1 x m λf h' d o n=>r f h' ?_;refine aa.BJ y p A a (o.mono λb k E D=>E (g.2 b D)) ⟨d,λb k=>⟨d.lt k,?_⟩⟩;rcases n b k with h1|h1
 ·exact .inl (g.2 b h1)
 ·exact .inr h1
end Go.Vc
namespace Wl
open Go
structure cz where
 name:ByteArray
 object:Int
 length:Int
 tries:aw
structure aC where
 seq:Int
 next:Int
 p:Int×Int×Int
 extra:Int
 drives:aw
 aF:List cz
def afU:cz:=⟨⟨#[]⟩,0,0,[]⟩
def oE(l:List cz)(i:Nat):cz:=l.getD i afU
theorem nY{l:List cz}{i:Nat}(h:i<ii l:=by omega):oE l i=l[i]:=by unfold oE;rw[qe,qd h];rfl
def fm(n a b:Int):Bool:=decide (a<=n)&&decide (n<=b)
def mN(c:UInt8):Bool:=(decide (97<=c.toNat)&&decide (c.toNat<=122))||(decide (48<=c.toNat)&&decide (c.toNat<=57))||decide (c.toNat=45)
def mB(s:ByteArray):Bool:=s.data.toList.all mN&&(decide (1<=s.size)&&decide (s.size<=12))
def fp(a b:ByteArray):Bool:=Op.bytesLess a.toList b.toList
def jN(l:aw)(most:Int)(i:Nat):Bool:=fm (l.getD i 0) 0 most&&(decide (i=0)||decide (l.getD (i-1) 0<l.getD i 0))
def oF(l:aw)(most:Int):Bool:=(qz l.length).all (jN l most)
def countP(p:Int×Int×Int)(n:Int):Int:=if bM p&&decide (0<n)then(n-1)/(p.1*p.2.2)+1 else 0
def gX(m:aC)(x:cz):Bool:=
 mB x.name&&(fm x.object 0 (m.next-1)&&(fm x.length 0 (m.p.1*m.p.2.2*8)&&(x.tries.all (fm · 0 15)&&decide ((x.tries.length:Int)=countP m.p x.length))))
def oG(m:aC)(i:Nat):Bool:=
 gX m (oE m.aF i)&&((decide (i=0)||fp (oE m.aF (i-1)).name (oE m.aF i).name)&&!(m.aF.take i).any λy=>decide (y.object=(oE m.aF i).object))
def kV(m:aC):Bool:=fm m.seq 1 2147483647&&(fm m.next 0 16777216&&(bM m.p&&fm m.extra 0 16))
def bL(m:aC):Bool:=kV m&&(oF m.drives 63&&(decide (ii m.aF<=12)&&(qz m.aF.length).all (oG m)))
theorem Eb{p:Nat->Bool}{n i:Nat}(a:i<n)(h:p i=eS):(qz n).all p=eS:=List.all_eq_false.2 ⟨i,qJ.2 a,by rw[h];simp⟩
theorem se{p:Nat->Bool}{n:Nat}(h:∀i,i<n->p i=eR):(qz n).all p=eR:=q7.2 λi a=>h i (qJ.1 a)
def cg(n:Int)(k:Nat):aV:=(qz k).map λi=>b8 (qZ n (2^(8*(k-1-i))))
theorem cG(n:Int)(k:Nat):ii (cg n k)=k:=by simp[cg]
def jo(x:cz):aV:=b8 x.name.size::(x.name.data.toList++(cg x.object 3++(cg x.length 2++x.tries.map b8)))
def gN(m:aC):aV:=
 if bL m then cg m.seq 4++(cg m.next 4++([b8 m.p.1,b8 m.p.2.1,b8 m.p.2.2,b8 m.extra,b8 m.drives.length]++(m.drives.map b8++(b8 m.aF.length::m.aF.flatMap jo))))else[]
def kg(seq a c:Int)(b:aV):aV:=dX 2 (cg seq 4++([b8 a,b8 c,b8 b.length]++b))
def iB(b:aV):Nat:=(ii b+47)/48
def bn(m:aC):cI:=(qz (iB (gN m))).map λi:Nat=>kg m.seq i (iB (gN m)) (((gN m).drop (48*i)).take 48)
theorem Xg{m:aC}(h:bL m=eR):kV m=eR:=by unfold bL at h;simp at h;exact h.1
theorem OR{m:aC}(h:kV m=eR):(1<=m.seq/\m.seq<=2147483647)/\(0<=m.next/\m.next<=16777216)/\bM m.p=eR/\0<=m.extra/\m.extra<=16:=by unfold kV fm at h;simpa[and_assoc]using h
theorem sG{m:aC}{c:aV}(h:c∈bn m):ii c=64:=by unfold bn at h;obtain⟨i,_,rfl⟩:=qu.1 h;exact mh i5 i5 l9
structure cW where
 object:Int
 block:Int
 id:Int
 p:Int×Int×Int
 seed:Int
 data:aV
theorem oH(n:Int):((b8 n).toNat:Int)=n%256:=by have h0:=yn n (show(256:Int)≠0 by decide);have a:=wP n (show(0:Int)<256 by decide);unfold b8;rw[UInt8.toNat_ofNat'];omega
def jg(r:cW):Bool:=(fm r.object 0 16777215&&(fm r.block 0 7&&bW r.id))&&(bM r.p&&decide ((r.data.length:Int)=r.p.2.2))
def jc(r:cW):aV:=cg r.object 3++(cg r.block 1++(cg r.id 2++([b8 r.p.1,b8 r.p.2.1,b8 r.p.2.2]++(cg r.seed 4++r.data))))
def dn(r:cW):aV:=if jg r then dX 1 (jc r)else[]
def dF(l:aV):Int:=l.foldl (λn x=>n*256+x.toNat) 0
def fu(c:aV):Option (Int×aV):=
 if c.length=64/\dX ((c.getD 3 0).toNat:Int) ((c.drop 4).take 55)=c then dB (((c.getD 3 0).toNat:Int),(c.drop 4).take 55)else eH
def sH(x:aV):cW:=
 ⟨dF (x.take 3),dF ((x.drop 3).take 1),dF ((x.drop 4).take 2),(dF ((x.drop 6).take 1),dF ((x.drop 7).take 1),dF ((x.drop 8).take 1)),dF ((x.drop 9).take 4),(x.drop 13).take (dF ((x.drop 8).take 1)).toNat⟩
def dT(c:aV):Option cW:=
 match fu c with
 |some (k,x)=>if k=1/\bM (sH x).p=eR/\dn (sH x)=c then dB (sH x)else eH
 |none=>eH
theorem Xh(n:Int):cg n 1=[b8 n]:=by simp[cg]
theorem Xi(n:Int):cg n 2=[b8 (qZ n (2^8)),b8 n]:=by simp[cg,zT]
theorem RK(n:Int):cg n 3=[b8 (qZ n (2^16)),b8 (qZ n (2^8)),b8 n]:=by simp[cg,zT]
theorem IJ(n:Int):cg n 4=[b8 (qZ n (2^24)),b8 (qZ n (2^16)),b8 (qZ n (2^8)),b8 n]:=by simp[cg,zT]
theorem BQ{n:Int}(b:0<=n:=by omega)(a:n<256:=by omega):dF [b8 n]=n:=by simp only[dF,zE,wv,oH];omega
theorem fdiv_pow(n:Int)(k:Nat):qZ n (2^k)=n/(2^k):=yP _ (Int.pow_nonneg i5)
theorem aal{n:Int}(b:0<=n)(a:n<65536):dF (cg n 2)=n:=by rw[Xi,fdiv_pow];simp only[dF,zE,wv,oH];omega
theorem UN{n:Int}(b:0<=n)(a:n<16777216):dF (cg n 3)=n:=by rw[RK,fdiv_pow,fdiv_pow];simp only[dF,zE,wv,oH];omega
theorem LW{n:Int}(b:0<=n)(a:n<4294967296):dF (cg n 4)=n:=by rw[IJ,fdiv_pow,fdiv_pow,fdiv_pow];simp only[dF,zE,wv,oH];omega
theorem jO(r:cW):jg r=eR↔(0<=r.object/\r.object<=16777215)/\(0<=r.block/\r.block<=7)/\(0<=r.id/\r.id<=65535)/\bM r.p=eR/\(r.data.length:Int)=r.p.2.2:=by unfold jg fm bW;simp[and_assoc]
theorem ol{r:cW}(h:jg r=eR):ii (jc r)=13+ii r.data/\r.data.length<=24:=by obtain⟨_,_,_,a,b⟩:=(jO r).1 h;have:=(cm r.p).1 a;refine⟨by unfold jc;simp[cG];omega,i4⟩
theorem uc{r:cW}(h:jg r=eR):ii (dn r)=64:=by have:=ol h;unfold dn;rw[f9 h];exact mh i5 i5 i4
theorem xG{k:Int}{a:aV}(b:1<=k:=by decide)(d:k<=255:=by decide)(h3:ii a<=55:=by omega):fu (dX k a)=dB (k,a++qh (55-ii a) 0):=by
 obtain⟨x,c⟩:∃x,x=a++qh (55-ii a) 0:=⟨_,rfl⟩
 have e:ii x=55:=by rw[c];simp;omega
 have f:dX k a=[87,115,1,b8 k]++(x++(li (lX (dU k a))++[165])):=by unfold dX;rw[f9 ⟨b,d,h3⟩];unfold dU;rw[c];simp[qp]
 have g:((dX k a).getD 3 0)=b8 k:=by rw[f];rfl
 have e2:((dX k a).drop 4).take 55=x:=by rw[f];have:([87,115,1,b8 k]++(x++(li (lX (dU k a))++[165]))).drop 4=x++(li (lX (dU k a))++[165]):=rfl;rw[this,List.take_append_of_le_length i4,qi i4]
 have h:((b8 k).toNat:Int)=k:=by rw[oH];omega
 have j:dU k x=dU k a:=by unfold dU;rw[e,c];simp[qp]
 have i:dX k x=dX k a:=by unfold dX;rw[f9 ⟨b,d,i4⟩,f9 ⟨b,d,h3⟩,j]
 unfold fu;rw[g,e2,h,f9 ⟨mh b d h3,i⟩,c]
theorem UO{r:cW}(h:jg r=eR)(x:0<=r.seed/\r.seed<4294967296)(z:aV):sH (jc r++z)=r:=by
 obtain⟨A,w,h3,s,t⟩:=(jO r).1 h;have y:=(cm r.p).1 s;have l1:=cG r.object 3;have l2:=cG r.id 2;have f:=cG r.seed 4;have e:jc r++z=cg r.object 3++([b8 r.block]++(cg r.id 2++([b8 r.p.1]++([b8 r.p.2.1]++([b8 r.p.2.2]++(cg r.seed 4++(r.data++z))))))):=by unfold jc;rw[Xh];simp[qp]
 have b:∀(u v:aV) (n:Nat),u.length=n->∀m,(u++v).drop (n+m)=v.drop m:=λu v n d m=>by
  rw[<-zJ,<-d,List.drop_left]
 have a:∀(u v:aV) (n:Nat),u.length=n->(u++v).take n=u:=λu v n d=>by rw[<-d,vN]
 have o:(jc r++z).drop 3=[b8 r.block]++(cg r.id 2++([b8 r.p.1]++([b8 r.p.2.1]++([b8 r.p.2.2]++(cg r.seed 4++(r.data++z)))))):=by rw[e];exact b _ _ 3 l1 0
 have j:(jc r++z).drop 4=cg r.id 2++([b8 r.p.1]++([b8 r.p.2.1]++([b8 r.p.2.2]++(cg r.seed 4++(r.data++z))))):=by rw[show 4=3+1 from i0,<-zJ,o];rfl
 have i:(jc r++z).drop 6=[b8 r.p.1]++([b8 r.p.2.1]++([b8 r.p.2.2]++(cg r.seed 4++(r.data++z)))):=by rw[show 6=4+2 from i0,<-zJ,j];exact b _ _ 2 l2 0
 have k:(jc r++z).drop 7=[b8 r.p.2.1]++([b8 r.p.2.2]++(cg r.seed 4++(r.data++z))):=by rw[show 7=6+1 from i0,<-zJ,i];rfl
 have g:(jc r++z).drop 8=[b8 r.p.2.2]++(cg r.seed 4++(r.data++z)):=by rw[show 8=7+1 from i0,<-zJ,k];rfl
 have l:(jc r++z).drop 9=cg r.seed 4++(r.data++z):=by rw[show 9=8+1 from i0,<-zJ,g];rfl
 have c:(jc r++z).drop 13=r.data++z:=by rw[show 13=9+4 from i0,<-zJ,l];exact b _ _ 4 f 0
 have q:dF (((jc r++z).drop 8).take 1)=r.p.2.2:=by rw[g,a _ _ 1 i0,BQ]
 unfold sH;rw[q,o,j,i,k,l,c];rw[a [b8 r.block] _ 1 i0,a _ _ 2 l2,a [b8 r.p.1] _ 1 i0,a [b8 r.p.2.1] _ 1 i0,a _ _ 4 f];have t0:(jc r++z).take 3=cg r.object 3:=by rw[e];exact a _ _ 3 l1
 rw[t0,UN i4 i4,BQ,aal i4 i4,BQ,BQ,LW i4 i4];have:r.p.2.2.toNat=r.data.length:=i4
 rw[this,vN]
theorem xH{r:cW}(h:jg r=eR)(a:0<=r.seed/\r.seed<4294967296):dT (dn r)=dB r:=by
 have c:=ol h;have b:=((jO r).1 h).2.2.2.1;have e:dn r=dX 1 (jc r):=by unfold dn;rw[f9 h]
 unfold dT;rw[e,xG];dsimp only;rw[UO h a,f9 ⟨i0,b,e⟩]
theorem UP{c:aV}{r:cW}(h:dT c=dB r):dn r=c/\jg r=eR/\bM r.p=eR:=by
 unfold dT at h;cases hc:fu c with
 |none=>rw[hc]at h;cases h
 |some kx=>
  rw[hc]at h;dsimp only at h;by_cases a:kx.1=1/\bM (sH kx.2).p=eR/\dn (sH kx.2)=c
  ·rw[f9 a]at h;injection h with h
   subst h;refine⟨a.2.2,?_,a.2.1⟩;by_cases d:jg (sH kx.2)=eR
   ·exact d
   ·exfalso;have b:=a.2.2;unfold dn at b;rw[g0 d]at b;unfold fu at hc;rw[<-b]at hc;simp at hc
  ·rw[g0 a]at h;cases h
end Wl
namespace Go.Vc
open Go
variable {C:Ctx} {h:f8} {t e ts:Nat}
theorem GH:∀(l:aV) (b:ByteArray),l.foldl ByteArray.push b=⟨(b.data.toList++l).toArray⟩
 |[],b=>i9
 |x::l,b=>by
  rw[zE,GH l (b.push x)];simp[ByteArray.push]
theorem TG(q:C.Ok)(J:∃i,C.T.get t=dB i/\i.db=.slice e)(F:∃i,C.T.get ts=dB i/\i.db=.str)(z:∃i,C.T.get e=dB i/\i.db=.int .u8){s:Sl}{l:aV}{p:aA}(w:Seq h p s 1 aD l){K:ByteArray->f8->Prop}(u:K ⟨l.toArray⟩ h):
  bV C.P (convert t ts (.slice s.ptr s.len s.cap)) (.one (.sc .str)) h K:=by
 obtain⟨M,L,H⟩:=F;obtain⟨N,I,D⟩:=J;obtain⟨i3,a3,E⟩:=z;have G:C.P.underlying ts=dB .string:=by have:=q.db L;rw[H]at this;exact tj this
 have A:C.P.underlying t=dB (.slice e):=by have:=q.db I;rw[D]at this;exact jv this
 have u3:C.P.underlying e=dB (.int .u8):=by have:=q.db a3;rw[E]at this;exact FI this
 unfold bV convert;refine az.bind (az.always (aR A) ?_);refine az.bind (az.always (aR G) ?_);refine az.bind (az.always (aR u3) ?_);unfold Conv.bytesToString;have d:=gG (P:=C.P) (f:=aD) (k:=1) (K:=λcs h'=>cs=(l.flatMap aD).toArray/\h'=h) (λ_=>rfl) w ⟨i0,i0⟩;cases hp:s.ptr with
 |none=>
  have:l=[]:=by
   cases l with
   |nil=>rfl
   |cons x r=>obtain⟨b,o,y,_⟩:=w.elem 0 x i9;rw[hp]at y;cases y
  subst this;exact az.pure' ⟨⟨#[]⟩,i0,u⟩
 |some a=>
  rw[hp]at d;dsimp only;have g:az C.P (loadCells a s.len) h λcs h'=>cs=(l.flatMap aD).toArray/\h'=h:=by
   have:wN 1 s.len (.slice (dB a) s.len s.cap)=loadCells a s.len:=by unfold wN;simp
   rw[<-this];exact d
  refine az.bind (g.mono ?_);rintro _ _ ⟨rfl,rfl⟩;have j:∀(l:aV) (b:ByteArray),aK C.P (forIn (m:=Sem) (l.flatMap aD) b λc r=>match c with
    |xt xA n=>do pure (ForInStep.yield (r.push (yJ n.toNat)))
    |_=>do let r<-stuck "bytesToString: byte expected";pure r) (l.foldl ByteArray.push b):=λl=>by
   induction l with
   |nil=>intro b;exact .pure
   |cons x l ih=>
    intro b;have B:(x::l).flatMap aD=Value.int .u8 x.toNat::l.flatMap aD:=rfl;rw[B,List.forIn_cons];have e2:b.push (yJ ((x.toNat:Int)).toNat)=b.push x:=by rw[ql];congr 1;apply wT.1;simp
    refine aK.bind (v:=ForInStep.yield (b.push x)) (by dsimp only;rw[e2];exact .pure) ?_;exact ih _
  refine az.bind (az.always (v:=l.foldl ByteArray.push ByteArray.empty) ?_ ?_)
  ·rw[List.forIn_toArray];exact j l _
  ·refine az.pure' ⟨_,i0,?_⟩;rw[GH];exact u
end Go.Vc
namespace Wl
variable {α:Type}
section
variable (le:α->α->Bool)
def iS(a b:α):Bool:=le a b&&le b a
def cH(l l':List α):Prop:=∀x,l.filter (iS le x)=l'.filter (iS le x)
def Sd(l:List α):Prop:=l.Pairwise λa b=>le a b=eR
structure Ord:Prop where
 trans:∀a b c,le a b=eR->le b c=eR->le a c=eR
 total:∀a b,(le a b||le b a)=eR
variable {le}
theorem Ord.Ec(o:Ord le){a b:α}(h:¬le a b=eR):le b a=eR:=by
 have:=o.total a b;cases h1:le a b with
 |true=>exact absurd h1 h
 |false=>rw[h1]at this;simpa using this
theorem Ord.refl(o:Ord le)(a:α):le a a=eR:=by have:=o.total a a;simpa using this
theorem cH.refl(l:List α):cH le l l:=λ_=>rfl
theorem cH.trans{l1 l2 a:List α}(h:cH le l1 l2)(k:cH le l2 a):cH le l1 a:=λx=>(h x).trans (k x)
theorem cH.symm{l1 l2:List α}(h:cH le l1 l2):cH le l2 l1:=λx=>(h x).symm
theorem cH.app{a b c d:List α}(h:cH le a b)(k:cH le c d):cH le (a++c) (b++d):=λx=>by
 rw[zq,zq,h x,k x]
theorem cH.mem(o:Ord le){l l':List α}(h:cH le l l'){y:α}(b:y∈l'):y∈l:=by have a:y∈l'.filter (iS le y):=qH.2 ⟨b,nb⟩;rw[<-h y]at a;exact(qH.1 a).1
theorem cH.Xj(o:Ord le){u v:List α}(h:∀x∈u,∀y∈v,¬le x y=eR):cH le (u++v) (v++u):=λz=>by
 rw[zq,zq];by_cases f:u.filter (iS le z)=[]
 ·rw[f];simp
 ·by_cases e:v.filter (iS le z)=[]
  ·rw[e];simp
  ·exfalso;obtain⟨x,i⟩:=List.exists_mem_of_ne_nil _ f;obtain⟨y,g⟩:=List.exists_mem_of_ne_nil _ e;obtain⟨d,b⟩:=qH.1 i;obtain⟨c,a⟩:=qH.1 g;unfold iS at b a;simp only[qC]at b a;exact h x d y c (o.trans _ _ _ b.2 a.1)
theorem cH.OS(o:Ord le){l:List α}(h:cH le [] l):l=[]:=by
 cases l with
 |nil=>rfl
 |cons a l=>exact absurd (cH.mem o h (qI ..)) i9
theorem LX(o:Ord le):∀(l l':List α),Sd le l->Sd le l'->cH le l l'->l=l'
 |[],l',_,_,h=>(cH.OS o h).symm
 |a::l,[],_,_,h=>absurd (cH.OS o h.symm) i9
 |a::l,b::l',s,s',h=>by
  have c:a=b:=by
   have f:le a b=eR:=by
    have:=cH.mem o h (y:=b) (qI ..);rcases q8.1 this with e|e
    ·rw[e];exact o.refl _
    ·exact(zG.1 s).1 _ e
   have g:le b a=eR:=by
    have:=cH.mem o h.symm (y:=a) (qI ..);rcases q8.1 this with e|e
    ·rw[e];exact o.refl _
    ·exact(zG.1 s').1 _ e
   have h3:=h a;have d:iS le a a=eR:=nb
   have e2:iS le a b=eR:=by unfold iS;rw[f,g];rfl
   rw[vb d,vb e2]at h3;injection h3
  subst c;rw[LX o l l' (zG.1 s).2 (zG.1 s').2 λx=>by
   have h3:=h x;rw[zr,zr]at h3;split at h3
   ·injection h3
   ·exact h3]
theorem Ed(o:Ord le)(l:List α):Sd le (l.mergeSort le)/\cH le l (l.mergeSort le):=by
 refine⟨vd o.trans o.total l,λx=>?_⟩;have g:(l.filter (iS le x)).Pairwise λa b=>le a b=eR:=by rw[List.pairwise_filter];refine List.Pairwise.imp ?_ (List.pairwise_of_forall (l:=l) (R:=λ_ _=>True) λ_ _=>trivial);intro a b _ d e;unfold iS at d e;simp only[qC]at d e;exact o.trans _ _ _ d.2 e.1
 have f:=List.sublist_mergeSort o.trans o.total g List.filter_sublist;have c:=f.filter (iS le x);rw[List.filter_filter]at c;simp only[Bool.and_self]at c;exact c.eq_of_length ((ym l le).symm.filter _).length_eq
theorem ack(o:Ord le){l l':List α}(s:Sd le l')(h:cH le l l'):l'=l.mergeSort le:=by obtain⟨a,b⟩:=Ed o l;exact LX o _ _ s a (h.symm.trans b)
theorem Sd.app(o:Ord le){u v:List α}(b:Sd le u)(a:Sd le v)(h:∀x∈u,∀y∈v,le x y=eR):Sd le (u++v):=yc.2 ⟨b,a,h⟩
theorem Sd.left{u v:List α}(h:Sd le (u++v)):Sd le u:=(yc.1 h).1
theorem Sd.right{u v:List α}(h:Sd le (u++v)):Sd le v:=(yc.1 h).2.1
theorem Sd.FS{u v:List α}(h:Sd le (u++v)):∀x∈u,∀y∈v,le x y=eR:=(yc.1 h).2.2
theorem Sd.at_(o:Ord le){l:List α}(h:Sd le l){i j:Nat}(b:i<=j)(a:j<ii l):le (l[i]'(by omega)) l[j]=eR:=by
 by_cases e:i=j
 ·subst e;exact o.refl _
 ·exact zu.1 h i j i4 a i4
theorem Xk(o:Ord le){l1 l2 a b f g:List α}(k:Sd le (l1++l2))(n:Sd le (a++b))(h:∀x∈l1,∀y∈b,le x y=eR)(e:∀x∈l2,∀y∈a,¬le x y=eR)
  (i:cH le (l1++a) f) (l:Sd le f) (j:cH le (l2++b) g) (m:Sd le g):Sd le (f++g)/\cH le ((l1++l2)++(a++b)) (f++g):=by
 constructor
 ·refine Sd.app o l m λx d y c=>?_;rcases qA.1 (cH.mem o i d)with d|d<;>rcases qA.1 (cH.mem o j c)with c|c
  ·exact k.FS x d y c
  ·exact h x d y c
  ·exact o.Ec (e y c x d)
  ·exact n.FS x d y c
 ·have p:cH le ((l1++l2)++(a++b)) ((l1++a)++(l2++b)):=by rw[show(l1++l2)++(a++b)=l1++((l2++a)++b)by simp,show(l1++a)++(l2++b)=l1++((a++l2)++b)by simp];exact(cH.refl _).app ((cH.Xj o e).app (cH.refl _))
  exact p.trans (i.app j)
end
variable {le:α->α->Bool}
theorem tm(o:Ord le):∀{l l':List α},cH le l l'->ii l=ii l'
 |[],l',h=>by rw[cH.OS o h]
 |a::l,l',h=>by
  have p:=cH.mem o h.symm (y:=a) (qI ..);obtain⟨u,v,w⟩:=List.append_of_mem p;have n:∃(u:List α) (b:α) (v:List α),l'=u++b::v/\(∀x∈u,iS le a x=eS)/\iS le a b=eR:=by
   have k:l'.filter (iS le a)≠[]:=λF=>by
    have:a∈l'.filter (iS le a):=qH.2 ⟨p,nb⟩;rw[F]at this;cases this
   clear w u v p h
   induction l' with
   |nil=>exact absurd i0 k
   |cons c l' ih=>
    by_cases s:iS le a c=eR
    ·exact⟨[],c,l',i0,i9,s⟩
    ·rw[List.filter_cons_of_neg s]at k;obtain⟨u,b,v,e,f,g⟩:=ih k;refine⟨c::u,b,v,o1,λx i=>?_,g⟩;rcases q8.1 i with rfl|i
     ·simpa using s
     ·exact f x i
  obtain⟨u,b,v,rfl,z,B⟩:=n;have D:iS le a a=eR:=nb
  have m:=h a;have r:u.filter (iS le a)=[]:=wX.2 λx i=>by rw[z x i];simp
  rw[vb D,zq,r,wx,vb B]at m;have q:a=b:=by injection m
  subst q;have E:cH le l (u++v):=λx=>by
   have i:=h x;rw[zr,zq,zr]at i;rw[zq];by_cases d:iS le x a=eR
   ·rw[f9 d,f9 d]at i;have t:u.filter (iS le x)=[]:=wX.2 λy A j=>by
     have:=z y A;unfold iS at this d j;simp only[qC]at d j;rw[o.trans _ _ _ d.2 j.1,o.trans _ _ _ j.2 d.1]at this;cases this
    rw[t,wx]at i⊢;injection i
   ·rw[g0 d,g0 d]at i;exact i
  rw[zh,tm o E];simp;omega
end Wl
namespace Go.Vc
open Go
theorem IK{P:Program}{id:FuncId}(E:∀(ga off cap:Nat) (i:aw) (w:World),Sort.Holds (Value.int .i64) w ga off i.toArray->ii i<=9223372036854775807->ii i<=cap->
   Calls P id #[.slice (dB ⟨ga,off,eH⟩) i.length cap] w λe p=>e=.returned (.slice (dB ⟨ga,off,eH⟩) (Lib.compact i).length cap)/\∃q,p=Sort.putRow (Value.int .i64) (Sort.ahead w q) ga off (Lib.compact i++qh (ii i-ii (Lib.compact i)) 0).toArray)
  (H:∀(a:bm) (cap:Nat) (w:World),Calls P id #[.slice a 0 cap] w λe p=>e=.returned (.slice a 0 cap)/\p=w)
  {e:TypeId} {s:Sl} {l:aw} {h:f8} (u:Own h e s 1 ak l) (F:ii l<2^40):
  aq P id #[.slice s.ptr s.len s.cap] h λv h'=>v=.slice s.ptr (Lib.compact l).length s.cap/\Own h' e ⟨s.ptr,ii (Lib.compact l),s.cap⟩ 1 ak (Lib.compact l)/\aZ (λb=>¬s.on b) h h':=by
 intro w o;have f:=u.len;have z:=u.cap;rcases u.head with⟨h1,h2,h3⟩|⟨b,rest,h1,h2,h3,h4⟩
 ·subst h3;have A:Lib.compact ([]:aw)=[]:=rfl;rw[f,h1];refine(H eH s.cap w).mono ?_;rintro B p ⟨rfl,rfl⟩;refine⟨_,i0,dG.refl _,by rw[A];rfl,by rw[A];exact⟨i0,.inl ⟨i0,by simpa using h2,i0⟩⟩,by rw[<-o];exact aZ.refl _ _⟩
 ·rw[h1,f];have t:w.heap[b]?=dB (.cells (l.flatMap ak++rest).toArray e (0,0)):=by rw[o];exact h2
  refine(E b 0 s.cap l w (LU t) i4 i4).mono ?_;rintro B p ⟨rfl,n,rfl⟩;have r:=lt_of_block t;have G:=Lib.compact_length_le l;obtain⟨l',g⟩:∃l',l'=Lib.compact l++qh (ii l-ii (Lib.compact l)) 0:=⟨_,rfl⟩
  rw[<-g];have m:ii l'=ii l:=by rw[g];simp;omega
  have c:∀k,k<h.size->(Sort.putRow (Value.int .i64) (Sort.ahead w n) b 0 l'.toArray).heap[k]?=if b=k then dB (.cells (l'.flatMap ak++rest).toArray e (0,0))else h[k]?:=by
   intro k y;simp only[Sort.putRow,Sort.mapBlock,Sort.ahead,yp];by_cases d:b=k
   ·subst d;rw[f9 i0,f9 i0,t,q9,Sort.onCells,OK _ _ _ m]
   ·rw[g0 d,g0 d,o]
  rw[o]at r;have x:Own (Sort.putRow (Value.int .i64) (Sort.ahead w n) b 0 l'.toArray).heap e s 1 ak l':=⟨by rw[m];exact f,.inr ⟨b,rest,h1,by rw[c b r,f9 rfl],h3,h4⟩⟩
  have j:=x.cut (λ_=>rfl) (Lib.compact l).length i4;rw[g,vN]at j;refine⟨_,i0,⟨i0,i0,i0,by simp[Sort.putRow,Sort.mapBlock,Sort.ahead]⟩,i0,by rw[h1]at j;rw[g];exact j,by simp[Sort.putRow,Sort.mapBlock,Sort.ahead,o],?_⟩;intro k y D;rw[c k y,g0 λd=>D ⟨0,by rw[h1,d]⟩]
end Go.Vc
namespace Wl
open Go
theorem ud(a:aw)(t:a.Pairwise (·<=·)):∀m,m<=ii a->(Lib.compactUpTo a.toArray m).Pairwise (·<·)/\(∀x,x∈Lib.compactUpTo a.toArray m↔∃j,j<m/\a[j]?=dB x)
 |0,_=>⟨by simp[Lib.compactUpTo],λx=>by simp[Lib.compactUpTo]⟩
 |m+1,hm=>by
  obtain⟨v,r⟩:=ud a t m i4;have b:m<ii a:=i4
  have q:a.toArray[m]! =a[m]:=l4
  rw[Lib.compactUpTo_succ,q];have p:∀j (f:j<m),a[j]'(by omega)<=a[m]:=λj f=>zu.1 t j m i4 b f;by_cases i:Lib.keeps a.toArray m=eR
  ·rw[f9 i];have o:m=0∨a[m-1]'(by omega)<a[m]:=by
    by_cases k:m=0
    ·exact .inl k
    ·right;have g:a.toArray[m-1]! =a[m-1]'(by omega):=by simp[show m-1<ii a by omega]
     have z:a[m]≠a[m-1]'(by omega):=λn=>by
      have:=Lib.keeps_neg (d:=a.toArray) (m:=m) i4 (by rw[q,g];exact n);rw[this]at i;cases i
     have:=p (m-1) i4;omega
   have l:∀x∈Lib.compactUpTo a.toArray m,x<a[m]:=λx u=>by
    obtain⟨j,f,h⟩:=(r x).1 u;rw[qd i4]at h;injection h with h
    rcases o with h0|h0
    ·omega
    ·have h3:a[j]'(by omega)<=a[m-1]'(by omega):=by
      by_cases c:j=m-1
      ·subst c;exact Int.le_refl _
      ·exact zu.1 t j (m-1) i4 i4 i4
     omega
   refine⟨yc.2 ⟨v,i9,λx u y w=>?_⟩,λx=>?_⟩
   ·rw[qB.1 w];exact l x u
   ·rw[qA,r,qB];constructor
    ·rintro(⟨j,f,e⟩|rfl)
     ·exact⟨j,i4,e⟩
     ·exact⟨m,i4,qd b⟩
    ·rintro⟨j,f,e⟩;by_cases c:j=m
     ·subst c;rw[qd b]at e;injection e with e;exact .inr e.symm
     ·exact .inl ⟨j,i4,e⟩
  ·rw[g0 i,qM];have k:m≠0:=λh0=>i (by subst h0;exact Lib.keeps_lt_one _ 0 i4);have s:a[m]=a[m-1]'(by omega):=by
    by_cases n:a[m]=a[m-1]'(by omega)
    ·exact n
    ·have g:a.toArray[m-1]! =a[m-1]'(by omega):=by simp[show m-1<ii a by omega]
     exact absurd (Lib.keeps_pos (d:=a.toArray) (m:=m) (by rw[q,g];exact n)) i
   refine⟨v,λx=>?_⟩;rw[r];constructor
   ·rintro⟨j,f,e⟩;exact⟨j,i4,e⟩
   ·rintro⟨j,f,e⟩;by_cases c:j=m
    ·subst c;refine⟨j-1,i4,?_⟩;rw[qd b]at e;rw[qd i4,<-s];exact e
    ·exact⟨j,i4,e⟩
theorem Ee(l:aw):(ja l).Pairwise (·<=·):=by have:=vd (le:=λx y:Int=>decide (x<=y)) (by intro a b c d e;simp at d e⊢;omega) (by intro a b;simp;omega) l;exact this.imp λh=>j5
theorem UQ(l:aw)(h:∀x∈l,0<=x/\x<64):Lib.compact (ja l)=cL l:=by
 obtain⟨d,c⟩:=ud (ja l) (Ee l) (ja l).length (qm _);have m:∀x,x∈Lib.compact (ja l)↔x∈l:=λx=>by
  unfold Lib.compact;rw[c,<-wn l x,List.mem_iff_getElem?];constructor
  ·rintro⟨j,_,e⟩;exact⟨j,e⟩
  ·rintro⟨j,e⟩;exact⟨j,(qn.1 e).1,e⟩
 have g:(cL l).Pairwise (·<·):=by unfold cL;refine List.Pairwise.filter _ ?_;rw[List.pairwise_map];exact List.pairwise_lt_range.imp λh=>i4
 have f:∀x,x∈cL l↔x∈l:=λx=>by
  unfold cL;rw[qH,qu];constructor
  ·rintro⟨_,c⟩;simpa using c
  ·intro i;obtain⟨a,b⟩:=h x i;exact⟨⟨x.toNat,qJ.2 i4,i4⟩,by simpa using i⟩
 have k:(Lib.compact (ja l)).Perm (cL l):=(List.perm_ext_iff_of_nodup (d.imp λh=>i4) (g.imp λh=>i4)).2 λx=>(m x).trans (f x).symm;exact k.eq_of_pairwise (le:=(·<·)) (λa b _ _ d c=>i4) d g
def ck(o b t:Int):Int:=(128*o+16*b+t)%4294967296
def eN(m:aC)(r:cW):Bool:=jg r&&(decide (r.p=m.p)&&m.aF.any λx=>decide (x.object=r.object)&&(decide (r.block<(x.tries.length:Int))&&decide (r.seed=ck r.object r.block (x.tries.getD r.block.toNat 0))))
def pA(a b:cW):Bool:=decide (a.object<b.object∨(a.object=b.object/\(a.block<b.block∨(a.block=b.block/\a.id<=b.id))))
def nN(a b:cW):Bool:=decide (a.object=b.object/\a.block=b.block/\a.id=b.id)
def IL:cW:=⟨0,0,0,(0,0,0),0,[]⟩
def oI(l:List cW)(k:Nat):Bool:=decide (k=0)||!nN (l.getD k IL) (l.getD (k-1) IL)
def oJ(l:List cW):List cW:=((qz l.length).filter (oI l)).map λi=>l.getD i IL
def jd(m:aC)(c:aV):Option cW:=match dT c with|some r=>if eN m r then dB r else eH|none=>eH
def cM(m:aC)(l:cI):List cW:=oJ ((l.filterMap (jd m)).mergeSort pA)
theorem aeA:Ord pA:=⟨λa b c d e=>by
 unfold pA at*;rw[decide_eq_true_eq]at*;omega,λa b=>by
 unfold pA;rw[wu,decide_eq_true_eq,decide_eq_true_eq];omega⟩
theorem UR(m:aC)(l:cI)(i:Nat)(a:i<ii l):(l.take (i+1)).filterMap (jd m)=(l.take i).filterMap (jd m)++(jd m l[i]).toList:=by
 have:l.take (i+1)=l.take i++[l[i]]:=by rw[List.take_add_one,qd a];rfl
 rw[this,List.filterMap_append];cases hg:jd m l[i]with
 |none=>simp[hg]
 |some r=>simp[hg]
end Wl
namespace Go.Vc
open Go
variable {B:aA} {α:Type} {C:Ctx} {h0 h:f8} {As:List HP} {e t k by_:Nat} {s:Sl} {f:α->ba} {l:List α} {z:ba}
theorem Db(z:ba)(n:Nat):(yD z.toArray n).toList.length=n*ii z:=by simp[yD]
theorem Ng{z:ba}(d:∀v∈z,v.oneCell'=eR)(n:Nat):∀v∈(yD z.toArray n).toList,v.oneCell'=eR:=by
 intro v c;simp only[yD,vV,qu,Array.mem_toList_iff,Array.mem_range]at c;obtain⟨i,a,rfl⟩:=c;simp only[yh]at a⊢;have h0:0<ii z:=by
  rcases Nat.eq_zero_or_pos z.length with h|h
  ·rw[h]at a;simp at a
  ·exact h
 have b:=vm i h0;rw[getElem!_pos z.toArray _ j6];exact d _ i9
theorem Own.om(B:C.Ok)(g:Own h e s k f l)(y:bU C.toAO t e k z by_)(r:∀x,ii (f x)=k)(A:ii z=k)(d:∀v∈z,v.oneCell'=eR)(j:Nat)(w:j<=ii l){ty:Nat}{K:f8->Prop}
  (i:∀h',Own h' e ⟨s.ptr,j,s.cap⟩ k f (l.take j)->aZ (λb=>¬s.on b) h h'->K h'):
  az C.P (yM #[t] ty #[.slice (if s.cap=j then s.ptr else s.ptr.map (·.add (j*k))) (s.len-j) (s.cap-j)]) h λ_ h'=>K h':=by
 have U:=g.len;have c:=g.cut r j w;unfold yM;refine az.bind (az.always (aR (y.under B)) ?_);by_cases u:j=ii l
 ·have I:s.len-j=0:=i4
  rw[I];generalize (if s.cap=j then s.ptr else s.ptr.map (·.add (j*k)))=q;cases q with
  |none=>exact az.pure' (i h c (aZ.refl _ _))
  |some a=>exact az.pure' (i h c (aZ.refl _ _))
 ·rcases g.head with⟨h1,h2,h3⟩|⟨b,rest,h1,h2,h3,h4⟩
  ·subst h3;simp at w u;omega
  ·have o:s.cap≠j:=i4
   rw[g0 o,h1];obtain⟨m,G⟩:∃m,s.len-j=m+1:=⟨s.len-j-1,i4⟩
   rw[G];obtain⟨T,O,S,N,M,R,F,Q⟩:=y.ex;obtain⟨H,D,L⟩:=ro B.toOk M;refine az.bind (az.always D ?_);have n:H.cells=z.toArray:=by apply yG;rw[L,F]
   rw[n];refine az.bind ?_;have E:((⟨b,0,eH⟩:eY).add (j*k))=⟨b,j*k,eH⟩:=by simp[add_eq]
   show az C.P (storeCells ((⟨b,0,eH⟩:eY).add (j*k)) (yD z.toArray (m+1)).toList) h _;rw[E];have p:ii (l.drop j)=m+1:=i7
   refine fx (e:=e) (pre:=(l.take j).flatMap f) (old:=(l.drop j).flatMap f) (post:=rest) ?_ ?_ ?_ (Ng d _) ?_
   ·rw[<-zg,qF];exact h2
   ·rw[dK r,p,Db,A]
   ·rw[dK r,qU,w8 i4];omega
   ·refine az.pure' (i _ ⟨i7,.inr ⟨b,(yD z.toArray (m+1)).toList++rest,h1,?_,?_,i6⟩⟩ ?_)
    ·rw[iI h2,f9 rfl];simp
    ·rw[qw,Db,A,h3,<-Nat.add_mul];dsimp only;congr 1;omega
    ·exact aZ.jI h2 λJ=>J ⟨0,h1⟩
theorem aa.om(u:C.Ok)(H:aa B h0 h As)(i:Nat)(g:As[i]?=dB (ae e s k f l))(o:bU C.toAO t e k z by_)(w:∀x,ii (f x)=k)(r:ii z=k)(a:∀v∈z,v.oneCell'=eR)(j:Nat)(n:j<=ii l){ty:Nat}{K:f8->Prop}
  (p:∀h',aa B h0 h' (As.set i (ae e ⟨s.ptr,j,s.cap⟩ k f (l.take j)))->K h'):
  az C.P (yM #[t] ty #[.slice (if s.cap=j then s.ptr else s.ptr.map (·.add (j*k))) (s.len-j) (s.cap-j)]) h λ_ h'=>K h':=
 (H.own i g).om u o w r a j n λh' x y=>p h' (H.step i g λq m _=>⟨y.mono λb _ c d=>c (m.2 b d),x,λb c=>⟨x.lt c,.inl (m.2 b c)⟩⟩)
end Go.Vc
namespace Wl
open Go
theorem Ob:∀x y:aV,(Op.bytesLess x y||x==y)=!Op.bytesLess y x
 |[],[]=>rfl
 |[],_::_=>rfl
 |_::_,[]=>by simp[Op.bytesLess]
 |a::x,b::y=>by
  have f:=Ob x y;have d:a<b∨a=b∨b<a:=by
   rcases yi a.toNat b.toNat with h|h|h
   ·exact .inl (zY.2 h)
   ·exact .inr (.inl (wT.1 h))
   ·exact .inr (.inr (zY.2 h))
  rcases d with h|rfl|h
  ·have c:¬b<a:=λh'=>by have:=zY.1 h;have:=zY.1 h';omega
   have e:b≠a:=λh'=>by subst h';exact c h
   simp[Op.bytesLess,h,c,e]
  ·have c:¬a<a:=λh'=>by have:=zY.1 h';omega
   simp only[Op.bytesLess,c,decide_false,Bool.false_or,beq_self_eq_true,wA];rw[<-f];congr 1;simp
  ·have c:¬a<b:=λh'=>by have:=zY.1 h;have:=zY.1 h';omega
   have e:a≠b:=λh'=>by subst h';exact c h
   simp[Op.bytesLess,h,c,e]
theorem FT:∀x y z:aV,Op.bytesLess x y=eR->Op.bytesLess y z=eR->Op.bytesLess x z=eR
 |x,[],_,h1,_=>by cases x<;>simp[Op.bytesLess]at h1
 |_,b::y,[],_,h2=>by simp[Op.bytesLess]at h2
 |[],_::_,_::_,_,_=>rfl
 |a::x,b::y,c::z,h1,h2=>by
  simp only[Op.bytesLess,wu,decide_eq_true_eq,qC,beq_iff_eq]at h1 h2⊢;rcases h1 with h1|⟨rfl,h1⟩
  ·rcases h2 with h2|⟨rfl,h2⟩
   ·exact .inl (zY.2 (by have:=zY.1 h1;have:=zY.1 h2;omega))
   ·exact .inl h1
  ·rcases h2 with h2|⟨rfl,h2⟩
   ·exact .inl h2
   ·exact .inr ⟨i0,FT x y z h1 h2⟩
theorem Xl(x:aV):Op.bytesLess x x=eS:=by
 have:=Ob x x;cases h:Op.bytesLess x x with
 |false=>rfl
 |true=>rw[h]at this;simp at this
def jP(a b:ByteArray):Bool:=!fp b a
theorem IM(a b:ByteArray):jP a b=eR↔fp a b=eR∨a.toList=b.toList:=by unfold jP fp;rw[<-Ob,wu,beq_iff_eq]
theorem Ef(a b c:ByteArray)(d:jP a b=eR)(e:jP b c=eR):jP a c=eR:=by
 rw[IM]at d e⊢;unfold fp at*;rcases d with d|d
 ·rcases e with e|e
  ·exact .inl (FT _ _ _ d e)
  ·rw[<-e];exact .inl d
 ·rw[d];exact e
theorem Eg(a b:ByteArray):(jP a b||jP b a)=eR:=by
 unfold jP;cases h:fp b a with
 |false=>rfl
 |true=>
  have:fp a b=eS:=by
   cases h2:fp a b with
   |false=>rfl
   |true=>
    have:=FT _ _ _ h h2;rw[Xl]at this;cases this
  rw[this];rfl
def sI(a b:cz):Bool:=jP a.name b.name
def iC(m:aC)(x:cz):aC:={m with seq:=m.seq+1,next:=m.next+1,aF:=(m.aF++[x]).mergeSort sI}
open Classical
theorem lF(a:UInt8):a^^^a=0:=UInt8.xor_self
theorem pO(a b:UInt8):(a^^^b)^^^b=a:=by rw[UInt8.xor_assoc,lF,zV]
theorem cN{c:UInt8}{a t:Row}(h:ii a=ii t)(j:Nat):aN (cY c a t) j=aN t j^^^Gf.mul c (aN a j):=by
 simp only[aN,cY,qe,wg];by_cases b:j<ii a
 ·rw[qd b,qd i4];rfl
 ·rw[qP i4,qP i4];simp[Gf.mul_zero]
theorem xI(c:UInt8)(a:Row)(j:Nat):aN (scaleB c a) j=Gf.mul c (aN a j):=by
 simp only[aN,scaleB,qe,qR];cases a[j]? with
 |none=>simp[Gf.mul_zero]
 |some x=>rfl
def aJ(n:Nat):Row:=qh n 0
theorem cB(n j:Nat):aN (aJ n) j=0:=by simp only[aN,aJ,qe,List.getElem?_replicate];split<;>rfl
theorem eO{n:Nat}{a b:Row}(e:ii a=n)(f:ii b=n)(h:∀j,j<n->aN a j=aN b j):a=b:=by apply wB i4;intro j d c;have:=h j i4;simpa[aN,qe,qd d,qd c]using this
inductive Span (n:Nat) (m:aL):Row->Prop
 |zero:Span n m (aJ n)
 |add (c:UInt8) (r v:Row):r∈m->Span n m v->Span n m (cY c r v)
variable {n:Nat} {m m':aL}
theorem Span.len(a:aY n m){v:Row}(h:Span n m v):ii v=n:=by
 induction h with
 |zero=>simp[aJ]
 |add c r v hr _ ih=>rw[bZ (by rw[a r hr,ih])];exact ih
theorem Span.comb(a:aY n m){u v:Row}(e:Span n m u)(b:Span n m v)(c:UInt8):Span n m (cY c u v):=by
 induction e with
 |zero=>
  have:cY c (aJ n) v=v:=eO (n:=n) (by rw[bZ (by simp[aJ,b.len a])];exact b.len a) (b.len a) λj _=>by
   rw[cN (by simp[aJ,b.len a]),cB,Gf.mul_zero,zV]
  rw[this];exact b
 |add d r w hr hw ih=>
  have l1:=b.len a;have l2:=hw.len a;have f:=a r hr;have:cY c (cY d r w) v=cY (Gf.mul c d) r (cY c w v):=eO (n:=n) (by rw[bZ k8];exact l1) (by rw[bZ k8,bZ];exact l1) λj _=>by
   rw[cN k8,cN i4,cN k8,cN i4,Gf.kf,Gf.mul_assoc]
   ac_rfl
  rw[this];exact .add _ _ _ hr ih
theorem Span.row(b:aY n m){r:Row}(a:r∈m):Span n m r:=by
 have:=Span.add 1 r _ a (.zero (n:=n) (m:=m));have e:cY 1 r (aJ n)=r:=eO (n:=n) (by rw[bZ (by simp[aJ,b r a])];simp[aJ]) (b r a) λj _=>by
  rw[cN (by simp[aJ,b r a]),cB,Gf.one_mul,wy]
 rwa [e]at this
theorem Span.sub(b:aY n m)(h:∀r∈m',Span n m r){v:Row}(a:Span n m' v):Span n m v:=by
 induction a with
 |zero=>exact .zero
 |add c r v hr _ ih=>exact(h r hr).comb b ih c
theorem Span.mono(h:∀r∈m',r∈m){v:Row}(a:Span n m' v):Span n m v:=by
 induction a with
 |zero=>exact .zero
 |add c r v hr _ ih=>exact .add c r v (h r hr) ih
theorem Span.lin(d:aY n m)(φ:Row->UInt8)(e:φ (aJ n)=0)(f:∀c a t,ii a=n->ii t=n->φ (cY c a t)=φ t^^^Gf.mul c (φ a))(g:∀r∈m,φ r=0){v:Row}(b:Span n m v):φ v=0:=by
 induction b with
 |zero=>exact e
 |add c r v hr' b ih=>rw[f c r v (d r hr') (b.len d),ih,g r hr',Gf.mul_zero,zV]
def Ak(S:Row->Prop)(j:Nat):Prop:=∃v,S v/\(∀i,i<j->aN v i=0)/\aN v j≠0
noncomputable def leads(S:Row->Prop)(n:Nat):Nat:=(qz n).countP λj=>decide (Ak S j)
structure Way (n:Nat) (m:aL) (c top:Nat) (rows:aL):Prop where
 even:aY n rows
 len:ii rows=ii m
 tle:top<=ii rows
 span:∀v,Span n rows v↔Span n m v
 cnt:top=leads (Span n m) c
 piv:∃p:Nat->Nat,(∀i,i<top->p i<c)/\(∀i,i<top->∀k,k<ii rows->aN (aB rows k) (p i)=if k=i then 1 else 0)/\(∀i,i<top->∀j,j<p i->aN (aB rows i) j=0)/\(∀i j,i<j->j<top->p i<p j)
 low:∀k,top<=k->k<ii rows->∀j,j<c->aN (aB rows k) j=0
theorem mem_row{m:aL}{i:Nat}(h:i<ii m:=by omega):aB m i∈m:=by rw[bz h];exact qg h
theorem fj{m:aL}{r:Row}(h:r∈m):∃i,i<ii m/\r=aB m i:=by obtain⟨i,a,rfl⟩:=qL h;exact⟨i,a,(bz a).symm⟩
theorem lj{m:aL}{i j:Nat}{r:Row}(a:i<ii m:=by omega):aB (m.set i r) j=if i=j then r else aB m j:=by
 simp only[aB,qe,zb];by_cases h:i=j
 ·subst h;simp[a]
 ·simp[h]
theorem ue{m:aL}{i j k:Nat}(d:i<ii m)(c:j<ii m):aB (jm m i j) k=if k=j then aB m i else if k=i then aB m j else aB m k:=by
 rw[jm,lj n9,lj d];by_cases a:j=k
 ·rw[f9 a,f9 a.symm]
 ·rw[g0 a,g0 (show¬k=j fromλh=>a h.symm)];by_cases b:i=k
  ·rw[f9 b,f9 b.symm]
  ·rw[g0 b,g0 (show¬k=i fromλh=>b h.symm)]
theorem BR{m:aL}{t c k:Nat}(a:t<ii m):aB (jT t c m) k=if t=k then scaleB (Gf.inv (aN (aB m t) c)) (aB m t)else aB m k:=by rw[jT,lj a]
theorem Xm(l:aY n m){i j:Nat}(b:i<ii m)(a:j<ii m)(v:Row):Span n (jm m i j) v↔Span n m v:=by
 refine⟨Span.mono λr f=>?_,Span.mono λr f=>?_⟩
 ·obtain⟨k,c,rfl⟩:=fj f;rw[lE]at c;rw[ue b a];split
  ·exact mem_row b
  ·split
   ·exact mem_row a
   ·exact mem_row c
 ·obtain⟨k,c,rfl⟩:=fj f;have e:∀x,x<ii m->aB (jm m i j) x∈jm m i j:=λx h=>mem_row (by rw[lE];exact h);by_cases d:k=i
  ·subst d;have:=e j a;rw[ue b a,f9 rfl]at this;exact this
  ·by_cases g:k=j
   ·subst g;have:=e i b;rw[ue b a]at this;by_cases h3:i=k
    ·exact absurd h3.symm d
    ·rw[g0 h3,f9 rfl]at this;exact this
   ·have:=e k c;rw[ue b a,g0 g,g0 d]at this;exact this
theorem Xn(g:aY n m){t c:Nat}(d:t<ii m)(i:aN (aB m t) c≠0)(v:Row):Span n (jT t c m) v↔Span n m v:=by
 have a:=xE g (c:=c) d;have h:=cA g d;have q:∀(x:UInt8) (r:Row),ii r=n->scaleB x r=cY x r (aJ n):=λx r b=>eO (n:=n) (by rw[oh,b]) (by rw[bZ (by simp[aJ,b])];simp[aJ]) λj _=>by
  rw[xI,cN (by simp[aJ,b]),cB,wy]
 refine⟨Span.sub g λr b=>?_,Span.sub a λr b=>?_⟩
 ·obtain⟨k,f,rfl⟩:=fj b;rw[nW]at f;rw[BR d];split
  ·rw[q _ _ h];exact .add _ _ _ (mem_row d) .zero
  ·exact Span.row g (mem_row f)
 ·obtain⟨k,f,rfl⟩:=fj b;have e:∀x,x<ii m->Span n (jT t c m) (aB (jT t c m) x):=λx s=>Span.row a (mem_row (by rw[nW];exact s));by_cases o:t=k
  ·subst o;have:=e t d;rw[BR d,f9 rfl]at this;have l:=this.comb a .zero (aN (aB m t) c);have p:cY (aN (aB m t) c) (scaleB (Gf.inv (aN (aB m t) c)) (aB m t)) (aJ n)=aB m t:=eO (n:=n) (by rw[bZ (by simp[aJ,oh,h])];simp[aJ]) h λj _=>by
    rw[cN (by simp[aJ,oh,h]),cB,wy,xI,<-Gf.mul_assoc,Gf.KI i,Gf.one_mul]
   rw[p]at l;exact l
  ·have:=e k f;rw[BR d,g0 o]at this;exact this
theorem Xo(d:aY n m){t c:Nat}(f:t<ii m)(v:Row):Span n (fi t c m m.length) v↔Span n m v:=by
 have b:=xF d (c:=c) (k:=ii m) f;have s:=cA d f;refine⟨Span.sub d λr h=>?_,Span.sub b λr h=>?_⟩
 ·obtain⟨k,a,rfl⟩:=fj h;rw[nX]at a;rw[pN a];split
  ·exact .add _ _ _ (mem_row f) (Span.row d (mem_row a))
  ·exact Span.row d (mem_row a)
 ·obtain⟨k,a,rfl⟩:=fj h;have e:∀x,x<ii m->Span n (fi t c m m.length) (aB (fi t c m m.length) x):=λx q=>Span.row b (mem_row (by rw[nX];exact q));have i:=e t f;rw[pN f,g0 i9]at i;by_cases o:k=t
  ·subst o;exact i
  ·have l:=e k a;rw[pN a,f9 ⟨a,o⟩]at l;have h3:=i.comb b l (aN (aB m k) c);have g:=cA d a;have p:cY (aN (aB m k) c) (aB m t) (cY (aN (aB m k) c) (aB m t) (aB m k))=aB m k:=eO (n:=n) (by rw[bZ k8,bZ];exact g) g λj _=>by
    rw[cN k8,cN i4,pO]
   rw[p]at h3;exact h3
def bR(f g:Nat->UInt8):Nat->UInt8
 |0=>0
 |k+1=>bR f g k^^^Gf.mul (f k) (g k)
theorem fP(f g:Nat->UInt8):∀k,(∀i,i<k->f i=0)->bR f g k=0
 |0,_=>rfl
 |k+1,h=>by rw[bR,fP f g k λi a=>h i i4,h k i4,Gf.zero_mul];rfl
theorem FU(f g:Nat->UInt8)(x:Nat):∀k,x<k->(∀i,i<k->f i=if x=i then 1 else 0)->bR f g k=g x
 |0,hx,_=>i4
 |k+1,hx,h=>by
  rw[bR];by_cases a:x=k
  ·subst a;rw[fP f g x λi b=>by rw[h i i4,g0 i4],h x i4,f9 i0,Gf.one_mul,wy]
  ·rw[FU f g x k i4 λi b=>h i i4,h k i4,g0 a,Gf.zero_mul,zV]
theorem FV(b a g:Nat->UInt8)(c:UInt8):∀k,bR (λi=>b i^^^Gf.mul c (a i)) g k=bR b g k^^^Gf.mul c (bR a g k)
 |0=>by simp[bR,Gf.mul_zero]
 |k+1=>by
  rw[bR,bR,bR,FV b a g c k,Gf.kf,Gf.TE,Gf.mul_assoc]
  ac_rfl
theorem IN(S:Row->Prop)(c:Nat):leads S (c+1)=leads S c+if Ak S c then 1 else 0:=by simp only[leads,zT,List.countP_append,List.countP_cons,List.countP_nil];by_cases h:Ak S c<;>simp[h]
theorem Xp(c:aY n m):Way n m 0 0 m:=⟨c,i0,i4,λ_=>Iff.rfl,by simp[leads],⟨λ_=>0,λi a=>i4,λi a=>i4,λi a=>i4,λi j _ b=>i4⟩,λk _ _ j b=>i4⟩
theorem aam(hm:aY n m){c b:Nat}{rows:aL}(w:Way n m c b rows)(hc:c<n):Way n m (c+1) (jn (b,rows) c).1 (jn (b,rows) c).2:=by
 obtain⟨F,Z,am,V,K,⟨p,N,p2,p3,p4⟩,g⟩:=w;have hS:∀v,Span n rows v↔Span n m v:=V;have T:Span n rows=Span n m:=funext λv=>propext (hS v);unfold jn;dsimp only;cases hb:jb rows b c with
 |none=>
  have R:=RJ hb;dsimp only;have ao:¬Ak (Span n m) c:=by
   rw[<-T];rintro⟨v,hv,hz,ab⟩;apply ab;have hφ:=Span.lin F (λv=>aN v c^^^bR (λi=>aN v (p i)) (λi=>aN (aB rows i) c) b) (by
     simp only[cB];rw[fP _ _ _ λi _=>rfl];rfl) (λx a t ha ht=>by
     simp only[cN (show a.length=ii t by omega)];rw[FV,Gf.kf];ac_rfl) (λr hr=>by
     obtain⟨k,G,rfl⟩:=fj hr;by_cases O:k<b
     ·rw[FU _ _ k b O λi E=>by rw[p2 i E k G]];exact lF _
     ·rw[R k i4 G,fP _ _ _ λi E=>by rw[p2 i E k G,g0 i4]];rfl) hv
   rw[fP _ _ _ λi E=>hz _ (N i E),zV]at hφ;exact hφ
  refine⟨F,Z,am,V,by rw[IN,g0 ao,K];rfl,⟨p,λi E=>by have:=N i E;omega,p2,p3,p4⟩,λk z A j d=>?_⟩;rcases zy.1 d with h|rfl
  ·exact g k z A j h
  ·exact R k z A
 |some at_=>
  have hh:=rz hb;obtain⟨h1,Y,h3⟩:=hh;dsimp only;have q:b<ii rows:=i4
  obtain⟨f,y⟩:∃f,f=jm rows b at_:=⟨_,rfl⟩
  have l1:ii f=ii rows:=by rw[y,lE]
  have U:aY n f:=by rw[y];exact Ea F q Y
  have q1:∀k,aB f k=if k=at_ then aB rows b else if k=b then aB rows at_ else aB rows k:=λk=>by rw[y,ue q Y]
  have S:aB f b=aB rows at_:=by
   rw[q1];by_cases h:b=at_
   ·rw[f9 h,h]
   ·rw[g0 h,f9 rfl]
  have J:aN (aB f b) c≠0:=by rw[S];exact h3
  obtain⟨s,u⟩:∃s,s=jT b c f:=⟨_,rfl⟩
  have l2:ii s=ii rows:=by rw[u,nW,l1]
  have B:aY n s:=by rw[u];exact xE U i4
  have q2:∀k,aB s k=if b=k then scaleB (Gf.inv (aN (aB f b) c)) (aB f b)else aB f k:=λk=>by rw[u,BR i4]
  have ah:∀j,aN (aB f b) j=0->aN (aB s b) j=0:=λj d=>by rw[q2,f9 i0,xI,d,Gf.mul_zero]
  have l:aN (aB s b) c=1:=by rw[q2,f9 i0,xI,Gf.mul_comm,Gf.KI J]
  obtain⟨I,o⟩:∃I,I=fi b c s rows.length:=⟨_,rfl⟩
  have l3:ii I=ii rows:=by rw[o,nX,l2]
  have q3:∀k,k<ii rows->∀j,aN (aB I k) j=if k=b then aN (aB s b) j else aN (aB f k) j^^^Gf.mul (aN (aB f k) c) (aN (aB s b) j):=λk G j=>by
   rw[o,pN i4];by_cases h:k=b
   ·rw[g0 i4,f9 h,h]
   ·have e:=q2 k;rw[g0 λhh=>h hh.symm]at e;rw[f9 ⟨G,h⟩,g0 h,cN (by rw[cA B,cA B]),e]
  have W:∀j,j<c->aN (aB s b) j=0:=λj d=>ah j (by rw[S];exact g at_ h1 Y j d);have keep:∀k,k<ii rows->∀j,j<c->aN (aB I k) j=if k=b then 0 else aN (aB f k) j:=λk G j d=>by
   rw[q3 k G,W j d,Gf.mul_zero,zV]
  have L:∀k,k<b->aB f k=aB rows k:=λk G=>by rw[q1,g0 i4,g0 i4]
  have M:∀k,b<=k->k<ii rows->∀j,j<c->aN (aB f k) j=0:=λk z A j d=>by
   rw[q1];split
   ·exact g b (qm _) q j d
   ·split
    ·exact g at_ h1 Y j d
    ·exact g k z A j d
  have D:∀v,Span n I v↔Span n m v:=λv=>by
   rw[o,show rows.length=ii s by omega,Xo B i4,u,Xn U i4 J,y,Xm F q Y,hS]
  have Q:Ak (Span n m) c:=⟨aB I b,(D _).1 (Span.row (by rw[o];exact xF B i4) (mem_row)),λj d=>by rw[keep b q j d,f9 rfl],by rw[q3 b q,f9 i0,l];decide⟩
  have X:fi b c (jT b c (jm rows b at_)) rows.length=I:=by rw[o,u,y]
  rw[X];refine⟨by rw[o];exact xF B i4,i4,i4,D,by rw[IN,f9 Q,K],⟨λi=>if i<b then p i else c,λi E=>?_,λi E k G=>?_,λi E j d=>?_,λi j ad d=>?_⟩,λk z A j d=>?_⟩
  ·dsimp only;split
   ·have:=N i o0;omega
   ·omega
  ·dsimp only;by_cases hit:i<b
   ·rw[f9 hit,keep k i4 _ (N i hit)];by_cases O:k<b
    ·rw[g0 i4,L k O];exact p2 i hit k i4
    ·rw[g0 (show¬k=i by omega)];split
     ·rfl
     ·exact M k i4 i4 _ (N i hit)
   ·have P:i=b:=i4
    subst P;rw[g0 hit,q3 k i4];by_cases H:k=i
    ·rw[f9 H,f9 H];exact l
    ·rw[g0 H,g0 H,l,Gf.mul_one];exact lF _
  ·dsimp only at d;by_cases hit:i<b
   ·rw[f9 hit]at d;have:=N i hit;rw[keep i i4 j i4,g0 i4,L i hit];exact p3 i hit j d
   ·have P:i=b:=i4
    subst P;rw[g0 hit]at d;rw[keep i i4 j d,f9 rfl]
  ·dsimp only;rw[f9 (show i<b by omega)];split
   ·exact p4 i j ad o0
   ·exact N i i4
  ·rcases zy.1 d with h|rfl
   ·rw[keep k i4 j h,g0 i4];exact M k i4 i4 j h
   ·rw[q3 k i4,g0 i4,l,Gf.mul_one];exact lF _
theorem FW(a:aY n m):∀c,c<=n->Way n m c (bI m c).1 (bI m c).2
 |0,_=>Xp a
 |c+1,h=>by rw[bI];exact aam a (FW a c i4) i4
theorem kq:∀c,bI [] c=(0,[])
 |0=>rfl
 |c+1=>by rw[bI,kq c];rfl
theorem lN(a:aY n m):ca m=leads (Span n m) n:=by
 rw[<-(FW a n (qm _)).cnt,ca];cases m with
 |nil=>rw[kq,kq]
 |cons x t=>rw[eK,bz i9];rw[show((x::t)[0]).length=n from a _ i9]
theorem US{S b:Row->Prop}(h:∀v,S v->b v)(n:Nat):leads S n<=leads b n:=by refine List.countP_mono_left λj _ a=>?_;simp only[decide_eq_true_eq]at a⊢;obtain⟨v,c,d⟩:=a;exact⟨v,h v c,d⟩
theorem lm(a:aY n m):ca m<=n:=by rw[lN a];have:=List.countP_le_length (p:=λj=>decide (Ak (Span n m) j)) (l:=qz n);simpa[leads]using this
theorem Eh(b:aY n m)(a:aY n m')(h:∀r∈m,r∈m'):ca m<=ca m':=by rw[lN b,lN a];exact US (λv=>Span.mono h) n
theorem Xq{P Q:Nat->Bool}(l:List Nat)(d:l.Nodup)(i:∀a∈l,P a=eR->Q a=eR)(e:∀a∈l,∀b∈l,Q a=eR->P a=eS->Q b=eR->P b=eS->a=b):l.countP Q<=l.countP P+1:=by
 induction l with
 |nil=>simp
 |cons x t ih=>
  rw[List.nodup_cons]at d;have g:=ih d.2 (λa c=>i a p7) λa c b f=>e a p7 b p0;simp only[List.countP_cons];cases hQ:Q x with
  |false=>
   have:(if P x=eR then 1 else 0)>=0:=i4
   simp;omega
  |true=>
   cases hP:P x with
   |true=>simp;omega
   |false=>
    have:t.countP Q<=t.countP P:=by
     refine List.countP_mono_left λa c h=>?_;cases hpa:P a with
     |true=>rfl
     |false=>
      have:=e x i9 a p7 hQ hP h hpa;subst this;exact absurd c d.1
    simp;omega
theorem LY(b:aY n m){r:Row}(f:ii r=n){v:Row}(l:Span n (m++[r]) v):∃(c:UInt8) (u:Row),Span n m u/\v=cY c r u:=by
 have o:aY n (m++[r]):=λx g=>by
  rcases qA.1 g with h|h
  ·exact b x h
  ·rw[qB.1 h];exact f
 induction l with
 |zero=>exact⟨0,aJ n,.zero,(eO (n:=n) (by rw[bZ (by simp[aJ,f])];simp[aJ]) k7 λj _=>by rw[cN (by simp[aJ,f]),cB,Gf.zero_mul];rfl).symm⟩
 |add d x w g hw ih=>
  obtain⟨c,u,e,rfl⟩:=ih;have a:=e.len b;rcases qA.1 g with h|h
  ·have k:=b x h;refine⟨c,cY d x u,.add d x u h e,eO (n:=n) (by rw[bZ k8,bZ];exact a) (by rw[bZ k8,bZ];exact a) λj _=>?_⟩;rw[cN k8,cN i4,cN k8,cN i4]
   ac_rfl
  ·have i:=qB.1 h;subst i;refine⟨c^^^d,u,e,eO (n:=n) (by rw[bZ k8,bZ];exact a) (by rw[bZ];exact a) λj _=>?_⟩;rw[cN k8,cN i4,cN i4,Gf.TE]
   ac_rfl
theorem mO(a:aY n m){r:Row}(c:ii r=n):aY n (m++[r]):=λx b=>by
 rcases qA.1 b with h|h
 ·exact a x h
 ·rw[qB.1 h];exact c
theorem Xr(e:aY n m){r:Row}(B:ii r=n):ca m<=ca (m++[r])/\ca (m++[r])<=ca m+1:=by
 have l:=mO e B;refine⟨Eh e l λx G=>by simp[G],?_⟩;rw[lN e,lN l];refine Xq _ List.nodup_range (λa _ H=>?_) (λa _ b _ D q F k=>?_)
 ·simp only[decide_eq_true_eq]at H⊢;obtain⟨v,K,J⟩:=H;exact⟨v,Span.mono (λx G=>by simp[G]) K,J⟩
 ·simp only[decide_eq_true_eq,decide_eq_false_iff_not]at D q F k;have p:∀a b,Ak (Span n (m++[r])) a->¬Ak (Span n m) a->Ak (Span n (m++[r])) b->¬Ak (Span n m) b->¬a<b:=by
   rintro a b ⟨v,L,N,A⟩ q ⟨w,O,g,o⟩ k t;obtain⟨c,u,I,rfl⟩:=LY e B L;obtain⟨d,s,h,rfl⟩:=LY e B O;have l1:=I.len e;have l2:=h.len e;have M:d≠0:=by
    rintro rfl;apply k;refine⟨s,h,λi E=>?_,?_⟩
    ·have:=g i E;rw[cN i4,Gf.zero_mul,zV]at this;exact this
    ·rw[cN i4,Gf.zero_mul,zV]at o;exact o
   apply q;refine⟨cY (Gf.mul c (Gf.inv d)) s u,h.comb e I _,?_⟩;have f:∀j,aN (cY (Gf.mul c (Gf.inv d)) s u) j=aN (cY c r u) j^^^Gf.mul (Gf.mul c (Gf.inv d)) (aN (cY d r s) j):=λj=>by
    rw[cN i4,cN i4,cN i4,Gf.kf,<-Gf.mul_assoc (Gf.mul c (Gf.inv d)) d,Gf.mul_assoc c (Gf.inv d) d,Gf.mul_comm (Gf.inv d) d,Gf.KI M,Gf.mul_one];have:∀x y z:UInt8,x^^^y=x^^^z^^^(y^^^z):=λx y z=>by
     have:x^^^z^^^(y^^^z)=x^^^y^^^(z^^^z):=by ac_rfl
     rw[this,lF,zV]
    exact this _ _ _
   refine⟨λi E=>?_,?_⟩
   ·rw[f,N i E,g i i4,Gf.mul_zero];rfl
   ·rw[f,g a t,Gf.mul_zero,zV];exact A
  have K:=p a b D q F k;have J:=p b a F k D q;omega
theorem oK(m:aL)(h:aY n m):ca m<=ii m:=by
 have a:∀k,k<=ii m->ca (m.take k)<=k:=by
  intro k
  induction k with
  |zero=>intro _;simp[ca,eK,aB,bI]
  |succ k ih=>
   intro e;have c:aY n (m.take k):=λx b=>h x (zD b);have d:=ih i4;rw[zM i4];have f:=(Xr c (h _ (qg (show k<ii m by omega)))).2;omega
 have:=a m.length (qm _)
 rwa [qi (qm _)]at this
def nO(p:Int×Int×Int)(seed:Int)(a:aw):Nat:=ca (dP p seed a)
def gc(p:Int×Int×Int)(seed:Int)(a:aw):Bool:=bM p&&((nO p seed a:Int)==bG p)
def fQ(p:Int×Int×Int):aw:=upto (max 0 (min p.1 16)).toNat
theorem nZ{p:Int×Int×Int}(h:bM p=eR):bG p=p.1+p.2.1:=by rw[bG,f9 h]
theorem jx(p:Int×Int×Int)(seed:Int)(b:aw):aY (bG p).toNat (dP p seed b):=by
 intro r a;unfold dP at a;split at a
 ·rename_i c;have:=(cm p).1 c;rcases qA.1 a with h|h
  ·obtain⟨x,_,rfl⟩:=qu.1 h;rw[ua,nZ c];omega
  ·obtain⟨x,_,rfl⟩:=qu.1 h;exact OO _ _ _
 ·cases a
theorem aan(p:Int×Int×Int)(seed:Int)(a:aw):ii (dP p seed a)<=4+ii a:=by
 unfold dP;split
 ·rename_i b;have:=(cm p).1 b;have c:=List.length_filter_le bW a;simp only[qw,bC,qx,zF];omega
 ·simp
theorem IP(K H:Nat):aY (K+H) (bC K H):=λr a=>by
 obtain⟨x,_,rfl⟩:=qu.1 a;exact ua _ _ _
theorem aao(p:Int×Int×Int)(seed:Int)(a:aw):(nO p seed a:Int)<=bG p:=by
 have h:=lm (jx p seed a);have:0<=bG p:=by
  unfold bG;split
  ·rename_i b;have:=(cm p).1 b;omega
  ·omega
 rw[nO];omega
def fg(a b:aL):aL:=zm (·++·) a b
def kK(n:Nat)(m:aL):aL:=m.map (List.take n)
theorem Hs{r:Row}{n j:Nat}(h:j<n):aN (r.take n) j=aN r j:=by simp only[aN,qe,vg];rw[f9 h]
theorem OT(r:Row)(n j:Nat):aN (r.drop n) j=aN r (n+j):=by simp only[aN,qe,wO]
theorem tq(n:Nat)(m:aL)(i:Nat):aB (kK n m) i=(aB m i).take n:=by
 simp only[aB,kK,qe,qR];cases m[i]? with
 |none=>simp
 |some r=>rfl
theorem KJ(n:Nat)(m:aL):ii (kK n m)=ii m:=by simp[kK]
theorem UT{n a bx:Nat}(m:aL)(h:bx<n):jb (kK n m) a bx=jb m a bx:=by unfold jb;rw[KJ];congr 1;funext i;rw[tq,Hs h]
theorem KK(n:Nat)(m:aL)(i:Nat)(r:Row):kK n (m.set i r)=(kK n m).set i (r.take n):=by simp[kK,List.map_set]
theorem aap(n:Nat)(m:aL)(i j:Nat):kK n (jm m i j)=jm (kK n m) i j:=by rw[jm,KK,KK,jm,tq,tq]
theorem Xs(n:Nat)(c:UInt8)(r:Row):(scaleB c r).take n=scaleB c (r.take n):=by simp[scaleB,List.map_take]
theorem adm(n:Nat)(c:UInt8)(a t:Row):(cY c a t).take n=cY c (a.take n) (t.take n):=by simp[cY,List.take_zipWith]
theorem aaq{n bx:Nat}(h:bx<n)(t:Nat)(m:aL):kK n (jT t bx m)=jT t bx (kK n m):=by rw[jT,KK,Xs,jT,tq,Hs h]
theorem aar{n bx:Nat}(h:bx<n)(t k:Nat)(m:aL):kK n (fi t bx m k)=fi t bx (kK n m) k:=by
 apply zI;intro i;simp only[kK,fi,qR,vo];cases m[i]? with
 |none=>rfl
 |some r=>
  simp only[q9];congr 1;have:=tq n m t;rw[kK]at this;rw[this,Hs h];split
  ·exact adm _ _ _ _
  ·rfl
theorem aas{n bx:Nat}(h:bx<n)(s:Nat×aL):((jn s bx).1,kK n (jn s bx).2)=jn (s.1,kK n s.2) bx:=by
 unfold jn;dsimp only;rw[UT _ h];cases jb s.2 s.1 bx with
 |none=>rfl
 |some i=>dsimp only;rw[aar h,aaq h,aap,KJ]
theorem IQ(n:Nat)(m:aL):∀c,c<=n->((bI m c).1,kK n (bI m c).2)=bI (kK n m) c
 |0,_=>rfl
 |c+1,h=>by
  have a:=IQ n m c i4;rw[bI,bI,aas (show c<n by omega),a]
theorem mi{a b:aL}(h:ii a=ii b):ii (fg a b)=ii a:=by simp[fg,h]
theorem FX{a b:aL}(h:ii a=ii b){i:Nat}(c:i<ii a):aB (fg a b) i=aB a i++aB b i:=by rw[bz (by rw[mi h];exact c),bz c,bz i4];simp[fg]
theorem mP{n w:Nat}{a b:aL}(h:ii a=ii b)(d:aY n a)(e:aY w b):aY (n+w) (fg a b):=λr f=>by
 obtain⟨i,c,rfl⟩:=fj f;rw[mi h]at c;rw[FX h c,qw,cA d c,cA e]
theorem adn{n:Nat}{a b:aL}(h:ii a=ii b)(d:aY n a):kK n (fg a b)=a:=by apply wB (by rw[KJ,mi h]);intro i e c;have:=tq n (fg a b) i;rw[bz e,FX h c,List.take_left' (cA d c),bz c]at this;exact this
theorem aat{n:Nat}{a:aL}(b:aY n a):(bI a n).1=ca a:=by
 rw[ca];cases a with
 |nil=>rw[kq,kq]
 |cons x t=>rw[eK,bz i9];rw[show((x::t)[0]).length=n from b _ i9]
theorem Ht{n:Nat}{a b:aL}(h:ii a=ii b)(c:aY n a):(bI (fg a b) n).1=ca a:=by have:=congrArg qK (IQ n (fg a b) n (qm _));rw[adn h c]at this;rw[<-aat c];exact this
def pP(w:Nat)(r:Row)(X:aL):Nat->Row
 |0=>aJ w
 |k+1=>cY (aN r k) (aB X k) (pP w r X k)
theorem iJ{n w:Nat}{X:aL}(b:aY w X)(c:ii X=n)(r:Row):∀k,k<=n->ii (pP w r X k)=w
 |0,_=>by simp[pP,aJ]
 |k+1,h=>by
  have a:=iJ b c r k i4;rw[pP,bZ (by rw[cA b,a])];exact a
theorem gY{n w:Nat}{X:aL}(a:aY w X)(b:ii X=n)(r:Row)(j:Nat):∀k,k<=n->aN (pP w r X k) j=bR (λi=>aN r i) (λi=>aN (aB X i) j) k
 |0,_=>by rw[pP,cB];rfl
 |k+1,h=>by
  have c:=gY a b r j k i4;rw[pP,cN (by rw[cA a,iJ a b r k i4]),c];rfl
def fC(n w:Nat)(a b X:aL):Prop:=ii X=n/\aY w X/\∀i,i<ii a->pP w (aB a i) X n=aB b i
theorem aau{m a:aL}(c:ii m=ii a)(h:∀i,i<ii m->aB m i=aB a i):m=a:=by
 apply wB c;intro i b d;have:=h i b
 rwa [bz b,bz d]at this
def uf(n:Nat)(X:aL)(k:Nat)(v:Row):UInt8:=aN v (n+k)^^^bR (λi=>aN v i) (λi=>aN (aB X i) k) n
theorem gd{f f' g g':Nat->UInt8}:∀k,(∀i,i<k->f i=f' i)->(∀i,i<k->g i=g' i)->bR f g k=bR f' g' k
 |0,_,_=>rfl
 |k+1,h1,h2=>by rw[bR,bR,gd k (λi a=>h1 i i4) λi a=>h2 i i4,h1 k i4,h2 k i4]
theorem TH(n:Nat)(X:aL)(k:Nat)(c:UInt8)(a t:Row)(h:ii a=ii t:=by omega):uf n X k (cY c a t)=uf n X k t^^^Gf.mul c (uf n X k a):=by unfold uf;rw[cN h];have:bR (λi=>aN (cY c a t) i) (λi=>aN (aB X i) k) n=bR (λi=>aN t i^^^Gf.mul c (aN a i)) (λi=>aN (aB X i) k) n:=gd n (λi _=>cN h i) λ_ _=>rfl;rw[this,FV,Gf.kf];ac_rfl
theorem TJ{a b:Row}{n:Nat}(c:ii a=n)(k:Nat):aN (a++b) (n+k)=aN b k:=by simp only[aN,qe];rw[qj i4,c,zx]
theorem OU{a b:Row}{n j:Nat}(d:ii a=n)(c:j<n):aN (a++b) j=aN a j:=by simp only[aN,qe];rw[qo i4]
theorem oL{a b:UInt8}:a^^^b=0↔a=b:=by
 constructor
 ·intro h;have:=congrArg (·^^^b) h;simp only[wy]at this
  rwa [pO]at this
 ·rintro rfl;exact lF _
theorem IR{n w:Nat}{a b X:aL}(h:ii a=ii b)(e:aY n a)(o:aY w b)(l:ii X=n)(g:aY w X):fC n w a b X↔∀k,k<w->∀v,Span (n+w) (fg a b) v->uf n X k v=0:=by
 have f:=mP h e o;constructor
 ·intro u k p v q;refine Span.lin f (uf n X k) ?_ (λc a t z y=>TH n X k c a t) (λr s=>?_) q
  ·unfold uf;rw[cB,fP _ _ n λi _=>cB _ _];rfl
  ·obtain⟨i,d,rfl⟩:=fj s;rw[mi h]at d;rw[FX h d];unfold uf;rw[TJ (cA e d),<-u.2.2 i d,gY g l _ k n (qm _),oL];exact gd n (λj m=>(OU (cA e d) m).symm) λ_ _=>rfl
 ·intro x;refine⟨l,g,λi d=>eO (n:=w) (iJ g l _ n (qm _)) (cA o) λk p=>?_⟩;have:=x k p _ (Span.row f (mem_row (show i<ii (fg a b) by rw[mi h];exact d)));rw[FX h d]at this;unfold uf at this;rw[TJ (cA e d),oL]at this;rw[this,gY g l _ k n (qm _)];exact gd n (λj m=>(OU (cA e d) m).symm) λ_ _=>rfl
theorem aeB{n:Nat}{p:Nat->Nat}(d:∀i,i<n->p i<n)(b:∀i j,i<j->j<n->p i<p j):∀i,i<n->p i=i:=by
 have c:∀i,i<n->i<=p i:=by
  intro i
  induction i with
  |zero=>intro _;omega
  |succ i ih=>intro a;have:=ih i4;have:=b i (i+1) i4 a;omega
 have up:∀k i,i+k+1=n->p i<=i:=by
  intro k
  induction k with
  |zero=>intro i a;have:=d i i4;omega
  |succ k ih=>intro i a;have:=ih (i+1) i4;have:=b i (i+1) i4 i4;omega
 intro i a;have:=c i a;have:=up (n-1-i) i i4;omega
def go(n:Nat)(a b:aL):aL:=(((bI (fg a b) n).2).take n).map (List.drop n)
def kW(n:Nat)(a b:aL):Prop:=∀r∈((bI (fg a b) n).2).drop n,r=aJ r.length
variable {w:Nat} {a b:aL}
theorem tu(h:ii a=ii b)(e:aY n a)(g:aY w b)(j:ca a=n):ii (go n a b)=n/\aY w (go n a b):=by have d:=mP h e g;have f:=gV d n;have h3:=oK a e;refine⟨by rw[go,qx,qU,f.2,mi h];omega,λr c=>?_⟩;obtain⟨x,i,rfl⟩:=qu.1 c;rw[zi,f.1 x (zD i)];omega
theorem TK(h:ii a=ii b)(d:aY n a)(e:ca a=n){i:Nat}(c:i<n):aB (go n a b) i=(aB (bI (fg a b) n).2 i).drop n:=by
 simp only[aB,go,qe,qR,vg];rw[f9 c]
 cases(bI (fg a b) n).2[i]? with
 |none=>simp
 |some r=>rfl
theorem OV(h:ii a=ii b)(d:aY n a)(l:aY w b)(o:ca a=n):
  (∀v,Span (n+w) (bI (fg a b) n).2 v↔Span (n+w) (fg a b) v)/\(bI (fg a b) n).2.length=ii a/\(∀i,i<n->∀k,k<ii a->aN (aB (bI (fg a b) n).2 k) i=if k=i then 1 else 0):=by
 have c:=mP h d l;have W:=FW c n i4;have q:(bI (fg a b) n).1=n:=by rw[Ht h d,o]
 obtain⟨p,g,e,m,f⟩:=W.piv;rw[q]at g e m f;have hid:=aeB g f;have r:(bI (fg a b) n).2.length=ii a:=by rw[W.len,mi h]
 refine⟨W.span,r,λi j k s=>?_⟩;have:=e i j k i4
 rwa [hid i j]at this
theorem OW{X:aL}{r:Row}{i k:Nat}(b:i<n)(c:∀j,j<n->aN r j=if i=j then 1 else 0):uf n X k r=aN r (n+k)^^^aN (aB X i) k:=by unfold uf;rw[FU _ _ i n b λj a=>c j a]
theorem TL{X:aL}{r:Row}{k:Nat}(a:∀j,j<n->aN r j=0):uf n X k r=aN r (n+k):=by unfold uf;rw[fP _ _ n a,zV]
theorem lO(h:ii a=ii b)(l:aY n a)(p:aY w b)(u:ca a=n){X:aL}(g:fC n w a b X):X=go n a b/\kW n a b:=by
 have q:=mP h l p;have t:=gV q n;obtain⟨m,D,s⟩:=OV h l p u;have A:=oK a l;have z:=(IR h l p g.1 g.2.1).1 g;obtain⟨y,s2⟩:=tu h l p u;constructor
 ·refine aau (by rw[g.1,y]) λi d=>eO (n:=w) (cA g.2.1 d) (cA s2 (by rw[y];rw[g.1]at d;exact d)) λk B=>?_;rw[g.1]at d;have h3:=z k B _ ((m _).1 (Span.row t.1 (mem_row (show i<(bI (fg a b) n).2.length by omega))));rw[OW d λj o=>s j o i i4]at h3;rw[TK h l u d,OT];exact(oL.1 h3).symm
 ·intro r x;obtain⟨i,d,rfl⟩:=qL x;rw[zi]at d;rw[wm];have f:n+i<(bI (fg a b) n).2.length:=i4
  have e:=bz f;have c:=cA t.1 f;rw[<-e,c];refine eO (n:=n+w) c k7 λj o=>?_;rw[cB];by_cases v:j<n
  ·rw[s j v (n+i) i4,g0 i4]
  ·obtain⟨k,rfl⟩:∃k,j=n+k:=⟨j-n,i4⟩
   have h3:=z k i4 _ ((m _).1 (Span.row t.1 (mem_row f)))
   rwa [TL λj o=>by rw[s j o (n+i) i4,g0 i4]]at h3
theorem oM(h:ii a=ii b)(e:aY n a)(g:aY w b)(o:ca a=n)(B:kW n a b):fC n w a b (go n a b):=by
 have m:=mP h e g;have u:=gV m n;obtain⟨q,F,s⟩:=OV h e g o;have y:=oK a e;obtain⟨A,s2⟩:=tu h e g o;refine(IR h e g A s2).2 λk E v z=>?_;refine Span.lin u.1 (uf n (go n a b) k) ?_ (λc x t G u=>TH n _ k c x t) (λr p=>?_) ((q v).2 z)
 ·unfold uf;rw[cB,fP _ _ n λi _=>cB _ _];rfl
 ·obtain⟨i,D,rfl⟩:=fj p;by_cases f:i<n
  ·rw[OW f λj l=>s j l i i4,TK h e o f,OT];exact lF _
  ·rw[TL λj l=>by rw[s j l i i4,g0 i4]];have:aB (bI (fg a b) n).2 i∈(bI (fg a b) n).2.drop n:=by
    rw[bz D];obtain⟨d,rfl⟩:∃d,i=n+d:=⟨i-n,i4⟩
    rw[<-wm (h:=by rw[zi];omega)];exact qg _
   rw[B _ this,cB]
theorem RL(h:ii a=ii b)(e:aY n a)(f:aY w b)(i:ii a=n):kW n a b:=by have c:=mP h e f;have g:=gV c n;intro r d;rw[zk (by rw[g.2,mi h];omega)]at d;cases d
def OX(l:aw):Prop:=∀a b,a<ii l->b<ii l->lh l a=lh l b->a=b
theorem FY{l:aw}{i:Nat}(h:i<ii l):lh l i=l[i]:=by rw[lh,qe,qd h];rfl
theorem aav{l:aw}{i j k:Nat}(d:i<ii l)(c:j<ii l):lh (ry l i j) k=if k=j then lh l i else if k=i then lh l j else lh l k:=by
 simp only[lh,ry,qe,zb,zl];by_cases a:j=k
 ·subst a;simp[c]
 ·by_cases b:i=k
  ·subst b;simp[a,d];omega
  ·simp[a,b];omega
theorem swap_inj{l:aw}{i j:Nat}(p:i<ii l)(g:j<ii l)(h:OX l):OX (ry l i j):=by
 intro a b m n o;rw[OM]at m n;have d:∀k,k<ii l->∃σ,σ<ii l/\lh (ry l i j) k=lh l σ/\(σ=if k=j then i else if k=i then j else k):=λk q=>by
  rw[aav p g];by_cases f:k=j
  ·rw[f9 f,f9 f];exact⟨i,p,i0,i0⟩
  ·rw[g0 f,g0 f];by_cases e:k=i
   ·rw[f9 e,f9 e];exact⟨j,g,i0,i0⟩
   ·rw[g0 e,g0 e];exact⟨k,q,i0,i0⟩
 obtain⟨s,u,r,w⟩:=d a m;obtain⟨t,v,e2,c⟩:=d b n;rw[r,e2]at o;have:=h s t u v o;subst this;rw[w]at c;split at c<;>split at c<;>(try split at c)<;>(try split at c)<;>omega
theorem Xt{l:aw}(h:OX l):l.Nodup:=by rw[List.nodup_iff_pairwise_ne,zu];intro i j b a d c;have:=h i j b a (by rw[FY b,FY a];exact c);omega
theorem aaw(n:Nat):OX (upto n):=by intro a b c d e;rw[gW]at c d;rw[FY (by rw[gW];exact c),FY (by rw[gW];exact d)]at e;simp[upto]at e;omega
theorem OY(n:Nat)(s:Int):∀k,k<=n->n<=64->OX (gF n s (upto n) k).2
 |0,_,_=>aaw n
 |k+1,hk,hn=>by
  have a:=tW n s (upto n) k;rw[gW]at a;have:=tV (gF n s (upto n) k).1 ((n-k:Nat):Int);exact swap_inj i4 i4 (OY n s k i4 hn)
theorem UU(s:Int)(n k:Nat)(b:k<=n)(a:n<=64):(FO s n k).Nodup:=by have h:=(Xt (OY n s k b a)).sublist (List.take_sublist k _);exact(ym _ _).nodup_iff.2 h
theorem BS{n:Nat}(a:1<=n)(b:n<=20)(seed id:Int):(dE n seed id).Nodup:=UU _ _ _ (tZ _ n a b) i4
theorem RM(n:Nat)(seed id:Int):(dE n seed id).Pairwise (·<=·):=by have:=vd (le:=λx y:Int=>decide (x<=y)) (by intro a b c;simp;omega) (by intro a b;simp;omega) ((gF n (Da (Da (DZ seed id))) (upto n) (FR (Da (DZ seed id)) n)).2.take (FR (Da (DZ seed id)) n));exact this.imp i9
theorem KL{r:Row}{i j:Nat}{x:UInt8}(a:i<ii r):aN (r.set i x) j=if j=i then x else aN r j:=by
 simp only[aN,qe,zb];by_cases h:i=j
 ·subst h;simp[a]
 ·simp[h];intro e;exact absurd e.symm h
theorem LZ(n:Nat)(l:aw)(c:Int):gv n (l++[c])=(gv n l).set c.toNat 1:=by rw[gv,zQ];rfl
theorem BU{n:Nat}:∀(l:aw) (_:∀x∈l,0<=x/\x<(n:Int)) (j:Nat),aN (gv n l) j=if(j:Int)∈l then 1 else 0:=by
 intro l;have d:∀k,k<=ii l->(∀x∈l,0<=x/\x<(n:Int))->∀j:Nat,aN (gv n (l.take k)) j=if(j:Int)∈l.take k then 1 else 0:=by
  intro k
  induction k with
  |zero=>intro _ _ j;simp[gv];exact cB n j
  |succ k ih=>
   intro g b j;have f:=b _ (qg (show k<ii l by omega));rw[zM i4,LZ,KL (by rw[pM];omega),ih i4 b];have a:(j:Int)∈l.take k++[l[k]]↔(j:Int)∈l.take k∨(j:Int)=l[k]:=by rw[qA,qB]
   by_cases h:j=l[k].toNat
   ·rw[f9 h,f9 (a.2 (.inr i4))]
   ·rw[g0 h];by_cases c:(j:Int)∈l.take k
    ·rw[f9 c,f9 (a.2 (.inl c))]
    ·rw[g0 c,g0 λe=>(a.1 e).elim c λh3=>h i4]
 intro b j;have:=d l.length (qm _) b j
 rwa [qi (qm _)]at this
theorem Hu{f f' g:Nat->UInt8}{c:Nat}(b:f c=0)(a:∀i,f' i=if i=c then 1 else f i):∀k,bR f' g k=bR f g k^^^if c<k then g c else 0
 |0=>by simp[bR]
 |k+1=>by
  rw[bR,bR,Hu b a k,a k];by_cases d:k=c
  ·subst d;rw[f9 i0,g0 i4,f9 i4,Gf.one_mul,b,Gf.zero_mul]
  ·rw[g0 d];by_cases h:c<k
   ·rw[f9 h,f9 i4];ac_rfl
   ·rw[g0 h,g0 i4];simp
def fR(w:Nat)(X:aL)(l:aw):Row:=l.foldl (λs c=>cY 1 (aB X c.toNat) s) (aJ w)
theorem BV(w:Nat)(X:aL)(l:aw)(c:Int):fR w X (l++[c])=cY 1 (aB X c.toNat) (fR w X l):=by rw[fR,zQ];rfl
theorem oN{n w:Nat}{X:aL}(b:aY w X)(d:ii X=n){l:aw}(a:∀x∈l,0<=x/\x<(n:Int)):∀k,k<=ii l->ii (fR w X (l.take k))=w:=by
 intro k
 induction k with
 |zero=>intro _;simp[fR,aJ]
 |succ k ih=>
  intro c;have e:=a _ (qg (show k<ii l by omega));rw[zM i4,BV,bZ (by rw[cA b,ih i4])];exact ih i4
theorem TM{n w:Nat}{X:aL}(b:aY w X)(c:ii X=n){l:aw}(a:∀x∈l,0<=x/\x<(n:Int)):ii (fR w X l)=w:=by
 have:=oN b c a l.length (qm _)
 rwa [qi (qm _)]at this
theorem ado{n w:Nat}{X:aL}(a:aY w X)(b:ii X=n){l:aw}(d:∀x∈l,0<=x/\x<(n:Int))(o:l.Nodup):fR w X l=pP w (gv n l) X n:=by
 have h:∀k,k<=ii l->fR w X (l.take k)=pP w (gv n (l.take k)) X n:=by
  intro k
  induction k with
  |zero=>
   intro _;refine eO (n:=w) (by simp[fR,aJ]) (iJ a b _ n (qm _)) λj _=>?_;rw[gY a b _ j n (qm _),fP _ _ n λi _=>by simp only[vp,gv,wv];exact cB n i];simp only[vp,fR,wv];exact cB w j
  |succ k ih=>
   intro r;have q:=d _ (qg (show k<ii l by omega));have p:=oN a b d k i4;rw[zM i4,BV,LZ,ih i4];refine eO (n:=w) ?_ (iJ a b _ n (qm _)) λj _=>?_
   ·rw[bZ (by rw[cA a,iJ a b _ n (qm _)])];exact iJ a b _ n (qm _)
   ·rw[cN (by rw[cA a,iJ a b _ n (qm _)]),gY a b _ j n (qm _),gY a b _ j n (qm _)];have g:l[k]∉l.take k:=λm=>by
     have e:l=l.take k++l[k]::l.drop (k+1):=by rw[<-qQ i4,qF]
     rw[e,List.nodup_append]at o;exact o.2.2 _ m _ qI i0
    have h0:aN (gv n (l.take k)) l[k].toNat=0:=by
     rw[BU _ λx q=>d x (zD q),g0];intro m;apply g;have:((l[k].toNat:Nat):Int)=l[k]:=i4
     rwa [this]at m
    rw[Hu (f:=λi=>aN (gv n (l.take k)) i) (c:=l[k].toNat) h0 (λi=>KL (by rw[pM];omega)) n,f9 i4,Gf.one_mul]
 have:=h l.length (qm _)
 rwa [qi (qm _)]at this
open Go Go.Vc
def kr(K H w:Nat)(d:Row):aL:=qh H (aJ w)++(qz K).map (DR d w)
def dC(p:Int×Int×Int)(seed:Int)(d:Row):aL:=go (bG p).toNat (dP p seed (fQ p)) (kr p.1.toNat p.2.1.toNat p.2.2.toNat d)
structure co (p:Int×Int×Int) (seed:Int) (d:Row) (K H w n:Nat):Prop where
 may:bM p=eR
 full:gc p seed (fQ p)=eR
 k:p.1=K
 h:p.2.1=H
 s:p.2.2=w
 n:n=K+H
 k1:1<=K
 k2:K<=16
 h1:1<=H
 h2:H<=4
 w1:1<=w
 w2:w<=24
 len:ii d=K*w
theorem UV{p:Int×Int×Int}{seed:Int}{d:Row}(a:bM p=eR)(e:gc p seed (fQ p)=eR)(b:(ii d:Int)=p.1*p.2.2):∃K H w n,co p seed d K H w n:=by
 have:=(cm p).1 a;refine⟨p.1.toNat,p.2.1.toNat,p.2.2.toNat,p.1.toNat+p.2.1.toNat,a,e,i4,i4,i4,i0,i4,i4,i4,i4,i4,i4,?_⟩;have c:p.1=(p.1.toNat:Int):=i4
 have e2:p.2.2=(p.2.2.toNat:Int):=i4
 rw[c,e2,<-Int.natCast_mul]at b;exact Int.ofNat.inj b
variable {p:Int×Int×Int} {seed:Int} {d:Row} {K H:Nat}
theorem co.cZ(B:co p seed d K H w n):bG p=n:=by rw[nZ B.may,B.k,B.h,B.n];rfl
theorem co.oO(B:co p seed d K H w n):(bG p).toNat=n:=by rw[B.cZ];rfl
theorem UW(a:p.1=(K:Int))(h:K<=16):fQ p=upto K:=by rw[fQ];congr 1;omega
theorem RN(h:K<=16):(upto K).filter bW=upto K:=by rw[List.filter_eq_self];intro x b;simp[upto]at b;obtain⟨a,c,rfl⟩:=b;simp[bW];omega
theorem co.OF(B:co p seed d K H w n):dP p seed (fQ p)=bC K H++(qz K).map λi:Nat=>nU n seed (i:Int):=by rw[dP,f9 B.may,UW B.k B.k2,RN B.k2,B.k,B.h,B.oO,ql,ql,upto,List.map_map];rfl
theorem co.Ei(B:co p seed d K H w n):ii (dP p seed (fQ p))=n:=by rw[B.OF,qw,qx,zF,bC,qx,zF,B.n];omega
theorem co.FZ(B:co p seed d K H w n):aY n (dP p seed (fQ p)):=by
 have:=jx p seed (fQ p)
 rwa [B.oO]at this
theorem co.KM(B:co p seed d K H w n):ca (dP p seed (fQ p))=n:=by have h:=B.full;rw[gc,B.may,B.cZ,nO]at h;simp at h;exact Int.ofNat.inj h
theorem Ej(K H w:Nat)(d:Row):ii (kr K H w d)=K+H:=by simp[kr];omega
theorem sJ(b:ii d=K*w):aY w (kr K H w d):=λr c=>by
 rcases qA.1 c with h|h
 ·rw[(List.mem_replicate.1 h).2];simp[aJ]
 ·obtain⟨i,a,rfl⟩:=qu.1 h;rw[qJ]at a;exact adg (by rw[b];exact za w a)
theorem Xu{i:Nat}(a:i<H):aB (kr K H w d) i=aJ w:=by rw[aB,kr,qe,qo j9];simp[a]
theorem UX{i:Nat}(a:i<K):aB (kr K H w d) (H+i)=DR d w i:=by rw[aB,kr,qe,qj i9];simp[a]
theorem co.Dc(B:co p seed d K H w n):dC p seed d=go n (dP p seed (fQ p)) (kr K H w d):=by rw[dC,B.oO,B.k,B.h,B.s];rfl
theorem co.lens(B:co p seed d K H w n):ii (dP p seed (fQ p))=ii (kr K H w d):=by rw[B.Ei,Ej,B.n]
theorem co.nE(B:co p seed d K H w n):ii (dC p seed d)=n/\aY w (dC p seed d):=by rw[B.Dc];exact tu B.lens B.FZ (sJ B.len) B.KM
theorem co.fC(B:co p seed d K H w n):fC n w (dP p seed (fQ p)) (kr K H w d) (dC p seed d):=by rw[B.Dc];exact oM B.lens B.FZ (sJ B.len) B.KM (RL B.lens B.FZ (sJ B.len) B.Ei)
theorem co.aeC(B:co p seed d K H w n){i:Nat}(a:i<H):aB (dP p seed (fQ p)) i=lM K H i:=by rw[B.OF,aB,qe,qo (by simpa[bC]using a)];simp[bC,a]
theorem co.adp(B:co p seed d K H w n){i:Nat}(a:i<K):aB (dP p seed (fQ p)) (H+i)=nU n seed (i:Int):=by rw[B.OF,aB,qe,qj (by simp[bC])];simp[bC,a]
theorem co.low(B:co p seed d K H w n){i:Nat}(a:i<H):pP w (lM K H i) (dC p seed d) n=aJ w:=by
 have:=B.fC.2.2 i (by rw[B.Ei,B.n];omega)
 rwa [B.aeC a,Xu a]at this
theorem co.high(B:co p seed d K H w n){i:Nat}(a:i<K):pP w (nU n seed (i:Int)) (dC p seed d) n=DR d w i:=by
 have:=B.fC.2.2 (H+i) (by rw[B.Ei,B.n];omega)
 rwa [B.adp a,UX a]at this
theorem co.n1(B:co p seed d K H w n):1<=n:=by have:=B.n;have:=B.k1;omega
theorem co.n2(B:co p seed d K H w n):n<=20:=by have:=B.n;have:=B.k2;have:=B.h2;omega
theorem co.sym(B:co p seed d K H w n)(id:Int):fR w (dC p seed d) (dE n seed id)=pP w (nU n seed id) (dC p seed d) n:=
 ado B.nE.2 B.nE.1 (λ_ a=>mM B.n1 B.n2 a) (BS B.n1 B.n2 seed id)
theorem co.aax(B:co p seed d K H w n){i:Nat}(a:i<K):fR w (dC p seed d) (dE n seed (i:Int))=DR d w i:=by rw[B.sym,B.high a]
theorem co.Xv(B:co p seed d K H w n)(id:Int):ii (fR w (dC p seed d) (dE n seed id))=w:=
 TM B.nE.2 B.nE.1 λ_ a=>mM B.n1 B.n2 a
end Wl
namespace Go.Vc
open Go
theorem RO{α:Type}{c k:Nat}{f:α->ba}:∀{rs:List Sl} {ll:List (List α)} (b:List Sl) (a:List (List α)),ii rs=ii ll->bB c k f (rs++b) (ll++a)=bB c k f rs ll++bB c k f b a:=by intro rs ll b a h;unfold bB;exact yH h
theorem aa.aay{B:aA}{a h:f8}{X:HP}:∀{L M:List HP},aa B a h (L++X::M)->aa B a h (L++M):=λ{L M} H=>by
 have:=H.del L.length
 rwa [List.eraseIdx_append_of_length_le (qm _),ze,List.eraseIdx_cons_zero]at this
variable {α:Type} {C:Ctx} {B:aA} {h0 h h':f8} {As:List HP} {e e2 k t t2 by_:Nat} {s s2:Sl} {f:α->ba} {ll l2:List (List α)}
theorem aa.adq(E:C.Ok)(H:aa B h0 h (dg e s e2 k f ll::dg e s2 e2 k f l2::As))(x:bU C.toAO t e 1 [.slice eH 0 0] 24)(F:∃i e2,C.T.get t2=dB i/\i.db=.slice e2)(G:ii ll+ii l2<=2^32){ty:Nat}{K:Sl->f8->Prop}
  (y:∀d h',aa B h0 h' (dg e d e2 k f (ll++l2)::As)->K d h'):
  bV C.P (qt #[t,t2] ty #[.slice s.ptr s.len s.cap,.slice s2.ptr s2.len s2.cap]) (.one (.sc .slc)) h K:=by
 obtain⟨rs,q,n⟩:=H.BL;obtain⟨c,g⟩:∃c,c=bB e2 k f rs ll:=⟨_,rfl⟩
 rw[<-g]at n;have u:aa B h0 h (dg e s2 e2 k f l2::(As++(ae e s 1 bp rs::c))):=n.front;obtain⟨a,m,o⟩:=u.BL;obtain⟨L2,j⟩:∃L2,L2=bB e2 k f a l2:=⟨_,rfl⟩
 rw[<-j]at o;have r:=o.front;rw[qp]at r;have w:=r.front;have p:aa B h0 h (ae e s 1 bp rs::(c++(ae e s2 1 bp a::(L2++As)))):=by
  have D:(ae e s 1 bp rs::c++(ae e s2 1 bp a::L2))++As=ae e s 1 bp rs::(c++(ae e s2 1 bp a::(L2++As))):=i9
  rw[<-D];exact w
 have z:Seq h (λb=>b<h.size) s2 1 bp a:=p.seq (ii c+1) (by rw[qy,qj (qm _),ze];rfl) λ_=>rfl;refine p.append E 0 i0 x F i0 i5 (λ_=>rfl) z jK i4 λd h' l=>y d h' ?_;have l:aa B h0 h' ((ae e d 1 bp (rs++a)::c)++(ae e s2 1 bp a::(L2++As))):=l;have v:=aa.aay l;refine aa.DW (rs:=rs++a) (by simp[q,m]) ?_;rw[RO a l2 q,<-g,<-j];have A:(ae e d 1 bp (rs++a)::(c++L2))++As=(ae e d 1 bp (rs++a)::c)++(L2++As):=i9
 rw[A];exact v
end Go.Vc
