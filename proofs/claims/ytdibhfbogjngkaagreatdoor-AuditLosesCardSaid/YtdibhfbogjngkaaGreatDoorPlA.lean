/- Lemmas for the proof of the law; no condition. -/
import Derived.Test.YtdibhfbogjngkaaGreatDoorVcA
set_option linter.unusedVariables false
set_option linter.unusedSimpArgs false
open Nat renaming add_assoc -> w9, add_sub_cancel_left -> zr, add_zero -> yn, le_of_not_lt -> xg, le_refl -> qn, le_trans -> zi, lt_of_lt_of_le -> qM, min_eq_left -> wX, mod_lt -> y7, mul_le_mul -> wq, mul_le_mul_right -> zB, sub_self -> zc, succ_mul -> zK, zero_add -> zQ
open Array renaming ext' -> yC, ext_getElem? -> yK, getElem?_eq_some_iff -> yJ, getElem?_modify -> wj, getElem?_setIfInBounds -> wD, range -> xy
open List renaming all_eq_true -> qL, append_assoc -> qp, cons_append -> zt, drop_drop -> zE, drop_eq_getElem_cons -> qV, drop_of_length_le -> zf, eq_nil_of_length_eq_zero -> q9, flatMap_append -> zg, flatMap_cons -> zl, getD_eq_getElem?_getD -> qe, getElem?_append_left -> qm, getElem?_append_right -> qj, getElem?_cons_succ -> qu, getElem?_cons_zero -> yf, getElem?_drop -> wC, getElem?_eq_getElem -> qd, getElem?_eq_none -> qZ, getElem?_eq_some_iff -> qo, getElem?_map -> qR, getElem?_set -> qY, getElem?_set_ne -> zG, getElem?_set_self -> zm, getElem?_take -> yL, getElem?_toArray -> zR, getElem?_zipWith -> wk, getElem_mem -> qg, length_append -> qx, length_drop -> za, length_set -> zj, length_take -> qU, map_cons -> wz, mem_flatMap -> zJ, mem_singleton -> qC, replicate -> qh, set_comm -> vC, set_eq_take_append_cons_drop -> yj, set_set -> yG, size_toArray -> wO, take_append_drop -> qA
open Go.Value renaming int -> xH
open Go.IntKind renaming i64 -> xN, u8 -> xO, wrap -> qc
open Go.Builtin renaming append_ -> qt, copy_ -> wJ, firstCells -> wS, nextslicecap -> vo
open Go.Instr renaming alloc -> qK, box -> qO, buildSlice -> qq, checkKey -> vP, fill -> wL, findKey -> vB, findNow -> xl, lookup -> xv, makeSlice -> qF, mapUpdate -> vk, sameBits -> xw, storeAt -> qf
open Bool renaming true_and -> zU
open Int renaming toNat_natCast -> ql
open Option renaming map_some -> qQ, some -> zS
set_option maxRecDepth 100000
open Option renaming some -> dB, none -> eH
open Bool renaming true -> eL
open Go renaming Value -> eX, Addr -> fz
open Go.Vc renaming cellOf -> f7, Heap -> f8
open List renaming length -> ii
namespace Go.Vc
open Go
section
variable {A B:Prop}
theorem aj{p:Prop}[Decidable p](b:p->A)(a:¬p->B):Br (decide p) A B:=by
 by_cases h:p
 ·rw[g9 h];exact b h
 ·rw[hU h];exact a h
theorem cu{a b:Int}(d:a=b->A)(c:a≠b->B):Br (a==b) A B:=by
 by_cases h:a=b
 ·rw[beq_iff_eq.2 h];exact d h
 ·rw[beq_eq_false_iff_ne.2 h];exact c h
theorem cv{a b:Int}(d:a≠b->A)(c:a=b->B):Br (a !=b) A B:=by
 by_cases h:a=b
 ·rw[show(a !=b)=false by simp[h]];exact c h
 ·rw[show(a !=b)=eL by simp[h]];exact d h
theorem bv{b:Bool}(c:b=eL->A)(a:b=false->B):Br b A B:=by
 cases b
 ·exact a i0
 ·exact c i0
theorem bm{b:Bool}(c:b=false->A)(a:b=eL->B):Br (!b) A B:=by
 cases b
 ·exact c i0
 ·exact a i0
theorem Gr{b:Bool}(h:b=eL)(a:A):Br b A B:=by subst h;exact a
theorem wn{b:Bool}(h:b=false)(a:B):Br b A B:=by subst h;exact a
end
theorem bg{σ:Type}{rest:σ->f8->Prop}{B:(σ->f8->Prop)->Prop}(h:B rest):bi rest B:=⟨rest,λ_ _ x=>x,h⟩
theorem cE{σ:Type}{rest:σ->f8->Prop}{B:(σ->f8->Prop)->Prop}(R:σ->f8->Prop)(b:B R)(a:∀s h,R s h->rest s h):bi rest B:=⟨R,a,b⟩
theorem av{σ:Type}{B:σ->(σ->f8->Prop)->f8->Prop}{s:σ}{h:f8}{τ:Type}(V:τ->σ)(I:τ->f8->Prop)(μ:τ->Nat)(t0:τ)(d:s=V t0)(e:I t0 h)
  (c:∀t h,I t h->B (V t) (λb h'=>∃a,b=V a/\I a h'/\μ a<μ t) h):aM B s h:=⟨τ,V,I,μ,t0,d,e,c⟩
abbrev aB:=Nat->Prop
def aV(p:aB)(h h':f8):Prop:=h.size<=h'.size/\∀b,b<h.size->p b->h'[b]?=h[b]?
def Sl.on(s:Sl)(b:Nat):Prop:=∃o,s.ptr=dB ⟨b,o,eH⟩
section
variable {p q:aB} {h h' h'':f8}
theorem aV.refl(p:aB)(h:f8):aV p h h:=⟨qn _,λ_ _ _=>rfl⟩
theorem aV.trans(a:aV p h h')(b:aV p h' h''):aV p h h'':=⟨zi a.1 b.1,λk c d=>(b.2 k (qM c a.1) d).trans (a.2 k c d)⟩
theorem aV.then(a:aV p h h')(b:aV q h' h'')(e:∀k,k<h.size->p k->q k):aV p h h'':=⟨zi a.1 b.1,λk c d=>(b.2 k (qM c a.1) (e k c d)).trans (a.2 k c d)⟩
theorem aV.mono(a:aV p h h')(d:∀b,b<h.size->q b->p b):aV q h h':=⟨a.1,λk c e=>a.2 k c (d k c e)⟩
theorem aV.push(p:aB)(h:f8)(o:Obj):aV p h (h.push o):=⟨i9,λb a _=>by rw[Array.getElem?_push,g0 i4]⟩
theorem aV.Gh{a:fz}{v:eX}(d:¬p a.block):aV p h (Gh h a v):=⟨by simp[Go.Vc.Gh],λb _ c=>by
 simp only[Go.Vc.Gh,wj];rw[g0 λe=>d (by rw[e];exact c)]⟩
theorem uC{a:fz}{v:eX}(b:f7 h a=dB v):a.block<h.size:=by
 unfold f7 at b;cases hb:h[a.block]? with
 |none=>rw[hb]at b;cases b
 |some o=>exact(yJ.1 hb).1
theorem lt_of_block{b:Nat}{o:Obj}(a:h[b]?=dB o):b<h.size:=(yJ.1 a).1
theorem aV.cell(a:aV p h h'){x:fz}{v:eX}(c:p x.block)(b:f7 h x=dB v):f7 h' x=dB v:=by have:=a.2 _ (uC b) c;unfold f7 at*;rw[this];exact b
theorem aV.block(a:aV p h h'){b:Nat}{o:Obj}(d:p b)(c:h[b]?=dB o):h'[b]?=dB o:=by rw[a.2 b (lt_of_block c) d];exact c
theorem aV.cells(a:aV p h h'){x:fz}(b:p x.block):∀{vs:be} {i:Nat},an h x i vs->an h' x i vs
 |[],_,_=>trivial
 |v::r,i,hc=>⟨a.cell (by unfold Addr.add;split<;>exact b) hc.1,aV.cells a b hc.2⟩
end
theorem add_eq(b o n:Nat):(⟨b,o,eH⟩:fz).add n=⟨b,o+n,eH⟩:=by
 unfold Addr.add;split
 ·rename_i h;subst h;rfl
 ·rfl
theorem add_zero(a:fz):a.add 0=a:=rfl
theorem DR{h:f8}{b o:Nat}{c:Array eX}{e:TypeId}{f:Nat×Nat}(a:h[b]?=dB (.cells c e f)):f7 h ⟨b,o,eH⟩=c[o]?:=by unfold f7;rw[a];rfl
theorem acD{h:f8}{b o:Nat}{c:Array eX}{e:TypeId}(a:h[b]?=dB (.cells c e (0,0))):Xv h ⟨b,o,eH⟩=false:=by unfold Xv;rw[a];simp
structure Seq {α:Type} (h:f8) (p:aB) (s:Sl) (k:Nat) (f:α->be) (l:List α):Prop where
 len:s.len=ii l
 elem:∀i x,l[i]?=dB x->∃b o,s.ptr=dB ⟨b,o,eH⟩/\p b/\an h ⟨b,o+i*k,eH⟩ 0 (f x)
section
variable {α:Type} {h h':f8} {p q:aB} {s:Sl} {k:Nat} {f:α->be} {l:List α}
theorem Seq.ai(c:Seq h p s k f l)(g:aV p h h'):Seq h' p s k f l:=⟨c.len,λi x d=>by
 obtain⟨b,o,e,a,h3⟩:=c.elem i x d;exact⟨b,o,e,a,g.cells a h3⟩⟩
theorem Seq.mono(a:Seq h p s k f l)(g:∀b,p b->q b):Seq h q s k f l:=⟨a.len,λi x d=>by
 obtain⟨b,o,e,c,h3⟩:=a.elem i x d;exact⟨b,o,e,g b c,h3⟩⟩
theorem Seq.nil(h:f8)(p:aB)(c:Nat)(a:aT)(k:Nat)(f:α->be):Seq h p ⟨a,0,c⟩ k f []:=⟨i0,λi x b=>by simp at b⟩
theorem Seq.bB{X:Type}{g:X->eX}(c:Seq h p s 1 f l){i:Int}(n:Nat)(d:i=n)(k:n<ii l)(x:X)(e:f l[n]=[g x]){K:X->Prop}(m:K x):
  ∃a:fz,(s.ptr=dB a/\0<=i/\i<((s.len:Nat):Int))/\∃x:X,f7 h (a.add (i.toNat*1))=dB (g x)/\K x:=by
 subst d;obtain⟨b,o,j,_,h3⟩:=c.elem n l[n] (qd k);refine⟨_,⟨j,i4,by rw[c.len];omega⟩,x,?_,m⟩;rw[e]at h3;have:=h3.1;rw[add_eq,yn]at this;rw[add_eq];simpa using this
theorem Seq.dQ{X:Type}{g:X->be}(c:Seq h p s k f l){i:Int}(n:Nat)(d:i=n)(m:n<ii l)(x:X)(e:f l[n]=g x){K:X->Prop}(q:K x):
  ∃a:fz,(s.ptr=dB a/\0<=i/\i<((s.len:Nat):Int))/\∃x:X,an h (a.add (i.toNat*k)) 0 (g x)/\K x:=by
 subst d;obtain⟨b,o,j,_,h3⟩:=c.elem n l[n] (qd m);refine⟨_,⟨j,i4,by rw[c.len];omega⟩,x,?_,q⟩;rw[add_eq];rw[e]at h3;simpa using h3
end
def aC(n:Int):be:=[xH xN n]
def aE(n:UInt8):be:=[xH xO n.toNat]
def eN(b:Bool):be:=[.bool b]
def bt(s:Sl):be:=[.slice s.ptr s.len s.cap]
structure gB {α:Type} (h:f8) (p:aB) (s:Sl) (k:Nat) (f:α->be) (ll:List (List α)) (rs:List Sl):Prop where
 top:Seq h p s 1 bt rs
 len:ii rs=ii ll
 row:∀(i:Nat) (r:Sl) (l:List α),rs[i]?=dB r->ll[i]?=dB l->Seq h p r k f l
section
variable {α:Type} {h h':f8} {p q:aB} {s:Sl} {k:Nat} {f:α->be} {ll:List (List α)} {rs:List Sl}
theorem gB.ai(a:gB h p s k f ll rs)(b:aV p h h'):gB h' p s k f ll rs:=⟨a.top.ai b,a.len,λi r l d c=>(a.row i r l d c).ai b⟩
theorem gB.mono(a:gB h p s k f ll rs)(c:∀b,p b->q b):gB h q s k f ll rs:=⟨a.top.mono c,a.len,λi r l e d=>(a.row i r l e d).mono c⟩
theorem gB.Sg(a:gB h p s k f ll rs):s.len=ii ll:=by rw[a.top.len,a.len]
theorem gB.get(c:gB h p s k f ll rs){i:Int}(n:Nat)(g:i=n)(e:n<ii ll){K:Sl->Prop}(j:∀r,Seq h p r k f ll[n]->rs[n]?=dB r->K r):
  ∃a:fz,(s.ptr=dB a/\0<=i/\i<((s.len:Nat):Int))/\∃x:Sl,f7 h (a.add (i.toNat*1))=dB (.slice x.ptr x.len x.cap)/\K x:=by
 have b:n<ii rs:=by rw[c.len];exact e
 have d:rs[n]?=dB rs[n]:=qd b;exact c.top.bB n g b rs[n] i0 (j _ (c.row n _ _ d (qd e)) d)
end
structure Own {α:Type} (h:f8) (e:TypeId) (s:Sl) (k:Nat) (f:α->be) (l:List α):Prop where
 len:s.len=ii l
 head:(s.ptr=eH/\s.cap=0/\l=[])∨∃b rest,s.ptr=dB ⟨b,0,eH⟩/\h[b]?=dB (.cells (l.flatMap f++rest).toArray e (0,0))/\rest.length=(s.cap-s.len)*k/\s.len<=s.cap
theorem cQ{α:Type}{k:Nat}{f:α->be}(a:∀x,ii (f x)=k):∀(l:List α),ii (l.flatMap f)=ii l*k
 |[]=>i9
 |x::r=>by rw[zl,qx,a,cQ a r,List.length_cons,zK];omega
theorem Ks{α:Type}{k:Nat}{f:α->be}(a:∀x,ii (f x)=k):∀(l:List α) (i:Nat) (x:α),l[i]?=dB x->∃pre post,l.flatMap f=pre++f x++post/\pre.length=i*k
 |y::r,0,x,h=>by simp at h;subst h;exact⟨[],r.flatMap f,i9,i9⟩
 |y::r,i+1,x,h=>by
  obtain⟨pre,post,c,b⟩:=Ks a r i x j5;exact⟨f y++pre,post,n7,by rw[qx,a,b,zK];omega⟩
theorem Ch{h:f8}{b o:Nat}{e:TypeId}{fr:Nat×Nat}:∀{vs pre post:be} {i:Nat},h[b]?=dB (.cells (pre++vs++post).toArray e fr)->ii pre=o+i->an h ⟨b,o,eH⟩ i vs
 |[],_,_,_,_,_=>trivial
 |v::r,pre,post,i,hb,hl=>by
  refine⟨?_,Ch (pre:=pre++[v]) (post:=post) (by simpa using hb) i7⟩;rw[add_eq,DR hb,<-hl];simp
def gC(h:f8)(b:Nat)(o:Obj):f8:=h.setIfInBounds b o
theorem fW{h:f8}{b c:Nat}{o x:Obj}(a:h[b]?=dB x):(gC h b o)[c]?=if b=c then dB o else h[c]?:=by
 unfold gC;rw[wD];split
 ·rename_i e;subst e;rw[f9 (lt_of_block a)]
 ·rfl
theorem ZJ{h:f8}{b o:Nat}{c:Array eX}{e:TypeId}{f:Nat×Nat}{v:eX}(a:h[b]?=dB (.cells c e f)):Gh h ⟨b,o,eH⟩ v=gC h b (.cells (c.setIfInBounds o v) e f):=by
 apply yK;intro i;rw[fW a];simp only[Gh,wj];split
 ·rename_i d;subst d;rw[a];rfl
 ·rfl
theorem ZK(h:f8)(b:Nat)(o a:Obj):gC (gC h b o) b a=gC h b a:=by unfold gC;simp
theorem aV.gC{p:aB}{h:f8}{b:Nat}{o x:Obj}(a:h[b]?=dB x)(f:¬p b):aV p h (gC h b o):=⟨by simp[Go.Vc.gC],λc _ d=>by
 rw[fW a,g0 λe=>f (by rw[e];exact d)]⟩
theorem dp{P:Program}{b o:Nat}{e:TypeId}{K:Unit->f8->Prop}:∀{vs pre old post:be} {i:Nat} {h:f8},h[b]?=dB (.cells (pre++old++post).toArray e (0,0))->ii old=ii vs->ii pre=o+i->
  (∀v∈vs,v.oneCell'=eL)->K () (gC h b (.cells (pre++vs++post).toArray e (0,0)))->ag P (storeCells ⟨b,o,eH⟩ vs i) h K
 |[],pre,old,post,i,h,hb,hl,hp,hv,hk=>by
  have:old=[]:=q9 (by simpa using hl);subst this;refine ag.pure' ?_;have f:gC h b (.cells (pre++[]++post).toArray e (0,0))=h:=by
   apply yK;intro c;rw[fW hb];split
   ·rename_i d;subst d;exact hb.symm
   ·rfl
  rw[f]at hk;exact hk
 |v::r,pre,old,post,i,h,hb,hl,hp,hv,hk=>by
  cases old with
  |nil=>simp at hl
  |cons u old=>
   simp only[storeCells];refine ag.bind ?_;rw[add_eq];have d:f7 h ⟨b,o+i,eH⟩=dB u:=by rw[DR hb,<-hp];simp
   refine ag.agC (hv v i9) d (acD hb) ?_;rw[ZJ hb];have a:(pre++(u::old)++post).toArray.setIfInBounds (o+i) v=((pre++[v])++old++post).toArray:=by rw[<-hp];apply yC;simp
   rw[a];refine dp (e:=e) (pre:=pre++[v]) (old:=old) (post:=post) ?_ (by simpa using hl) i7 (λx g=>hv x pb) ?_
   ·rw[fW hb,f9 rfl]
   ·rw[ZK];simpa using hk
theorem NZ{P:Program}{h:f8}{a:fz}{vs:be}{n:Nat}{K:Array eX->f8->Prop}(d:ii vs=n)(e:an h a 0 vs)(c:K vs.toArray h):ag P (loadCells a n) h K:=λw b=>by
 subst b;refine⟨vs.toArray,w,?_,cY.refl w,c⟩;have:=run_loadCells (P:=P) (w:=w) (a:=a) vs 0 #[] e;rw[d]at this;unfold loadCells;rw[this];simp
section
variable {α:Type} {h h':f8} {p:aB} {e:TypeId} {s:Sl} {k:Nat} {f:α->be} {l:List α}
theorem Own.lt(c:Own h e s k f l){b:Nat}(a:s.on b):b<h.size:=by
 rcases c.head with⟨h1,_,_⟩|⟨b',rest,h1,h2,_,_⟩
 ·obtain⟨o,h0⟩:=a;rw[h1]at h0;cases h0
 ·obtain⟨o,h0⟩:=a;rw[h1]at h0;cases h0;exact lt_of_block h2
theorem Own.ai(c:Own h e s k f l)(d:aV p h h')(a:∀b,s.on b->p b):Own h' e s k f l:=⟨c.len,by
 rcases c.head with h1|⟨b,rest,h1,h2,h3,h4⟩
 ·exact .inl h1
 ·exact .inr ⟨b,rest,h1,d.block (a b ⟨0,h1⟩) h2,h3,h4⟩⟩
theorem Own.seq(d:Own h e s k f l)(g:∀x,ii (f x)=k)(a:∀b,s.on b->p b):Seq h p s k f l:=⟨d.len,λi x c=>by
 rcases d.head with⟨_,_,h1⟩|⟨b,rest,h1,h2,h3,h4⟩
 ·subst h1;simp at c
 ·obtain⟨pre,post,j,m⟩:=Ks g l i x c;refine⟨b,0,h1,a b ⟨0,h1⟩,Ch (e:=e) (fr:=(0,0)) (pre:=pre) (post:=post++rest) ?_ i4⟩;rw[h2,j];simp⟩
theorem Own.nil(h:f8)(e:TypeId)(k:Nat)(f:α->be):Own h e ⟨eH,0,0⟩ k f []:=⟨i0,.inl ⟨i0,i0,i0⟩⟩
theorem Own.cap(a:Own h e s k f l):s.len<=s.cap:=by
 rcases a.head with⟨h1,h2,h3⟩|⟨b,rest,h1,h2,h3,h4⟩
 ·have:=a.len;rw[h3]at this;simp at this;omega
 ·exact h4
end
theorem ag.always{α:Type}{P:Program}{s:Sem α}{v:α}{h:f8}{K:α->f8->Prop}(c:aH P s v)(b:K v h):ag P s h K:=λw a=>⟨v,w,c w,cY.refl w,by rw[a];exact b⟩
structure bL (C:CM) (t e k:Nat) (z:be) (by_:Nat):Prop where
 ex:∃i j,C.T.get t=dB i/\i.cT=.slice e/\C.T.get e=dB j/\j.size=k/\j.zero=z/\j.bytes=by_
section
variable {C:Ctx} {t e k:Nat} {z:be} {by_:Nat}
theorem bL.under(b:bL C.toCM t e k z by_)(d:C.Ok):C.P.underlying t=dB (.slice e):=by obtain⟨i,j,c,a,_⟩:=b.ex;have:=d.cT c;rw[a]at this;exact jk this
theorem bL.size(b:bL C.toCM t e k z by_)(d:C.Ok):aH C.P (sizeOf e) k:=by obtain⟨i,j,_,_,c,a,_⟩:=b.ex;rw[<-a];exact dm d.toOk c
theorem bL.info(h:bL C.toCM t e k z by_)(o:C.Ok):∃f,C.P.info? e=dB f/\f.size=k/\f.bytes=by_/\∃a,f.zero=dB a/\a.cells=z.toArray:=by obtain⟨i,j,_,_,l,b,h3,g⟩:=h.ex;obtain⟨f,m,p,d,a,c,n⟩:=o.info l;exact⟨f,m,p.trans b,d.trans g,a,c,by apply yC;rw[n,h3]⟩
end
def iD(z:be):Nat->be
 |0=>[]
 |n+1=>z++iD z n
theorem oA(z:be):∀n,ii (iD z n)=n*ii z
 |0=>by simp[iD]
 |n+1=>by rw[iD,qx,oA z n,zK];omega
theorem Sh(z:be):∀(n i:Nat),i<n*ii z->(iD z n)[i]?=z[i%ii z]?
 |0,i,h=>ld
 |n+1,i,h=>by
  have a:0<ii z:=Nat.pos_of_ne_zero λe=>by rw[e]at h;simp at h
  rw[iD];by_cases b:i<ii z
  ·rw[qm b,Nat.mod_eq_of_lt b]
  ·rw[qj i4,Sh z n (i-ii z) (by rw[zK]at h;omega)];congr 1
   conv=>rhs;rw[show i=(i-ii z)+ii z by omega,Nat.add_mod_right]
theorem Si(z:be)(n m:Nat)(c:m=n*ii z):((xy m).map λi=>z.toArray[i%z.toArray.size]!)=(iD z n).toArray:=by
 apply yK;intro i;subst c;simp only[Array.getElem?_map,Array.getElem?_range,zR];by_cases b:i<n*ii z
 ·rw[Sh z n i b];have a:0<ii z:=Nat.pos_of_ne_zero λe=>by rw[e]at b;simp at b
  have:=y7 i a;simp[b,this]
 ·rw[qZ (by rw[oA];omega)];simp[b]
theorem Gs(z:be)(n:Nat):Builtin.zeroCells z.toArray n=(iD z n).toArray:=Si z n _ i9
theorem WM(a:Nat):∀(r c:Nat),Builtin.growBy a r c<=(c+768)*2^r
 |0,c=>by simp[Builtin.growBy]
 |r+1,c=>by
  unfold Builtin.growBy;split
  ·exact zi (Nat.le_add_right c 768) (Nat.le_mul_of_pos_right _ (Nat.two_pow_pos _))
  ·refine zi (WM a r _) ?_;rw[Nat.pow_succ,Nat.mul_comm (2^r) 2,<-Nat.mul_assoc];exact zB _ i4
theorem aik(o n:Nat)(h:o<n):(o+768)*2^4<=16*n+16*768:=i4
theorem WN(a b:Nat)(h:b<a:=by omega):vo a b<=16*a+16*768:=by
 unfold vo;split
 ·omega
 ·split
  ·omega
  ·exact zi (WM a 4 b) (aik _ _ h)
section
variable {C:Ctx} {t t2 e k:Nat} {z:be} {by_:Nat} {α:Type} {h:f8} {p:aB} {s v:Sl} {f:α->be} {l l2:List α}
theorem fH{P:Program}{K:Array eX->f8->Prop}(q:∀x,ii (f x)=k)(g:Seq h p v k f l)(w:K (l.flatMap f).toArray h):
  ag P (wS k v.len (.slice v.ptr v.len v.cap)) h K:=by
 cases hp:v.ptr with
 |none=>
  have:l=[]:=by
   cases l with
   |nil=>rfl
   |cons x r=>obtain⟨b,o,c,_⟩:=g.elem 0 x i9;rw[hp]at c;cases c
  subst this;exact ag.pure' w
 |some a=>
  refine NZ (by rw[cQ q,<-g.len]) ?_ w;cases l with
  |nil=>trivial
  |cons s r0=>
   obtain⟨b,o,c,_,_⟩:=g.elem 0 s i9;rw[hp]at c;cases c;have j:∀(r:List α) (n:Nat),(∀i x,r[i]?=dB x->an h ⟨b,o+(n+i)*k,eH⟩ 0 (f x))->an h ⟨b,o,eH⟩ (n*k) (r.flatMap f):=by
    intro r
    induction r with
    |nil=>intro n _;trivial
    |cons x r ih=>
     intro n t;have h0:=t 0 x i9;have e:=ih (n+1) (λi y A=>by have:=t (i+1) y (by simpa using A);rw[show n+1+i=n+(i+1)by omega];exact this);rw[zl];have app:∀(us vs:be) (i:Nat),an h ⟨b,o,eH⟩ i us->an h ⟨b,o,eH⟩ (i+ii us) vs->an h ⟨b,o,eH⟩ i (us++vs):=by
      intro us
      induction us with
      |nil=>intro vs i _ e;simpa using e
      |cons u us ih=>intro vs i c e;exact⟨c.1,ih vs (i+1) c.2 (by rw[show i+1+ii us=i+(ii us+1)by omega];exact e)⟩
     refine app _ _ _ ?_ (by rw[q,<-zK];exact e);have d:∀(us:be) (i m:Nat),an h ⟨b,o+m,eH⟩ i us->an h ⟨b,o,eH⟩ (m+i) us:=by
      intro us
      induction us with
      |nil=>intros;trivial
      |cons u us ih=>
       intro i m c;refine⟨?_,ih (i+1) m c.2⟩;have:=c.1;rw[add_eq]at this⊢;rw[<-w9];exact this
     have:=d (f x) 0 ((n+0)*k) h0;simpa using this
   have:=j (s::r0) 0 (λi x z=>by
    obtain⟨B,D,c,_,h3⟩:=g.elem i x z;rw[hp]at c;cases c;simpa using h3)
   simpa using this
theorem XE(y:C.Ok)(M:bL C.toCM t e k z by_)(U:∃i e2,C.T.get t2=dB i/\i.cT=.slice e2)(V:ii z=k)(J:0<by_/\by_<=128)(m:∀x,ii (f x)=k)
  (w:Own h e s k f l) (F:Seq h p v k f l2) (n:∀x,∀c∈f x,c.oneCell'=eL) (ab:ii l+ii l2<=2^32) {ty:Nat} {K:Sl->f8->Prop}
  (N:∀L h',Own h' e L k f (l++l2)->aV (λb=>¬s.on b) h h'->(∀b,L.on b->s.on b∨h.size<=b)->K L h'):
  az C.P (qt #[t,t2] ty #[.slice s.ptr s.len s.cap,.slice v.ptr v.len v.cap]) (.one (.sc .slc)) h K:=by
 obtain⟨i2,e2,g1,g2⟩:=U;have B:C.P.underlying t2=dB (.slice e2):=by have:=y.cT g1;rw[g2]at this;exact jk this
 obtain⟨I,A,x2,x3,zv,x4,Y⟩:=M.info y;unfold az qt;simp only[zR,yf,qu];refine ag.bind (ag.always (aJ (M.under y)) ?_);refine ag.bind (ag.always (M.size y) ?_);refine ag.bind (ag.always (aJ B) ?_);refine ag.bind (ag.pure' ?_);simp only[Bool.false_eq_true,if_false,Bool.not_false,if_true];refine ag.bind (ag.pure' ?_);have q:=w.len;have E:=F.len;by_cases d:s.len+v.len<=s.cap
 ·rw[f9 d];refine ag.bind (fH m F ?_);rcases w.head with⟨p1,p2,p3⟩|⟨b,rest,p1,p2,p3,p4⟩
  ·rw[p1];have Q:l2=[]:=q9 i4;subst Q;refine ag.pure' ⟨⟨eH,s.len+v.len,s.cap⟩,i0,N _ _ ⟨?_,.inl ⟨i0,p2,by simp[p3]⟩⟩ (aV.refl _ _) ?_⟩
   ·simp;omega
   ·rintro R ⟨o,g⟩;cases g
  ·rw[p1];refine ag.bind ?_;rw[add_eq,zQ];have j:=cQ m l;have a:=cQ m l2;have D:ii (l2.flatMap f)<=ii rest:=by rw[a,p3];exact zB k i4
   refine dp (e:=e) (pre:=l.flatMap f) (old:=rest.take (l2.flatMap f).length) (post:=rest.drop (l2.flatMap f).length) ?_ ?_ ?_ ?_ ?_
   ·rw[qp,qA];exact p2
   ·rw[qU];exact wX D
   ·rw[j,q];omega
   ·intro c Z;obtain⟨x,_,G⟩:=zJ.1 Z;exact n x c G
   ·refine ag.pure' ⟨⟨dB ⟨b,0,eH⟩,s.len+v.len,s.cap⟩,i0,N _ _ ⟨?_,.inr ⟨b,rest.drop (l2.flatMap f).length,i0,?_,?_,d⟩⟩ ?_ ?_⟩
    ·simp;omega
    ·rw[fW p2,f9 rfl];simp
    ·rw[za,p3,a,<-Nat.sub_mul];show(s.cap-s.len-ii l2)*k=(s.cap-(s.len+v.len))*k;congr 1;omega
    ·exact aV.gC p2 (λhn=>hn ⟨0,p1⟩)
    ·rintro R ⟨o,g⟩;cases g;exact .inl ⟨0,p1⟩
 ·rw[g0 d];have r:Seq h (λ_=>True) s k f l:=w.seq m λ_ _=>trivial;have S:=w.cap;refine ag.bind (ag.always (dg A) ?_);rw[g0 λhh=>by rcases hh.2 with h|h<;>first|exact h|(rw[x3]at h;omega)];refine ag.bind (ag.always (dg A) ?_);have ad:=WN (s.len+v.len) s.cap;rw[g0 (by
   have:vo (s.len+v.len) s.cap*I.bytes<=(16*2^32+16*768)*128:=wq i4 (by rw[x3];exact J.2);omega)]
  refine ag.bind (ag.NV ⟨λW=>(by cases W),λ_ X=>?_⟩);refine ag.bind (ag.always (dg A) ?_);refine ag.bind (ag.Km ?_);refine ag.bind (fH m r ?_);refine ag.bind (fH m F ?_);have O:aH C.P (zeroValue e) zv:=(dg A).bind (by rw[x4];exact .pure);refine ag.bind (ag.always O ?_);rw[Y,Gs];unfold newRow;refine ag.bind (ag.bind (ag.rQ (ag.pure' (ag.pure' ?_))));generalize H:Question.cut (Question.appendCap (s.len+v.len) s.cap e) X=cc;have u:s.len+v.len<=cc:=by rw[<-H];simp only[Question.cut];omega
  refine⟨⟨dB ⟨h.size,0,eH⟩,s.len+v.len,cc⟩,i0,N _ _ ⟨?_,.inr ⟨h.size,iD z (cc-(s.len+v.len)),i0,?_,?_,u⟩⟩ (aV.push _ _ _) ?_⟩
  ·simp;omega
  ·simp
  ·rw[oA,V]
  ·rintro R ⟨o,g⟩;cases g;exact .inr (qn _)
end
structure cA (h:f8) (a:fz) (e:TypeId) (cs:be):Prop where
 off:a.off=0
 spot:a.spot=eH
 fG:h[a.block]?=dB (.cells cs.toArray e (0,0))
section
variable {h h':f8} {a:fz} {e:TypeId} {cs:be} {p:aB}
theorem cA.addr(c:cA h a e cs):a=⟨a.block,0,eH⟩:=by
 obtain⟨b,o,s⟩:=a;have:=c.off;have:=c.spot
 simp_all
theorem cA.ai(b:cA h a e cs)(d:aV p h h')(c:p a.block):cA h' a e cs:=⟨b.off,b.spot,d.block c b.fG⟩
theorem cA.lt(b:cA h a e cs):a.block<h.size:=lt_of_block b.fG
theorem cA.cell(b:cA h a e cs){j:Nat}{v:eX}(c:cs[j]?=dB v):f7 h (a.add j)=dB v:=by rw[b.addr,add_eq,DR b.fG];simpa using c
theorem cA.cell0(c:cA h a e cs){v:eX}(b:cs[0]?=dB v):f7 h a=dB v:=c.cell (j:=0) b
theorem cA.cells(c:cA h a e cs)(j:Nat)(vs:be)(d:(cs.drop j).take vs.length=vs):an h (a.add j) 0 vs:=by
 rw[c.addr,add_eq,zQ];have b:ii vs<=ii (cs.drop j):=by have:=congrArg List.length d;rw[qU]at this;omega
 rcases Nat.lt_or_ge cs.length j with hj|hj
 ·rw[za]at b;have:vs=[]:=q9 i4;subst this;trivial
 ·refine Ch (e:=e) (fr:=(0,0)) (pre:=cs.take j) (post:=(cs.drop j).drop vs.length) ?_ i7;have:cs.take j++vs++(cs.drop j).drop vs.length=cs:=by
   conv=>lhs;rw[qp];arg 2;arg 1;rw[<-d]
   rw[qA,qA]
  rw[this];exact c.fG
theorem cA.aS(c:cA h a e cs)(vs:be)(b:cs.take vs.length=vs):an h a 0 vs:=c.cells 0 vs b
end
section
variable {C:Ctx} {t:Nat} {i:TI} {h:f8}
theorem Bo(f:C.Ok)(c:C.T.get t=dB i){K:fz->f8->Prop}(e:∀a h',a.block=h.size->cA h' a t i.zero->aV (λ_=>True) h h'->h'.size=h.size+1->K a h'):
  aU C.P (qK t eL (.tuple #[])) h K:=by
 obtain⟨z,d,b⟩:=sC f.toOk c;unfold aU qK;refine ag.bind (ag.always d ?_);refine ag.bind (ag.bind (ag.bind (ag.rQ (ag.pure' (ag.pure' (ag.pure' ?_))))));refine⟨⟨h.size,0,eH⟩,i0,e _ _ i0 ⟨i0,i0,?_⟩ (aV.push _ _ _) i9⟩;rw[<-b];simp
theorem WO{v:eX}{P:Program}{K:fz->f8->Prop}(b:∀a h',a.block=h.size->cA h' a t v.cells.toList->aV (λ_=>True) h h'->h'.size=h.size+1->K a h'):
  aU P (qO t v) h K:=by
 unfold aU qO;refine ag.bind (ag.bind (ag.bind (ag.rQ (ag.pure' (ag.pure' (ag.pure' ?_))))));refine⟨⟨h.size,0,eH⟩,i0,b _ _ i0 ⟨i0,i0,?_⟩ (aV.push _ _ _) i9⟩;simp
theorem run_store(j:C.Ok){a:fz}{e:TypeId}{b:be}(c:cA h a e b)(n:C.T.get t=dB i)(off:Nat){v:eX}(vs:be)(l:v.cells=vs.toArray)(f:i.size=ii vs)
  (d:vs.all (·.oneCell')=eL) (g:off+ii vs<=ii b) {K:Unit->f8->Prop}
  (o:∀h',cA h' a e (b.take off++vs++b.drop (off+ii vs))->aV (·≠a.block) h h'->h'.size=h.size->K () h'):
  ag C.P (qf t (.pointer (dB (a.add off))) v) h K:=by
 have m:=c.addr;unfold qf;refine ag.bind (ag.pure' ?_);unfold storeVar;refine ag.bind (ag.always (dm j.toOk n) ?_);rw[l,f];simp only[wO,ne_eq,not_true,if_false];rw[m,add_eq,zQ];refine dp (e:=e) (pre:=b.take off) (old:=(b.drop off).take vs.length) (post:=b.drop (off+ii vs)) ?_ ?_ ?_ ?_ ?_
 ·have:b.take off++(b.drop off).take vs.length++b.drop (off+ii vs)=b:=by rw[<-zE,qp,qA,qA]
  rw[this];exact c.fG
 ·simp;omega
 ·simp;omega
 ·intro x k;have:=qL.1 d x k;exact this
 ·refine o _ ⟨c.off,c.spot,?_⟩ (aV.gC c.fG i9) (by simp[gC]);rw[fW c.fG,f9 rfl]
theorem DS(m:C.Ok){a:fz}{e:TypeId}{d:be}(g:cA h a e d)(j:C.T.get t=dB i){v:eX}(vs:be)(k:v.cells=vs.toArray)(c:i.size=ii vs)
  (b:vs.all (·.oneCell')=eL) (f:ii vs<=ii d) {K:Unit->f8->Prop}
  (l:∀h',cA h' a e (vs++d.drop vs.length)->aV (·≠a.block) h h'->h'.size=h.size->K () h'):
  ag C.P (qf t (.pointer (dB a)) v) h K:=
 run_store m g j 0 vs k c b i4 (λh' x y z=>l h' (by simpa using x) y z)
end
section
variable {C:Ctx} {t e k:Nat} {z:be} {by_:Nat} {α:Type} {h:f8} {p:aB} {s v:Sl} {f:α->be} {l l2:List α}
theorem Gt{a:α}(b:f a=z):∀n,iD z n=(qh n a).flatMap f
 |0=>rfl
 |n+1=>by rw[iD,List.replicate_succ,zl,b,Gt b n]
theorem ak(x:Int)(c:-9223372036854775808<=x:=by omega)(b:x<=9223372036854775807:=by omega):qc xN x=x:=by
 show(if(eL&&decide (x%2^64>=2^63))=eL then x%2^64-2^64 else x%2^64)=x;by_cases a:x%2^64>=2^63
 ·rw[f9 (by rw[zU];exact g9 a)];omega
 ·rw[g0 (by rw[zU];exactλh=>a (hY h))];omega
theorem run_make(l:C.Ok)(u:bL C.toCM t e k z by_)(r:0<by_/\by_<=128)(o:α)(A:f o=z)(d:ii z=k){H N:IntKind}{n c:Int}(m b:Nat)(L:n=m)(G:c=b)(p:m<=b)(w:b<=2^32)
  {K:Sl->f8->Prop} (I:∀j h',Own h' e j k f (qh m o)->j.ptr=dB ⟨h.size,0,eH⟩->j.cap=b->aV (λ_=>True) h h'->h'.size=h.size+1->K j h'):
  az C.P (qF t (.int H n) (.int N c)) (.one (.sc .slc)) h K:=by
 subst L;subst G;obtain⟨q,B,x2,x3,J,M,E⟩:=u.info l;unfold az qF;refine ag.bind (ag.always (aJ (u.under l)) ?_);refine ag.bind (ag.pure' ?_);refine ag.bind (ag.pure' ?_);refine ag.bind (ag.always (dg B) ?_);have D:qc xN (m:Int)=m:=ak _;have F:qc xN (b:Int)=b:=ak _;have O:¬((q.bytes:Int)*(b:Int)>2^48):=by
  rw[x3];have:by_*b<=128*2^32:=wq r.2 w;have:((by_:Int)*(b:Int))<=((128*2^32:Nat):Int):=by exact_mod_cast this
  omega
 simp only[D,F];rw[g0 i7];refine ag.bind (ag.Km ?_);refine ag.bind (ag.always (u.size l) ?_);have y:aH C.P (zeroValue e) J:=(dg B).bind (by rw[M];exact .pure);have fin:∀g:Array eX,(b*k≠0->g=z.toArray)->ag C.P (do
   let a<-newRow e ((xy (b*k)).map (g[·%g.size]!))
   pure (Value.slice (dB a) m b)) h (λv h'=>∃x:(Rt.one (.sc .slc)).den,v=(Rt.one (.sc .slc)).enc x/\K x h'):=by
  intro g s;have i:((xy (b*k)).map (g[·%g.size]!))=(iD z b).toArray:=by
   by_cases h0:b*k=0
   ·rw[h0];have:iD z b=[]:=q9 (by rw[oA,d,h0]);rw[this];simp
   ·rw[s h0];exact Si z b _ (by rw[d])
  rw[i];refine ag.bind (ag.bind (ag.rQ (ag.pure' (ag.pure' ?_))));refine⟨⟨dB ⟨h.size,0,eH⟩,m,b⟩,i0,I _ _ ⟨i9,.inr ⟨h.size,iD z (b-m),i0,?_,?_,p⟩⟩ i0 i0 (aV.push _ _ _) i9⟩
  ·have:iD z b=(qh m o).flatMap f++iD z (b-m):=by rw[Gt A,Gt A,<-zg,List.replicate_append_replicate];congr 2;omega
   rw[this];simp
  ·rw[oA,d]
 simp only[ql];by_cases h0:b*k=0
 ·rw[f9 h0];exact ag.bind (ag.pure' (fin _ λh=>absurd h0 h))
 ·rw[g0 h0];refine ag.bind (ag.always y ?_);exact ag.bind (ag.pure' (fin _ λ_=>E))
theorem Oa(j:C.Ok)(p:bL C.toCM t e k z by_)(g:ii z=k){n:Nat}{parts:Array (Nat×eX)}(l:List α)(w:ii l=n)(s:n*k<=2^20)
  (b:wL (λi=>dB (i*k,k)) (iD z n).toArray parts.toList=dB (l.flatMap f).toArray) {K:Sl->f8->Prop}
  (B:∀o h',Own h' e o k f l->o.ptr=dB ⟨h.size,0,eH⟩->aV (λ_=>True) h h'->h'.size=h.size+1->K o h'):
  az C.P (qq t n parts) (.one (.sc .slc)) h K:=by
 obtain⟨y,D,x2,x3,u,A,r⟩:=p.info j;unfold az qq;refine ag.bind (ag.always (aJ (p.under j)) ?_);refine ag.bind (ag.always (p.size j) ?_);rw[g0 i4];have q:aH C.P (zeroValue e) u:=(dg D).bind (by rw[A];exact .pure);have fin:∀c:Array eX,(n*k≠0->c=z.toArray)->ag C.P (do
   let dB cells:=wL (λi=>dB (i*k,k)) ((xy (n*k)).map (c[·%c.size]!)) parts.toList
    |stuck "buildSlice: a part of the wrong size"
   pure (Value.slice (dB (<-newRow e cells)) n n)) h (λv h'=>∃x:(Rt.one (.sc .slc)).den,v=(Rt.one (.sc .slc)).enc x/\K x h'):=by
  intro c m;have d:((xy (n*k)).map (c[·%c.size]!))=(iD z n).toArray:=by
   by_cases h0:n*k=0
   ·rw[h0];have:iD z n=[]:=q9 (by rw[oA,g,h0]);rw[this];simp
   ·rw[m h0];exact Si z n _ (by rw[g])
  rw[d,b];refine ag.bind (ag.bind (ag.rQ (ag.pure' (ag.pure' ?_))));refine⟨⟨dB ⟨h.size,0,eH⟩,n,n⟩,i0,B _ _ ⟨w.symm,.inr ⟨h.size,[],i0,i9,i9,qn _⟩⟩ i0 (aV.push _ _ _) i9⟩
 by_cases h0:n*k=0
 ·rw[f9 h0];exact ag.bind (ag.pure' (fin _ λh=>absurd h0 h))
 ·rw[g0 h0];refine ag.bind (ag.always q ?_);exact ag.bind (ag.pure' (fin _ λ_=>r))
theorem Own.set{i:TI}(w:C.Ok)(p:Own h e s k f l)(o:∀x,ii (f x)=k)(E:C.T.get t=dB i){x:Int}(n:Nat)(z:x=n)(q:n<ii l){val:eX}(y:α)(A:val.cells=(f y).toArray)(r:i.size=k)
  (g:(f y).all (·.oneCell')=eL) {K:f8->Prop} (F:∀h',Own h' e s k f (l.set n y)->aV (λb=>¬s.on b) h h'->h'.size=h.size->K h'):
  ∃a:fz,(s.ptr=dB a/\0<=x/\x<((s.len:Nat):Int))/\ag C.P (qf t (.pointer (dB (a.add (x.toNat*k)))) val) h λ_ h'=>K h':=by
 subst z;rcases p.head with⟨_,_,h3⟩|⟨b,rest,h1,h2,h3,h4⟩
 ·subst h3;simp at q
 ·refine⟨_,⟨h1,i4,by rw[p.len];omega⟩,?_⟩;unfold qf;refine ag.bind (ag.pure' ?_);unfold storeVar;refine ag.bind (ag.always (dm w.toOk E) ?_);rw[A,r];have u:=o y;simp only[wO,u,ne_eq,not_true,if_false];rw[add_eq,zQ,ql];have d:l=l.take n++l[n]::l.drop (n+1):=by rw[<-qV q,qA]
  have j:l.set n y=l.take n++y::l.drop (n+1):=yj.trans (f9 q);have m:ii ((l.take n).flatMap f)=n*k:=by rw[cQ o,qU,wX i4]
  refine dp (e:=e) (pre:=(l.take n).flatMap f) (old:=f l[n]) (post:=(l.drop (n+1)).flatMap f++rest) ?_ ?_ ?_ ?_ ?_
  ·have:l.flatMap f++rest=(l.take n).flatMap f++f l[n]++((l.drop (n+1)).flatMap f++rest):=by have v:=congrArg (List.flatMap f) d;rw[zg,zl]at v;rw[v];simp
   rw[<-this];exact h2
  ·rw[o,o]
  ·rw[m];omega
  ·intro c B;have:=qL.1 g c B;exact this
  ·refine F _ ⟨by rw[zj];exact p.len,.inr ⟨b,rest,h1,?_,h3,h4⟩⟩ (aV.gC h2 λD=>D ⟨0,h1⟩) (by simp[gC]);rw[fW h2,f9 i0,j];simp
end
def grow(c:Nat->Nat)(n i:Nat):Nat->Nat:=λb=>if b<n then c b else i
theorem fm{c:Nat->Nat}{n i b:Nat}(h:b<n):grow c n i b=c b:=f9 h
theorem oB{c:Nat->Nat}{n i b:Nat}(h:n<=b:=by omega):grow c n i b=i:=g0 i4
structure dl {α:Type} (h:f8) (c:Nat->Nat) (i:Nat) (e:TypeId) (s:Sl) (k:Nat) (f:α->be) (l:List α):Prop where
 own:Own h e s k f l
 bx:∀b,s.on b->c b=i
structure kB (h:f8) (c:Nat->Nat) (i:Nat) (a:fz) (e:TypeId) (cs:be):Prop where
 box:cA h a e cs
 bx:c a.block=i
structure lL (h0 h:f8) (c:Nat->Nat):Prop where
 ai:aV (λb=>b<h0.size) h0 h
 bx:∀b,b<h0.size->c b=0
section
variable {α:Type} {h h' h0:f8} {c:Nat->Nat} {i j n m:Nat} {e:TypeId} {s:Sl} {k:Nat} {f:α->be} {l:List α} {a:fz} {cs:be}
theorem dl.keep(d:dl h c j e s k f l)(n:aV (λb=>c b≠i) h h')(g:j≠i):dl h' (grow c h.size m) j e s k f l:=
 ⟨d.own.ai n λb a=>by rw[d.bx b a];exact g,λb a=>by rw[fm (d.own.lt a)];exact d.bx b a⟩
theorem kB.keep(d:kB h c j a e cs)(g:aV (λb=>c b≠i) h h')(f:j≠i):kB h' (grow c h.size m) j a e cs:=
 ⟨d.box.ai g (by rw[d.bx];exact f),by rw[fm d.box.lt];exact d.bx⟩
theorem lL.keep(d:lL h0 h c)(f:aV (λb=>c b≠i) h h')(e:i≠0):lL h0 h' (grow c h.size m):=
 ⟨d.ai.then f λb a _=>by rw[d.bx b a];exact e.symm,λb a=>by rw[fm (qM a d.ai.1)];exact d.bx b a⟩
theorem lL.refl(h:f8):lL h h (λ_=>0):=⟨aV.refl _ _,λ_ _=>rfl⟩
theorem dl.seq(a:dl h c j e s k f l)(d:∀x,ii (f x)=k):Seq h (λb=>c b=j) s k f l:=a.own.seq d a.bx
theorem dl.XF(a:dl h c j e s k f l)(g:∀x,ii (f x)=k):Seq h (λb=>b<h.size) s k f l:=a.own.seq g λ_ d=>a.own.lt d
theorem dl.nil(h:f8)(c:Nat->Nat)(i:Nat)(e:TypeId)(k:Nat)(f:α->be):dl h c i e ⟨eH,0,0⟩ k f []:=⟨Own.nil h e k f,λb a=>by obtain⟨o,d⟩:=a;cases d⟩
def Sj(h:f8)(c:Nat->Nat)(i:Nat)(s:Sl)(k:Nat)(f:α->be)(l:List α):Prop:=Seq h (λb=>b<h.size/\c b=i) s k f l
theorem Sj.keep(g:Sj h c j s k f l)(e:aV (λb=>c b≠i) h h')(d:j≠i):Sj h' (grow c h.size m) j s k f l:=
 (Seq.ai g (e.mono λb _ a=>by rw[a.2];exact d)).mono λb a=>⟨qM a.1 e.1,by rw[fm a.1];exact a.2⟩
theorem Sj.new(d:Seq h' (λb=>h.size<=b/\b<h'.size) s k f l):Sj h' (grow c h.size i) i s k f l:=
 Seq.mono d λb a=>⟨a.2,oB a.1⟩
theorem dl.fresh(g:dl h c i e s k f l)(j:lL h0 h c)(n:i≠0)(m:∀x,ii (f x)=k):Seq h (λb=>h0.size<=b/\b<h.size) s k f l:=
 g.own.seq m λb a=>⟨xg λd=>n (by rw[<-g.bx b a,j.bx b d]),g.own.lt a⟩
theorem aV.bx(a:aV (λ_=>True) h h')(c:Nat->Nat)(i:Nat):aV (λb=>c b≠i) h h':=a.mono λ_ _ _=>trivial
end
section
variable {α:Type} {C:Ctx} {h h' h0:f8} {c:Nat->Nat} {i:Nat} {e t t2:Nat} {s v:Sl} {k by_:Nat} {f:α->be} {l l2:List α} {a:fz} {cs z:be} {p:aB} {ti:TI}
theorem uD(f:C.Ok)(_:lL h0 h c)(i:Nat)(d:C.T.get t=dB ti){K:fz->f8->Prop}(e:∀a h',kB h' (grow c h.size i) i a t ti.zero->aV (λb=>c b≠i) h h'->K a h'):
  aU C.P (qK t eL (.tuple #[])) h K:=
 Bo f d λa h' x y z _=>e a h' ⟨y,by rw[oB]⟩ (z.bx c i)
theorem Sk(P:Program)(_:lL h0 h c)(i:Nat){v:eX}{K:fz->f8->Prop}(d:∀a h',kB h' (grow c h.size i) i a t v.cells.toList->aV (λb=>c b≠i) h h'->K a h'):
  aU P (qO t v) h K:=
 WO λa h' x y z _=>d a h' ⟨y,by rw[oB]⟩ (z.bx c i)
theorem kB.store(m:C.Ok)(g:kB h c i a e cs)(o:C.T.get t=dB ti)(off:Nat){v:eX}(vs:be)(n:v.cells=vs.toArray)(k:ti.size=ii vs)
  (d:vs.all (·.oneCell')=eL) (f:off+ii vs<=ii cs) {K:Unit->f8->Prop}
  (p:∀h',kB h' (grow c h.size i) i a e (cs.take off++vs++cs.drop (off+ii vs))->aV (λb=>c b≠i) h h'->K () h'):
  ag C.P (qf t (.pointer (dB (a.add off))) v) h K:=
 run_store m g.box o off vs n k d f λh' x y z=>p h' ⟨x,by rw[fm g.box.lt];exact g.bx⟩ (y.mono λb _ j l=>j (by rw[l];exact g.bx))
theorem kB.jB(n:C.Ok)(j:kB h c i a e cs)(k:C.T.get t=dB ti){v:eX}(vs:be)(l:v.cells=vs.toArray)(f:ti.size=ii vs)
  (d:vs.all (·.oneCell')=eL) (g:ii vs<=ii cs) {K:Unit->f8->Prop}
  (m:∀h',kB h' (grow c h.size i) i a e (vs++cs.drop vs.length)->aV (λb=>c b≠i) h h'->K () h'):
  ag C.P (qf t (.pointer (dB a)) v) h K:=
 j.store n k 0 vs l f d i4 (λh' x y=>m h' (by simpa using x) y)
theorem Bp(u:C.Ok)(_:lL h0 h c)(i:Nat)(f:α->be)(B:bL C.toCM t e k z by_)(g:0<by_/\by_<=128)(d:α)(s:f d=z)(j:ii z=k){E D:IntKind}{n q:Int}(m:Nat)(A:n=m)(v:q=m)(l:m<=2^32)
  {K:Sl->f8->Prop} (w:∀a h',dl h' (grow c h.size i) i e a k f (qh m d)->aV (λb=>c b≠i) h h'->K a h'):
  az C.P (qF t (.int E n) (.int D q)) (.one (.sc .slc)) h K:=
 run_make u B g d s j m m A v (qn _) l λa h' x y _ z _=>w a h' ⟨x,λb r=>by obtain⟨o,p⟩:=r;rw[y]at p;cases p;rw[oB (qn _)]⟩ (z.bx c i)
theorem Kt(q:C.Ok)(_:lL h0 h c)(i:Nat)(f:α->be)(s:bL C.toCM t e k z by_)(j:ii z=k){n:Nat}{parts:Array (Nat×eX)}(l:List α)(r:ii l=n)(g:n*k<=2^20)
  (a:wL (λi=>dB (i*k,k)) (iD z n).toArray parts.toList=dB (l.flatMap f).toArray) {K:Sl->f8->Prop}
  (u:∀d h',dl h' (grow c h.size i) i e d k f l->aV (λb=>c b≠i) h h'->K d h'):
  az C.P (qq t n parts) (.one (.sc .slc)) h K:=
 Oa q s j l r g a λd h' x y z _=>u d h' ⟨x,λb p=>by obtain⟨o,m⟩:=p;rw[y]at m;cases m;rw[oB (qn _)]⟩ (z.bx c i)
theorem dl.append(A:C.Ok)(d:dl h c i e s k f l)(D:bL C.toCM t e k z by_)(j:∃i e2,C.T.get t2=dB i/\i.cT=.slice e2)(u:ii z=k)(n:0<by_/\by_<=128)(r:∀x,ii (f x)=k)
  (B:Seq h p v k f l2) (a:∀x,∀c∈f x,c.oneCell'=eL) (o:ii l+ii l2<=2^32) {ty:Nat} {K:Sl->f8->Prop}
  (E:∀g h',dl h' (grow c h.size i) i e g k f (l++l2)->aV (λb=>c b≠i) h h'->K g h'):
  az C.P (qt #[t,t2] ty #[.slice s.ptr s.len s.cap,.slice v.ptr v.len v.cap]) (.one (.sc .slc)) h K:=
 XE A D j u n r d.own B a o λg h' x y w=>E g h' ⟨x,λb q=>by
  rcases w b q with w|w
  ·rw[fm (d.own.lt w)];exact d.bx b w
  ·exact oB w⟩ (y.mono λb _ m j=>m (d.bx b j))
theorem dl.set(r:C.Ok)(g:dl h c i e s k f l)(q:∀x,ii (f x)=k)(B:C.T.get t=dB ti){x:Int}(n:Nat)(u:x=n)(A:n<ii l){val:eX}(y:α)(v:val.cells=(f y).toArray)(m:ti.size=k)
  (d:(f y).all (·.oneCell')=eL) {K:f8->Prop} (D:∀h',dl h' (grow c h.size i) i e s k f (l.set n y)->aV (λb=>c b≠i) h h'->K h'):
  ∃a:fz,(s.ptr=dB a/\0<=x/\x<((s.len:Nat):Int))/\ag C.P (qf t (.pointer (dB (a.add (x.toNat*k)))) val) h λ_ h'=>K h':=
 g.own.set r q B n u A y v m d λh' z w _=>D h' ⟨z,λb o=>by rw[fm (g.own.lt o)];exact g.bx b o⟩ (w.mono λb _ j p=>j (g.bx b p))
end
section
variable {α:Type} {C:Ctx} {h h' h0:f8} {c:Nat->Nat} {i j n m:Nat} {e t:Nat} {s v:Sl} {k by_:Nat} {f:α->be} {l l2:List α} {z:be} {p:aB}
theorem grow_grow{c:Nat->Nat}{n m i:Nat}(h:n<=m):grow (grow c n i) m i=grow c n i:=by
 funext b;unfold grow;split
 ·rfl
 ·rw[g0 i4]
theorem aV.step(a:aV (λb=>c b≠i) h h'){d:f8}(b:aV (λb=>grow c h.size i b≠i) h' d):aV (λb=>c b≠i) h d:=
 a.then b λx e f=>by rw[fm e];exact f
theorem dl.push(H:C.Ok)(o:dl h c i e s k f l)(A:bL C.toCM t e k z by_)(G:ii z=k)(w:0<by_/\by_<=128)(F:∀x,ii (f x)=k)
  (g:∀x,∀c∈f x,c.oneCell'=eL) (x:α) {parts:Array (Nat×eX)} (a:wL (λi=>dB (i*k,k)) (iD z 1).toArray parts.toList=dB ([x].flatMap f).toArray)
  (q:1*k<=2^20) (y:ii l+1<=2^32) {ty:Nat} {K:Sl->f8->Prop}
  (N:∀n h',dl h' (grow c h.size i) i e n k f (l++[x])->aV (λb=>c b≠i) h h'->K n h'):
  az C.P (qq t 1 parts) (.one (.sc .slc)) h λv m=>az C.P (qt #[t,t] ty #[.slice s.ptr s.len s.cap,.slice v.ptr v.len v.cap]) (.one (.sc .slc)) m K:=by
 refine Oa H A G [x] i0 q a λv m L M u _=>?_;have r:aV (λb=>c b≠i) h m:=u.bx c i;have D:dl m (grow c h.size i) i e s k f l:=⟨o.own.ai u λ_ _=>trivial,λb E=>by rw[fm (o.own.lt E)];exact o.bx b E⟩
 have d:h.size<=m.size:=u.1;obtain⟨J,Q,O,x2,_⟩:=A.ex;refine D.append H A ⟨J,e,O,x2⟩ G w F (L.seq (p:=λ_=>True) F λ_ _=>trivial) g y λn I j B=>?_;rw[grow_grow d]at j;exact N n I j (r.step B)
structure sE (h:f8) (c:Nat->Nat) (top lo:Nat) (e:TypeId) (s:Sl) (k:Nat) (f:α->be) (ll:List (List α)) (rs:List Sl):Prop where
 own:dl h c top e s 1 bt rs
 len:ii rs=ii ll
 row:∀(i:Nat) r l,rs[i]?=dB r->ll[i]?=dB l->Seq h (λb=>b<h.size/\lo<=c b/\c b<lo+ii ll) r k f l
theorem sE.keep{p:List (List α)}{rs:List Sl}{a g:Nat}(n:sE h c a g e s k f p rs)(q:aV (λb=>c b≠i) h h')(u:a≠i)(v:i<g∨g+ii p<=i):sE h' (grow c h.size m) a g e s k f p rs:=
 ⟨n.own.keep q u,n.len,λt r l j o=>((n.row t r l j o).ai (q.mono λb _ d=>by rintro rfl;omega)).mono λb d=>⟨qM d.1 q.1,by rw[fm d.1];exact d.2⟩⟩
theorem sE.nil(h:f8)(c:Nat->Nat)(a b:Nat)(e:TypeId)(k:Nat)(f:α->be):sE h c a b e ⟨eH,0,0⟩ k f [] []:=
 ⟨dl.nil _ _ _ _ _ _,i0,λi r l h=>ld⟩
theorem iU:∀x,∀c∈bt x,c.oneCell'=eL:=by intro x c a;simp only[bt,qC]at a;subst a;rfl
theorem sE.push{j:List (List α)}{rs:List Sl}{a m:Nat}{r:Sl}{x:List α}(F:C.Ok)(u:sE h c a m e s k f j rs)(L:bL C.toCM t e 1 [.slice eH 0 0] 24)
  (I:Seq h (λb=>b<h.size/\c b=m+ii j) r k f x) (B:a<m) (A:ii j+1<=2^32) {ty:Nat} {K:Sl->f8->Prop}
  (M:∀w h',sE h' (grow c h.size a) a m e w k f (j++[x]) (rs++[r])->aV (λb=>c b≠a) h h'->K w h'):
  az C.P (qq t 1 #[(0,.slice r.ptr r.len r.cap)]) (.one (.sc .slc)) h λv o=>az C.P (qt #[t,t] ty #[.slice s.ptr s.len s.cap,.slice v.ptr v.len v.cap]) (.one (.sc .slc)) o K:=by
 refine u.own.push F L i0 i5 (λ_=>rfl) iU r i0 i5 (by rw[u.len];exact A) λw h' y n=>M w h' ⟨y,by simp[u.len],λi H N o p=>?_⟩ n;have d:∀{q:aB} {D:Sl} {l:List α},Seq h q D k f l->(∀b,q b->b<h.size/\m<=c b/\c b<m+ii (j++[x]))->Seq h' (λb=>b<h'.size/\m<=grow c h.size a b/\grow c h.size a b<m+ii (j++[x])) D k f l:=λJ E=>
  (J.ai (n.mono λb _ g=>by have:=E b g;omega)).mono λb g=>by
   have:=E b g;rw[fm this.1];exact⟨qM this.1 n.1,this.2⟩
 have G:=u.len;by_cases O:i<ii j
 ·rw[qm i4]at o p;exact d (u.row i H N o p) λb g=>⟨g.1,g.2.1,i7⟩
 ·have z:i=ii j:=by have:=(qo.1 p).1;simp at this;omega
  subst z;simp at p;rw[<-G]at o;simp at o;subst o;subst p;exact d I λb g=>⟨g.1,i4,i7⟩
theorem sE.fresh{n:List (List α)}{rs:List Sl}{a j:Nat}(g:sE h c a j e s k f n rs)(m:lL h0 h c)(u:a≠0)(o:j≠0):gB h (λb=>h0.size<=b/\b<h.size) s k f n rs:=
 ⟨g.own.fresh m u λ_=>rfl,g.len,λi r l t p=>(g.row i r l t p).mono λb q=>⟨xg λd=>by have:=m.bx b d;omega,q.1⟩⟩
theorem Own.agJ{i:TI}(B:C.Ok)(v:Own h e s k f l)(u:∀x,ii (f x)=k)(J:C.T.get t=dB i){x:Int}(n z:Nat)(D:x=n)(I:ii l<=n)(p:n<s.cap)(o:z=s.cap){val:eX}(y:α)(E:val.cells=(f y).toArray)(r:i.size=k)
  (j:(f y).all (·.oneCell')=eL) {K:f8->Prop} (L:∀h',Own h' e s k f l->aV (λb=>¬s.on b) h h'->h'.size=h.size->K h'):
  ∃a:fz,(s.ptr=dB a/\0<=x/\x<((z:Nat):Int))/\ag C.P (qf t (.pointer (dB (a.add (x.toNat*k)))) val) h λ_ h'=>K h':=by
 subst D o;rcases v.head with⟨_,h2,h3⟩|⟨b,rest,h1,h2,h3,h4⟩
 ·omega
 ·refine⟨_,⟨h1,i4,i4⟩,?_⟩;unfold qf;refine ag.bind (ag.pure' ?_);unfold storeVar;refine ag.bind (ag.always (dm B.toOk J) ?_);rw[E,r];have g:=u y;simp only[wO,g,ne_eq,not_true,if_false];rw[add_eq,zQ,ql];have d:=v.len;have m:=cQ u l;have w:ii l*k<=n*k:=zB k I;have q:(n+1)*k<=s.cap*k:=zB k p;have A:(s.cap-s.len)*k=s.cap*k-ii l*k:=by rw[Nat.sub_mul,d]
  have H:(n+1)*k=n*k+k:=zK n k;refine dp (e:=e) (pre:=l.flatMap f++rest.take (n*k-ii l*k)) (old:=(rest.drop (n*k-ii l*k)).take k) (post:=rest.drop (n*k-ii l*k+k)) ?_ ?_ ?_ ?_ ?_
  ·have:l.flatMap f++rest=l.flatMap f++rest.take (n*k-ii l*k)++(rest.drop (n*k-ii l*k)).take k++rest.drop (n*k-ii l*k+k):=by rw[qp,qp,<-zE,qA,qA]
   rw[<-this];exact h2
  ·rw[g,qU,za];omega
  ·rw[qx,qU,m];omega
  ·intro c F;have:=qL.1 j c F;exact this
  ·refine L _ ⟨d,.inr ⟨b,rest.take (n*k-ii l*k)++f y++rest.drop (n*k-ii l*k+k),h1,?_,?_,h4⟩⟩ (aV.gC h2 λG=>G ⟨0,h1⟩) (by simp[gC])
   ·rw[fW h2,f9 rfl];simp
   ·simp only[qx,qU,za,g];omega
theorem Own.copy(q:C.Ok)(u:bL C.toCM t e k z by_)(m:∀x,ii (f x)=k)(o:Own h e s k f l)(r:Seq h p v k f l2)(a:ii l2=ii l)(i:∀x,∀c∈f x,c.oneCell'=eL){B ty:Nat}{K:Int->f8->Prop}
  (w:∀h',Own h' e s k f l2->aV (λb=>¬s.on b) h h'->h'.size=h.size->K l2.length h'):
  az C.P (wJ #[t,B] ty #[.slice s.ptr s.len s.cap,.slice v.ptr v.len v.cap]) (.one (.sc (.int .i64))) h K:=by
 unfold az wJ;simp only[zR,yf,qu];refine ag.bind (ag.always (aJ (u.under q)) ?_);refine ag.bind (ag.pure' ?_);refine ag.bind (ag.always (u.size q) ?_);have j:=o.len;have d:=r.len;have g:Nat.min v.len s.len=v.len:=wX i4;rw[g];refine ag.bind (fH m r ?_);rcases o.head with⟨h1,h2,h3⟩|⟨b,rest,h1,h2,h3,h4⟩
 ·rw[h1];have:l2=[]:=q9 (by rw[a,h3];rfl);subst this;refine ag.pure' ⟨0,by simp[goInt,d],w h ⟨by rw[j,h3],.inl ⟨h1,h2,i0⟩⟩ (aV.refl _ _) i0⟩
 ·rw[h1];refine ag.bind ?_;refine dp (e:=e) (pre:=[]) (old:=l.flatMap f) (post:=rest) (by simpa using h2) (by rw[cQ m,cQ m,a]) i0 ?_ ?_
  ·intro c y;obtain⟨x,_,n⟩:=zJ.1 y;exact i x c n
  ·refine ag.pure' ⟨_,by rw[goInt,d],w _ ⟨by rw[j,a],.inr ⟨b,rest,h1,?_,h3,h4⟩⟩ (aV.gC h2 λA=>A ⟨0,h1⟩) (by simp[gC])⟩;rw[fW h2,f9 rfl];simp
end
def DT{α:Type}(x:Int)(v:α):List (Int×α)->List (Int×α)
 |[]=>[(x,v)]
 |(k,u)::t=>if k=x then(k,v)::t else(k,u)::DT x v t
def sF{α:Type}(x:Int):List (Int×α)->Option α
 |[]=>eH
 |(k,u)::t=>if k=x then dB u else sF x t
structure sG {α:Type} (h:f8) (r:Nat) (g:α->eX) (kvs:List (Int×α)):Prop where
 ex:∃es clock,h[r]?=dB (.map es clock)/\es.toList.map (λe=>(e.key,e.val))=kvs.map (λp=>(Value.int .i64 p.1,g p.2))
section
variable {α:Type} {P:Program} {h h':f8} {r:Nat} {g:α->eX} {kvs:List (Int×α)}
theorem sG.ai{p:aB}(i:sG h r g kvs)(c:aV p h h')(d:p r):sG h' r g kvs:=by obtain⟨e,a,f,b⟩:=i.ex;exact⟨e,a,c.block d f,b⟩
theorem sG.lt(c:sG h r g kvs):r<h.size:=by obtain⟨e,a,b,d⟩:=c.ex;exact lt_of_block b
theorem wt{x:Int}:∀{L:List MapEntry} {kvs:List (Int×α)} {n:Nat},L.map (λe=>(e.key,e.val))=kvs.map (λp=>(Value.int .i64 p.1,g p.2))->sF x kvs=eH->
  xl (.int .i64) (xH xN x) L n=dB eH
 |[],_,_,_,_=>rfl
 |e::L,[],_,h,_=>ld
 |e::L,(k,u)::t,n,h,hg=>by
  simp only[wz,List.cons.injEq,Prod.mk.injEq]at h;obtain⟨⟨b,c⟩,h3⟩:=h;unfold sF at hg;split at hg
  ·cases hg
  ·rename_i a;have:(x==k)=false:=by simp;exactλe=>a e.symm
   simp only[xl,Instr.sameNow,b,if_true,this];exact wt h3 hg
theorem ww{x:Int}{u:α}(v:α)(f:MapEntry->MapEntry)(d:∀e,e.key=Value.int .i64 x->((f e).key,(f e).val)=(Value.int .i64 x,g v)):∀{L:List MapEntry} {kvs:List (Int×α)} {n:Nat},L.map (λe=>(e.key,e.val))=kvs.map (λp=>(Value.int .i64 p.1,g p.2))->sF x kvs=dB u->
  ∃j e,xl (.int .i64) (xH xN x) L n=dB (dB (n+j,g u))/\L[j]?=dB e/\e.key=xH xN x/\(L.modify j f).map (λe=>(e.key,e.val))=(DT x v kvs).map (λp=>(Value.int .i64 p.1,g p.2))
 |[],[],_,_,hg=>by cases hg
 |e::L,[],_,h,_=>ld
 |[],_::_,_,h,_=>ld
 |e::L,(k,w)::t,n,h,hg=>by
  simp only[wz,List.cons.injEq,Prod.mk.injEq]at h;obtain⟨⟨a,c⟩,h3⟩:=h;unfold sF at hg;by_cases b:k=x
  ·subst b;rw[f9 rfl]at hg;cases hg;refine⟨0,e,?_,i0,a,?_⟩
   ·simp only[xl,Instr.sameNow,a,if_true,beq_self_eq_true,c,yn]
   ·simp only[DT,if_true,List.modify_zero_cons,wz,h3,d e a]
  ·rw[g0 b]at hg;obtain⟨j,l,o,q,m,i⟩:=ww v f d (n:=n+1) h3 hg;refine⟨j+1,l,?_,q,m,?_⟩
   ·have:(x==k)=false:=by simp;exactλe=>b e.symm
    simp only[xl,Instr.sameNow,a,if_true,this];rw[o];congr 3;omega
   ·simp only[DT,b,if_false,List.modify_succ_cons,wz,i,a,c]
theorem xp{a:TypeId}{k:IntKind}{x:Int}{b:Bool}(c:P.underlying a=dB (.int k))(n:Nat):aH P (vP b (n+1) a (.int k x)) ():=by unfold vP;exact(aJ c).bind .pure
theorem sG.lookup{t k l:Nat}{i:α}{x:Int}(s:sG h r g kvs)(o:P.underlying t=dB (.map k l))(b:P.underlying k=dB (.int .i64))(m:aH P (zeroValue l) (g i))
  {rt:Rt} {K:rt.den->f8->Prop} (a:∃d:rt.den,g ((sF x kvs).getD i)=rt.enc d/\K d h):
  az P (xv t (.map (dB r)) (xH xN x) false) rt h K:=by
 obtain⟨v,c,p,f⟩:=s.ex;unfold az xv;refine ag.bind (ag.always (aJ o) ?_);refine ag.bind (ag.II p (λ_ _ _ h=>j6) ?_);refine ag.bind (ag.pure' ?_);refine ag.bind (ag.always (xp b 9999) ?_);unfold vB;refine ag.bind (ag.bind (ag.always (aJ b) ?_));cases hg:sF x kvs with
 |none=>
  rw[wt f hg];refine ag.pure' ?_;refine ag.bind (ag.always m ?_);refine ag.bind (ag.pure' (ag.pure' ?_));rw[hg]at a;exact a
 |some u=>
  obtain⟨j,e,q,_⟩:=ww (x:=x) (n:=0) u (λe=>⟨e.key,g u,e.born⟩) (λe a=>l7) f hg;rw[q];refine ag.pure' ?_;refine ag.bind (ag.pure' (ag.pure' ?_));rw[hg]at a;exact a
theorem sG.update{t q G:Nat}{x:Int}(v:α)(z:sG h r g kvs)(D:P.underlying t=dB (.map q G))(b:P.underlying q=dB (.int .i64))
  {K:Unit->f8->Prop} (s:∀h',sG h' r g (DT x v kvs)->aV (·≠r) h h'->h'.size=h.size->K () h'):
  ag P (vk t (.map (dB r)) (xH xN x) (g v)) h K:=by
 obtain⟨y,i,a,f⟩:=z.ex;have m:=lt_of_block a;unfold vk;refine ag.bind (ag.always (aJ D) ?_);refine ag.bind (ag.II a (λ_ _ _ h=>j6) ?_);refine ag.bind (ag.always (xp b 9999) ?_);unfold vB;refine ag.bind (ag.bind (ag.always (aJ b) ?_));have ai:∀o,aV (·≠r) h (h.setIfInBounds r o):=λo=>aV.gC a λB=>B i0;cases hg:sF x kvs with
 |none=>
  rw[wt f hg];refine ag.pure' ?_;refine ag.IJ a (λ_ _ _ h=>j6) ?_;refine s _ ⟨_,_,by rw[wD,f9 i0,f9 m],?_⟩ (ai _) i9;have app:∀l:List (Int×α),sF x l=eH->DT x v l=l++[(x,v)]:=by
   intro l
   induction l with
   |nil=>intro _;rfl
   |cons p l ih=>
    obtain⟨k,u⟩:=p;intro c;unfold sF at c;split at c
    ·cases c
    ·rename_i d;simp only[DT,d,if_false,ih c,zt]
  rw[app kvs hg];simp[f]
 |some u=>
  obtain⟨j,e,E,I,A,w⟩:=ww (x:=x) (n:=0) v (λe=>{e with key:=xH xN x,val:=g v}) (λe _=>rfl) f hg;rw[E];refine ag.pure' ?_;have H:y[0+j]?=dB e:=by rw[zQ,<-Array.getElem?_toList];exact I
  dsimp only;rw[H];simp only[qQ,Option.getD_some,A];refine ag.bind ?_;unfold Instr.keyThatStays;have F:xw 10000 (xH xN x) (xH xN x)=eL:=by simp[xw]
  rw[F,f9 rfl];refine ag.pure' ?_;refine ag.IJ a (λ_ _ _ h=>j6) ?_;refine s _ ⟨_,_,by rw[wD,f9 i0,f9 m],?_⟩ (ai _) i9;rw[Array.toList_modify,zQ];exact w
end
theorem Sm(x n:Int)(b:0<n):x%n=if x.tmod n<0 then x.tmod n+n else x.tmod n:=by
 have e:=Int.tmod_lt_of_pos x b;have c:-n<x.tmod n:=Int.lt_tmod_of_pos x b;have d:=Int.tmod_add_mul_tdiv x n;have a:0<=(if x.tmod n<0 then x.tmod n+n else x.tmod n)/\(if x.tmod n<0 then x.tmod n+n else x.tmod n)<n:=by split<;>omega
 have e2:x=(if x.tmod n<0 then x.tmod n+n else x.tmod n)+n*(if x.tmod n<0 then x.tdiv n-1 else x.tdiv n):=by
  split
  ·rw[Int.mul_sub];omega
  ·omega
 conv=>lhs;rw[e2]
 rw[Int.add_mul_emod_self_left];exact Int.emod_eq_of_lt a.1 a.2
theorem aK{α:Type}(l:List α)(k:Nat)(h:k<ii l:=by omega):l.take (k+1)=l.take k++[l[k]]:=List.take_succ_eq_append_getElem h
theorem ir:∀x,∀c∈aC x,c.oneCell'=eL:=by intro x c a;simp only[aC,qC]at a;subst a;rfl
theorem gH:∀x,∀c∈aE x,c.oneCell'=eL:=by intro x c a;simp only[aE,qC]at a;subst a;rfl
theorem up{h c d:f8}(a:aV (λb=>b<h.size) h c)(b:aV (λb=>b<c.size) c d):aV (λb=>b<h.size) h d:=
 a.then b λ_ e _=>qM e a.1
theorem any{h c:f8}(a:aV (λ_=>True) h c):aV (λb=>b<h.size) h c:=a.mono λ_ _ _=>trivial
theorem Seq.up{α:Type}{h h':f8}{s:Sl}{k:Nat}{f:α->be}{l:List α}(d:Seq h (λb=>b<h.size) s k f l)(a:aV (λb=>b<h.size) h h'):Seq h' (λb=>b<h'.size) s k f l:=
 (d.ai a).mono λ_ c=>qM c a.1
theorem gB.up{α:Type}{h h':f8}{s:Sl}{k:Nat}{f:α->be}{l:List (List α)}{rs:List Sl}(d:gB h (λb=>b<h.size) s k f l rs)(a:aV (λb=>b<h.size) h h'):gB h' (λb=>b<h'.size) s k f l rs:=
 (d.ai a).mono λ_ c=>qM c a.1
theorem Seq.drop{α:Type}{h:f8}{p:aB}{s:Sl}{w:Nat}{f:α->be}{l:List α}(c:Seq h p s w f l)(k:Nat)(m:s.len<=s.cap):
  Seq h p ⟨if s.cap=k then s.ptr else s.ptr.map (·.add (k*w)),s.len-k,s.cap-k⟩ w f (l.drop k):=by
 have e:=c.len;refine⟨o0,λi x a=>?_⟩;rw[wC]at a;obtain⟨b,o,g,d,h3⟩:=c.elem _ x a;have j:=(qo.1 a).1;refine⟨b,o+k*w,?_,d,?_⟩
 ·dsimp only;rw[g0 i4,g,qQ,add_eq]
 ·rw[show o+k*w+i*w=o+(k+i)*w by rw[Nat.add_mul];omega];exact h3
theorem Seq.take{α:Type}{h:f8}{p:aB}{s:Sl}{w:Nat}{f:α->be}{l:List α}(b:Seq h p s w f l)(k:Nat)(c:k<=ii l):
  Seq h p ⟨s.ptr,k,s.cap⟩ w f (l.take k):=by
 refine⟨i7,λi x a=>?_⟩;rw[yL]at a;split at a
 ·exact b.elem i x a
 ·cases a
theorem getD_lt{α:Type}{l:List α}{d:α}{i:Nat}(h:i<ii l:=by omega):l.getD i d=l[i]:=by rw[qe,qd h];rfl
structure HP where
 p:f8->aB->Prop
 loc:∀{h h':f8} {q:aB},p h q->aV q h h'->p h' q
 mono:∀{h:f8} {q q':aB},p h q->(∀b,q b->q' b)->p h q'
def emp:HP:=⟨λ_ _=>True,λ_ _=>trivial,λ_ _=>trivial⟩
def aq{α:Type}(e:TypeId)(s:Sl)(k:Nat)(f:α->be)(l:List α):HP:=
 ⟨λh q=>Own h e s k f l/\∀b,s.on b->q b,λa g=>⟨a.1.ai g a.2,a.2⟩,λa d=>⟨a.1,λb c=>d b (a.2 b c)⟩⟩
def aw(a:fz)(e:TypeId)(d:be):HP:=
 ⟨λh q=>cA h a e d/\q a.block,λx c=>⟨x.1.ai c x.2,x.2⟩,λx b=>⟨x.1,b _ x.2⟩⟩
def tZ{α:Type}(s:Sl)(k:Nat)(f:α->be)(l:List α):HP:=
 ⟨λh q=>Seq h q s k f l,λa c=>a.ai c,λa b=>a.mono b⟩
def gl{α:Type}(e:TypeId)(s:Sl)(k:Nat)(f:α->be)(m:List (List α)):HP:=
 ⟨λh q=>∃(rs:List Sl) (j:aB),Own h e s 1 bt rs/\(∀b,s.on b->q b/\¬j b)/\(∀b,j b->q b)/\rs.length=ii m/\∀(i:Nat) r l,rs[i]?=dB r->m[i]?=dB l->Seq h j r k f l,
  λ⟨rs,j,a,b,c,d,e⟩ hp=>⟨rs,j,a.ai hp λx g=>(b x g).1,b,c,d,λi r l o n=>(e i r l o n).ai (hp.mono λx _ g=>c x g)⟩,
  λ⟨rs,j,a,b,c,d,e⟩ hq=>⟨rs,j,a,λx g=>⟨hq x (b x g).1,(b x g).2⟩,λx g=>hq x (c x g),d,e⟩⟩
structure aa (B:aB) (h0 h:f8) (As:List HP):Prop where
 low:∀b,B b->b<h0.size
 ai:aV B h0 h
 ex:∃c:Nat->Nat,(∀b,B b->c b=0)/\∀(i:Nat) (A:HP),As[i]?=dB A->A.p h (λb=>b<h.size/\c b=i+1)
abbrev Sp(a h:f8)(As:List HP):Prop:=aa (λb=>b<a.size) a h As
section
variable {B:aB} {h0 h h':f8} {As Bs:List HP} {A A2 D:HP} {c:Nat->Nat} {i j:Nat}
theorem Sp.refl(h:f8):Sp h h []:=⟨λ_ h=>h,aV.refl _ _,λ_=>0,λ_ _=>rfl,λi A a=>by simp at a⟩
theorem aa.le(H:aa B h0 h As):h0.size<=h.size:=H.ai.1
theorem aa.at(H:aa B h0 h As)(i:Nat)(e:As[i]?=dB A):A.p h (λb=>b<h.size):=by obtain⟨c,_,d⟩:=H.ex;exact A.mono (d i A e) λ_ a=>a.1
theorem aa.fin(H:aa B h0 h As)(i:Nat)(f:As[i]?=dB A):A.p h (λb=>¬B b/\b<h.size):=by obtain⟨c,g,e⟩:=H.ex;exact A.mono (e i A f) λb d=>⟨λa=>by have:=g b a;omega,d.1⟩
theorem Sp.fresh(H:Sp h0 h As)(i:Nat)(c:As[i]?=dB A):A.p h (λb=>h0.size<=b/\b<h.size):=
 A.mono (aa.fin H i c) λb a=>⟨i4,a.2⟩
theorem aa.comp(H:aa B h0 h As)(R:Sp h h' Bs):aa B h0 h' (As++Bs):=by
 obtain⟨j,g,m,p,n⟩:=H;obtain⟨_,e,k,o,q⟩:=R;have c:=g.1;refine⟨j,g.then e λb a _=>qM a c,λb=>if b<h.size then m b else if k b=0 then 0 else As.length+k b,λb a=>?_,λi A d=>?_⟩
 ·dsimp only;rw[f9 (qM (j b a) c)];exact p b a
 ·by_cases l:i<ii As
  ·rw[qm l]at d;refine A.mono (A.loc (n i A d) (e.mono λb _ a=>a.1)) λb a=>⟨qM a.1 e.1,?_⟩
   dsimp only;rw[f9 a.1];exact a.2
  ·rw[qj i4]at d;refine A.mono (q _ A d) λb a=>⟨a.1,?_⟩
   have:¬b<h.size:=λf=>by have:=o b f;omega
   dsimp only;rw[g0 this,g0 i4];omega
theorem aa.up(H:aa B h0 h As)(R:aV (λb=>b<h.size) h h'):aa B h0 h' As:=by have:=H.comp (Bs:=[]) ⟨λ_ h=>h,R,λ_=>0,λ_ _=>rfl,λi A a=>by simp at a⟩;simpa using this
theorem Sp.one(R:aV (λb=>b<h.size) h h')(d:A.p h' λb=>h.size<=b/\b<h'.size):Sp h h' [A]:=by
 refine⟨λ_ h=>h,R,λb=>if b<h.size then 0 else 1,λb a=>f9 a,λi A2 c=>?_⟩;cases i with
 |succ i=>simp at c
 |zero=>
  simp at c;subst c;exact A.mono d λb a=>⟨a.2,by dsimp only;rw[g0 i4]⟩
theorem Sp.zip(R:aV (λb=>b<h.size) h h'):Sp h h' []:=aa.up (Sp.refl h) R
theorem aa.enter(q:aB)(c:Nat->Nat)(f:∀b,q b->b<h.size)(a:∀(i:Nat) (A:HP),As[i]?=dB A->A.p h λb=>q b/\c b=i+1):aa (λb=>b<h.size/\¬q b) h h As:=by
 classical
 refine⟨λb d=>d.1,aV.refl _ _,λb=>if q b then c b else 0,λb d=>g0 d.2,λi A e=>A.mono (a i A e) λb d=>⟨f b d.1,?_⟩⟩;dsimp only;rw[f9 d.1];exact d.2
theorem aa.ZL(q:aB)(e:∀b,q b->b<h.size)(a:A.p h q):aa (λb=>b<h.size/\¬q b) h h [A]:=
 .enter q (λ_=>1) e λi A2 c=>by
  cases i with
  |succ i=>simp at c
  |zero=>simp at c;subst c;exact A.mono a λb d=>⟨d,i0⟩
theorem aa.DU(l:∀b,B b->b<h0.size)(g:aV B h0 h)(z:∀b,B b->c b=0)(a:∀(i:Nat) (A:HP),As[i]?=dB A->A.p h λb=>b<h.size/\c b=i+1)
  (k:aV (λb=>¬(b<h.size/\c b=i+1)) h h') (m:D.p h' λb=>b<h'.size/\((b<h.size/\c b=i+1)∨h.size<=b)):aa B h0 h' (As.set i D):=by
 refine⟨l,g.then k λb _ d n=>by have:=z b d;omega,grow c h.size (i+1),λb d=>?_,λj A e=>?_⟩
 ·rw[fm (qM (l b d) g.1)];exact z b d
 ·rw[qY]at e;split at e
  ·rename_i f;subst f;split at e
   ·injection e with e
    subst e;refine D.mono m λb d=>⟨d.1,?_⟩
    rcases d.2 with h1|h1
    ·rw[fm h1.1];exact h1.2
    ·exact oB h1
   ·cases e
  ·rename_i f;refine A.mono (A.loc (a j A e) (k.mono λb _ d n=>i4)) λb d=>⟨qM d.1 k.1,?_⟩
   rw[fm d.1];exact d.2
theorem aa.step(H:aa B h0 h As)(i:Nat)(f:As[i]?=dB A)(k:∀q:aB,A.p h q->(∀b,q b->b<h.size)->aV (λb=>¬q b) h h'/\D.p h' λb=>b<h'.size/\(q b∨h.size<=b)):aa B h0 h' (As.set i D):=by obtain⟨g,p,c,z,a⟩:=H;obtain⟨j,e⟩:=k _ (a i A f) λb d=>d.1;exact aa.DU g p z a j e
theorem aa.fI(H:aa B h0 h As)(i:Nat)(d:As[i]?=dB A)(e:∀q:aB,A.p h q->D.p h q):aa B h0 h (As.set i D):=
 H.step i d λq f a=>⟨aV.refl _ _,D.mono (e q f) λb c=>⟨a b c,.inl c⟩⟩
theorem aa.merge(H:aa B h0 h As)(i j:Nat)(r:i≠j)(t:As[i]?=dB A)(q:As[j]?=dB A2)
  (u:∀m l:aB,(∀b,m b->¬l b)->A.p h m->A2.p h l->D.p h λb=>m b∨l b):aa B h0 h ((As.set i D).set j emp):=by
 obtain⟨s,p,c,z,a⟩:=H;refine⟨s,p,λb=>if c b=j+1 then i+1 else c b,λb e=>?_,λk n d=>?_⟩
 ·have:=z b e;dsimp only;rw[g0 i4];exact this
 ·rw[qY]at d;split at d
  ·split at d
   ·cases d;trivial
   ·cases d
  ·rename_i o;rw[qY]at d;split at d
   ·rename_i g;subst g;split at d
    ·injection d with d
     subst d;refine D.mono (u _ _ (λb f v=>i4) (a i A t) (a j A2 q)) λb e=>?_;rcases e with f|f
     ·exact⟨f.1,by dsimp only;rw[g0 i4];exact f.2⟩
     ·exact⟨f.1,by dsimp only;rw[f9 f.2]⟩
    ·cases d
   ·rename_i g;refine n.mono (a k n d) λb e=>⟨e.1,?_⟩
    dsimp only;rw[g0 i4];exact e.2
theorem aa.pick(H:aa B h0 h As)(f:Nat->Nat)(n:∀i j,f i=f j->i=j)(l:∀(i:Nat) (A2:HP),Bs[i]?=dB A2->As[f i]?=dB A2):aa B h0 h Bs:=by
 obtain⟨m,p,c,z,a⟩:=H
 classical
 refine⟨m,p,λb=>if e:∃i,c b=f i+1 then e.choose+1 else 0,λb e=>?_,λi A2 g=>?_⟩
 ·have:=z b e;dsimp only;rw[dif_neg];rintro⟨i,g⟩;omega
 ·refine A2.mono (a _ _ (l i A2 g)) λb e=>⟨e.1,?_⟩
  have d:∃i,c b=f i+1:=⟨i,e.2⟩
  dsimp only;rw[dif_pos d];have o:=d.choose_spec;have k:=n d.choose i i4;rw[k]
theorem aa.take(H:aa B h0 h As)(n:Nat)(a:∀(i:Nat) (A2:HP),Bs[i]?=dB A2->As[n+i]?=dB A2):aa B h0 h Bs:=H.pick (λi=>n+i) (λ_ _ h=>i4) a
end
section
variable {B:aB} {α:Type} {C:Ctx} {h0 h h':f8} {As:List HP} {i e t t2:Nat} {s v:Sl} {k by_:Nat} {f:α->be} {l l2:List α} {a:fz} {cs z:be} {p:aB} {ti:TI}
theorem aa.own(H:aa B h0 h As)(i:Nat)(a:As[i]?=dB (aq e s k f l)):Own h e s k f l:=(H.at i a).1
theorem aa.seq(H:aa B h0 h As)(i:Nat)(a:As[i]?=dB (aq e s k f l))(c:∀x,ii (f x)=k):Seq h (λb=>b<h.size) s k f l:=(H.at i a).1.seq c (H.at i a).2
theorem aa.rd(H:aa B h0 h As)(i:Nat)(a:As[i]?=dB (tZ s k f l)):Seq h (λb=>b<h.size) s k f l:=H.at i a
theorem aa.box(H:aa B h0 h As)(i:Nat)(b:As[i]?=dB (aw a e cs)):cA h a e cs:=(H.at i b).1
theorem aa.kX(H:aa B h0 h As)(i:Nat)(q:As[i]?=dB (aq e s k f l)){β:Type}{m n:Nat}{g:β->be}{p:List β}(o:aV (λb=>¬s.on b) h h')(r:Own h' m s n g p):aa B h0 h' (As.set i (aq m s n g p)):=
 H.step i q λ_ j c=>⟨o.mono λb _ a d=>a (j.2 b d),r,λb a=>⟨qM (c b (j.2 b a)) o.1,.inl (j.2 b a)⟩⟩
theorem aa.CO(H:aa B h0 h As)(i:Nat)(l:As[i]?=dB (aw a e cs)){c:be}(j:aV (λb=>b≠a.block) h h')(m:cA h' a e c):aa B h0 h' (As.set i (aw a e c)):=
 H.step i l λq g d=>⟨j.mono λb _ k f=>k (by rw[f];exact g.2),m,⟨qM (d _ g.2) j.1,.inl g.2⟩⟩
theorem aa.freeze(H:aa B h0 h As)(i:Nat)(c:As[i]?=dB (aq e s k f l))(b:∀x,ii (f x)=k):aa B h0 h (As.set i (tZ s k f l)):=H.fI i c λ_ a=>a.1.seq b a.2
theorem aa.set(j:C.Ok)(H:aa B h0 h As)(i:Nat)(d:As[i]?=dB (aq e s k f l))(g:∀x,ii (f x)=k)(p:C.T.get t=dB ti){x:Int}(n:Nat)(m:x=n)(q:n<ii l){val:eX}(y:α)(o:val.cells=(f y).toArray)(c:ti.size=k)
  (b:(f y).all (·.oneCell')=eL) {K:f8->Prop} (r:∀h',aa B h0 h' (As.set i (aq e s k f (l.set n y)))->K h'):
  ∃a:fz,(s.ptr=dB a/\0<=x/\x<((s.len:Nat):Int))/\ag C.P (qf t (.pointer (dB (a.add (x.toNat*k)))) val) h λ_ h'=>K h':=
 (H.own i d).set j g p n m q y o c b λh' z w _=>r h' (H.kX i d w z)
theorem aa.push(F:C.Ok)(H:aa B h0 h As)(i:Nat)(N:As[i]?=dB (aq e s k f l))(O:bL C.toCM t e k z by_)(D:ii z=k)(r:0<by_/\by_<=128)(y:∀x,ii (f x)=k)
  (m:∀x,∀c∈f x,c.oneCell'=eL) (x:α) {parts:Array (Nat×eX)} (d:wL (λi=>dB (i*k,k)) (iD z 1).toArray parts.toList=dB ([x].flatMap f).toArray)
  (q:1*k<=2^20) (u:ii l+1<=2^32) {ty:Nat} {K:Sl->f8->Prop}
  (Q:∀o h',aa B h0 h' (As.set i (aq e o k f (l++[x])))->K o h'):
  az C.P (qq t 1 parts) (.one (.sc .slc)) h λv L=>az C.P (qt #[t,t] ty #[.slice s.ptr s.len s.cap,.slice v.ptr v.len v.cap]) (.one (.sc .slc)) L K:=by
 obtain⟨J,G,c,E,a⟩:=H;have w:=a i _ N;have A:dl h c (i+1) e s k f l:=⟨w.1,λb j=>(w.2 b j).2⟩
 refine A.push F O D r y m x d q u λo h' g p=>Q o h' ?_;refine aa.DU J G E a (p.mono λb j M I=>M ⟨j,I⟩) ⟨g.own,λb j=>⟨g.own.lt j,?_⟩⟩;have:=g.bx b j;by_cases n:b<h.size
 ·rw[fm n]at this;exact .inl ⟨n,this⟩
 ·exact .inr i4
theorem aa.append(F:C.Ok)(H:aa B h0 h As)(i:Nat)(N:As[i]?=dB (aq e s k f l))(O:bL C.toCM t e k z by_)(w:∃i e2,C.T.get t2=dB i/\i.cT=.slice e2)(D:ii z=k)(q:0<by_/\by_<=128)(y:∀x,ii (f x)=k)
  (I:Seq h p v k f l2) (j:∀x,∀c∈f x,c.oneCell'=eL) (r:ii l+ii l2<=2^32) {ty:Nat} {K:Sl->f8->Prop}
  (Q:∀n h',aa B h0 h' (As.set i (aq e n k f (l++l2)))->K n h'):
  az C.P (qt #[t,t2] ty #[.slice s.ptr s.len s.cap,.slice v.ptr v.len v.cap]) (.one (.sc .slc)) h K:=by
 obtain⟨L,G,c,E,a⟩:=H;have u:=a i _ N;have A:dl h c (i+1) e s k f l:=⟨u.1,λb g=>(u.2 b g).2⟩
 refine A.append F O w D q y I j r λn h' d o=>Q n h' ?_;refine aa.DU L G E a (o.mono λb g M J=>M ⟨g,J⟩) ⟨d.own,λb g=>⟨d.own.lt g,?_⟩⟩;have:=d.bx b g;by_cases m:b<h.size
 ·rw[fm m]at this;exact .inl ⟨m,this⟩
 ·exact .inr i4
theorem Ob{h h':f8}{n:Nat}(i:n=h.size)(d:Own h' e s k f l)(g:s.ptr=dB ⟨n,0,eH⟩)(c:aV (λ_=>True) h h'):Sp h h' [aq e s k f l]:=
 .one (any c) ⟨d,λb a=>⟨by obtain⟨o,a⟩:=a;rw[g]at a;cases a;omega,d.lt a⟩⟩
theorem aa.make(q:C.Ok)(H:aa B h0 h As)(f:α->be)(v:bL C.toCM t e k z by_)(g:0<by_/\by_<=128)(c:α)(o:f c=z)(i:ii z=k){D A:IntKind}{n l:Int}(m b:Nat)(u:n=m)(r:l=b)(d:m<=b)(j:b<=2^32)
  {K:Sl->f8->Prop} (s:∀a h',a.len=m->a.cap=b->aa B h0 h' (As++[aq e a k f (qh m c)])->K a h'):
  az C.P (qF t (.int D n) (.int A l)) (.one (.sc .slc)) h K:=
 run_make q v g c o i m b u r d j λa h' x y w p _=>s a h' (by rw[x.len];simp) w (H.comp (Ob i0 x y p))
theorem aa.lit(j:C.Ok)(H:aa B h0 h As)(f:α->be)(o:bL C.toCM t e k z by_)(d:ii z=k){n:Nat}{parts:Array (Nat×eX)}(l:List α)(m:ii l=n)(c:n*k<=2^20)
  (a:wL (λi=>dB (i*k,k)) (iD z n).toArray parts.toList=dB (l.flatMap f).toArray) {K:Sl->f8->Prop}
  (p:∀b h',aa B h0 h' (As++[aq e b k f l])->K b h'):
  az C.P (qq t n parts) (.one (.sc .slc)) h K:=
 Oa j o d l m c a λb h' x y g _=>p b h' (H.comp (Ob i0 x y g))
theorem Oc{h h':f8}(d:a.block=h.size)(c:cA h' a e cs)(b:aV (λ_=>True) h h'):Sp h h' [aw a e cs]:=
 .one (any b) ⟨c,i4,c.lt⟩
theorem aa.alloc(e:C.Ok)(H:aa B h0 h As)(b:C.T.get t=dB ti){K:fz->f8->Prop}(c:∀a h',aa B h0 h' (As++[aw a t ti.zero])->K a h'):
  aU C.P (qK t eL (.tuple #[])) h K:=
 Bo e b λa h' x y d _=>c a h' (H.comp (Oc x y d))
theorem aa.boxed(H:aa B h0 h As){P:Program}{v:eX}{K:fz->f8->Prop}(b:∀a h',aa B h0 h' (As++[aw a t v.cells.toList])->K a h'):
  aU P (qO t v) h K:=
 WO λa h' x y c _=>b a h' (H.comp (Oc x y c))
theorem aa.store(k:C.Ok)(H:aa B h0 h As)(i:Nat)(f:As[i]?=dB (aw a e cs))(l:C.T.get t=dB ti)(off:Nat){v:eX}(vs:be)(g:v.cells=vs.toArray)(d:ti.size=ii vs)
  (c:vs.all (·.oneCell')=eL) (b:off+ii vs<=ii cs) {K:Unit->f8->Prop}
  (j:∀h',aa B h0 h' (As.set i (aw a e (cs.take off++vs++cs.drop (off+ii vs))))->K () h'):
  ag C.P (qf t (.pointer (dB (a.add off))) v) h K:=
 run_store k (H.box i f) l off vs g d c b λh' x y _=>j h' (H.CO i f y x)
theorem aa.jB(k:C.Ok)(H:aa B h0 h As)(i:Nat)(f:As[i]?=dB (aw a e cs))(l:C.T.get t=dB ti){v:eX}(vs:be)(g:v.cells=vs.toArray)(c:ti.size=ii vs)
  (b:vs.all (·.oneCell')=eL) (d:ii vs<=ii cs) {K:Unit->f8->Prop}
  (j:∀h',aa B h0 h' (As.set i (aw a e (vs++cs.drop vs.length)))->K () h'):
  ag C.P (qf t (.pointer (dB a)) v) h K:=
 H.store k i f l 0 vs g c b i4 (λh' x=>j h' (by simpa using x))
theorem aa.copy(o:C.Ok)(H:aa B h0 h As)(i:Nat)(d:As[i]?=dB (aq e s k f l))(n:bL C.toCM t e k z by_)(g:∀x,ii (f x)=k)(j:Seq h p v k f l2)(a:ii l2=ii l)(b:∀x,∀c∈f x,c.oneCell'=eL){ty:Nat}{K:Int->f8->Prop}
  (m:∀h',aa B h0 h' (As.set i (aq e s k f l2))->K l2.length h'):
  az C.P (wJ #[t,t2] ty #[.slice s.ptr s.len s.cap,.slice v.ptr v.len v.cap]) (.one (.sc (.int .i64))) h K:=
 (H.own i d).copy o n g j a b λh' x y _=>m h' (H.kX i d y x)
theorem aa.agJ(p:C.Ok)(H:aa B h0 h As)(i:Nat)(m:As[i]?=dB (aq e s k f l))(o:∀x,ii (f x)=k)(u:C.T.get t=dB ti){x:Int}(n g:Nat)(q:x=n)(v:ii l<=n)(d:n<s.cap)(c:g=s.cap){val:eX}(y:α)(r:val.cells=(f y).toArray)(j:ti.size=k)
  (b:(f y).all (·.oneCell')=eL) {K:f8->Prop} (A:∀h',aa B h0 h' (As.set i (aq e s k f l))->K h'):
  ∃a:fz,(s.ptr=dB a/\0<=x/\x<((g:Nat):Int))/\ag C.P (qf t (.pointer (dB (a.add (x.toNat*k)))) val) h λ_ h'=>K h':=
 (H.own i m).agJ p o u n g q v d c y r j b λh' z w _=>A h' (H.kX i m w z)
theorem aa.nil(H:aa B h0 h As)(e k:Nat)(f:α->be):aa B h0 h (As++[aq e ⟨eH,0,0⟩ k f []]):=
 H.comp (.one (aV.refl _ _) ⟨Own.nil h e k f,λb a=>by obtain⟨o,a⟩:=a;cases a⟩)
theorem aa.LC(H:aa B h0 h As)(e k:Nat)(f:α->be):aa B h0 h (As++[gl e ⟨eH,0,0⟩ k f []]):=
 H.comp (.one (aV.refl _ _) ⟨[],λ_=>False,Own.nil h e 1 bt,λb a=>(by obtain⟨o,a⟩:=a;cases a),λ_ a=>a.elim,rfl,λi r l h=>ld⟩)
theorem aa.uX(hC:C.Ok)(H:aa B h0 h As)(i j:Nat)(A:i≠j){L:List (List α)}{r:Sl}{x:List α}(U:As[i]?=dB (gl e s k f L))(Z:As[j]?=dB (tZ r k f x))(he:bL C.toCM t e 1 [.slice eH 0 0] 24)
  (ab:ii L+1<=2^32) {ty:Nat} {K:Sl->f8->Prop} (hk:∀O h',aa B h0 h' ((As.set j emp).set i (gl e O k f (L++[x])))->K O h'):
  az C.P (qq t 1 #[(0,.slice r.ptr r.len r.cap)]) (.one (.sc .slc)) h λv o=>az C.P (qt #[t,t] ty #[.slice s.ptr s.len s.cap,.slice v.ptr v.len v.cap]) (.one (.sc .slc)) o K:=by
 have H2:=H.merge i j A U Z (D:=⟨λh q=>∃(rs:List Sl) (g:aB),Own h e s 1 bt rs/\(∀b,s.on b->q b/\¬g b)/\(∀b,g b->q b)/\rs.length=ii L/\(∀(i:Nat) r l,rs[i]?=dB r->L[i]?=dB l->Seq h g r k f l)/\Seq h g r k f x,
  λ⟨rs,g,a,b,c,d,e,f⟩ hp=>⟨rs,g,a.ai hp λx n=>(b x n).1,b,c,d,λi r l o y=>(e i r l o y).ai (hp.mono λx _ n=>c x n),f.ai (hp.mono λx _ n=>c x n)⟩,
  λ⟨rs,g,a,b,c,d,e,f⟩ hq=>⟨rs,g,a,λx n=>⟨hq x (b x n).1,(b x n).2⟩,λx n=>hq x (c x n),d,e,f⟩⟩)
  (λg W hd hA hB=>by
   obtain⟨rs,q3,a,b,c,d,Y⟩:=hA;refine⟨rs,λb=>q3 b∨W b,a,λx n=>⟨.inl (b x n).1,λM=>M.elim (b x n).2 (hd x (b x n).1)⟩,λx n=>n.elim (λh=>.inl (c x h)) .inr,d,λi r l o y=>(Y i r l o y).mono λ_ h=>.inl h,Seq.mono hB λ_ h=>.inr h⟩)
 have p:i<ii As:=(qo.1 U).1;obtain⟨lo,pp,c,X,a⟩:=H2;have ha:=a i _ (by rw[zG (Ne.symm A),zm p]);obtain⟨rs,g,a1,a2,a3,a4,a5,a6⟩:=ha;let S:Nat->Nat:=λb=> @ite _ (g b) (Classical.propDecidable _) (ii As+2) (c b);have F:∀b,g b->b<h.size/\c b=i+1:=a3;have V:dl h S (i+1) e s 1 bt rs:=⟨a1,λb m=>by
  have:=a2 b m;show @ite _ (g b) (Classical.propDecidable _) _ _=_;rw[g0 this.2];exact this.1.2⟩
 refine V.push hC he i0 i5 (λ_=>rfl) iU r i0 i5 i4 λO h' z G=>hk O h' ?_;rw[vC _ _ (Ne.symm A)];rw[<-yG (l:=As) (i:=i),vC _ _ A];have I:∀b,g b->S b≠i+1:=λb m=>by
  show @ite _ (g b) (Classical.propDecidable _) _ _≠_;rw[f9 m];omega
 refine aa.DU lo pp X a (G.mono λb m hn hc=>hn ⟨m,?_⟩) ⟨rs++[r],λb=>g b/\b<h.size,z.own,λb m=>?_,λb m=>⟨qM m.2 G.1,.inl ⟨m.2,(F b m.1).2⟩⟩,by simp[a4],λQ r' l' o y=>?_⟩
 ·by_cases E:g b
  ·exact(F b E).2
  ·have u:@ite _ (g b) (Classical.propDecidable _) (ii As+2) (c b)=i+1:=hc;rw[g0 E]at u;exact u
 ·have w:=z.bx b m;by_cases p:b<h.size
  ·rw[fm p]at w;have N:¬g b:=λE=>I b E w;have u:@ite _ (g b) (Classical.propDecidable _) (ii As+2) (c b)=i+1:=w;rw[g0 N]at u;exact⟨⟨z.own.lt m,.inl ⟨p,u⟩⟩,λM=>N M.1⟩
  ·exact⟨⟨z.own.lt m,.inr i4⟩,λM=>p M.2⟩
 ·have J:∀{T:Sl} {l:List α},Seq h g T k f l->Seq h' (λb=>g b/\b<h.size) T k f l:=λhs=>
   (hs.mono (q:=λb=>g b/\b<h.size) λb m=>⟨m,(F b m).1⟩).ai (G.mono λb _ m=>I b m.1)
  by_cases R:Q<ii rs
  ·rw[qm R]at o;rw[qm i4]at y;exact J (a5 Q r' l' o y)
  ·have:Q=ii rs:=by have:=(qo.1 o).1;simp at this;omega
   subst this;simp at o;rw[a4]at y;simp at y;subst o;subst y;exact J a6
theorem aa.rows(H:aa B h0 h As)(i:Nat){g:List (List α)}(n:As[i]?=dB (gl e s k f g)):∃rs,gB h (λb=>b<h.size) s k f g rs:=by obtain⟨rs,p,a,b,c,d,e⟩:=H.at i n;exact⟨rs,a.seq (λ_=>rfl) λx m=>(b x m).1,d,λi r l o j=>(e i r l o j).mono c⟩
end
theorem acE(vs:be):∀(pre old post:be),ii old=ii vs->((vs.zipIdx 0).foldl (λ(cs:Array eX) (p:eX×Nat)=>cs.setIfInBounds (ii pre+p.2) p.1) (pre++old++post).toArray)=(pre++vs++post).toArray:=by
 have b:∀(vs pre old post:be) (k:Nat),ii old=ii vs->ii pre=ii pre->∀n,n+k=ii pre->((vs.zipIdx k).foldl (λ(cs:Array eX) (p:eX×Nat)=>cs.setIfInBounds (n+p.2) p.1) (pre++old++post).toArray)=(pre++vs++post).toArray:=by
  intro vs
  induction vs with
  |nil=>intro pre old post k a _ n _;rw[q9 a];rfl
  |cons v vs ih=>
   intro pre old post k a _ n c;cases old with
   |nil=>simp at a
   |cons u old=>
    rw[List.zipIdx_cons,List.foldl_cons];have e:(pre++(u::old)++post).toArray.setIfInBounds (n+k) v=((pre++[v])++old++post).toArray:=by rw[c];apply yC;simp
    dsimp only;rw[e,ih (pre++[v]) old post (k+1) j7 i0 n i7];simp
 intro pre old post h;exact b vs pre old post 0 h i0 pre.length i4
theorem Sn{a:Nat->Option (Nat×Nat)}{i:Nat}{v:eX}{vs pre old post:be}{rest:List (Nat×eX)}(b:v.cells=vs.toArray)(d:a i=dB (ii pre,ii vs))(c:ii old=ii vs):
  wL a (pre++old++post).toArray ((i,v)::rest)=wL a (pre++vs++post).toArray rest:=by
 conv=>lhs;unfold wL
 simp only[d,b];rw[g0 i7];congr 1;have:=acE vs pre old post c;simpa using this
section
variable {C:Ctx} {t:Nat} {i:TI} {h:f8}
theorem Gu(e:C.Ok)(m:C.T.get t=dB i){l:List (Nat×TypeId)}(h:i.cT=.struct l){c:List (Nat×Nat)}(d:placesOf C.T l=dB c){vs:List (Nat×eX)}{cells:Array eX}
  (a:wL (λn=>c[n]?) i.zero.toArray vs=dB cells):aH C.P (Instr.build t vs.toArray) (.agg cells):=by
 obtain⟨z,p,g⟩:=sC e.toOk m;have b:i.zero.toArray=z.cells:=by rw[<-g]
 have o:=e.cT m;rw[h]at o;obtain⟨q,r,rfl⟩:=pA o;refine p.bind ((aJ r).bind ?_);have k:aH C.P (q.mapM λf=>(do pure (f.offset,<-sizeOf f.type):Sem (Nat×Nat))) c.toArray:=by rw[Array.mapM_eq_mapM_toList];intro w;have:=nR e.toOk d w;rw[map_eq_pure_bind,Sem.run_bind,this];rfl
 refine k.bind ?_;have j:wL (λn=>c.toArray[n]?) z.cells vs.toArray.toList=dB cells:=by rw[<-b];simpa using a
 rw[j];exact .pure
end
theorem take_set{α:Type}(l:List α)(n:Nat)(x:α)(h:n<ii l):l.take n++[x]++l.drop (n+1)=l.set n x:=by rw[yj,f9 h];simp
section
variable {B:aB} {C:Ctx} {h0 h h':f8} {As:List HP} {e t:Nat} {a:fz} {cs:be} {ti:TI}
theorem aa.storeAt(k:C.Ok)(H:aa B h0 h As)(i:Nat)(f:As[i]?=dB (aw a e cs))(l:C.T.get t=dB ti){off:Nat}{v:eX}(g:v.cells=#[v])(d:ti.size=1)
  (c:v.oneCell'=eL) (b:off<ii cs) {K:Unit->f8->Prop}
  (j:∀h',aa B h0 h' (As.set i (aw a e (cs.set off v)))->K () h'):
  ag C.P (qf t (.pointer (dB (a.add off))) v) h K:=
 H.store k i f l off [v] g d n7 i7 λh' x=>j h' (by rw[<-take_set _ _ _ b];simpa using x)
theorem aa.storeAll(k:C.Ok)(H:aa B h0 h As)(i:Nat)(f:As[i]?=dB (aw a e cs))(l:C.T.get t=dB ti){v:eX}(vs:be)(g:v.cells=vs.toArray)(c:ti.size=ii vs)
  (b:vs.all (·.oneCell')=eL) (d:ii vs=ii cs) {K:Unit->f8->Prop}
  (j:∀h',aa B h0 h' (As.set i (aw a e vs))->K () h'):
  ag C.P (qf t (.pointer (dB a)) v) h K:=
 H.jB k i f l vs g c b i4 λh' x=>j h' (by rw[zf i4,List.append_nil]at x;exact x)
end
theorem uE(n:Nat)(a:n<=9223372036854775807:=by omega):qc xN (n:Int)=n:=ak _
abbrev Rd{α:Type}(h:f8)(s:Sl)(k:Nat)(f:α->be)(l:List α):Prop:=Seq h (λb=>b<h.size) s k f l
abbrev fF{α:Type}(h:f8)(s:Sl)(k:Nat)(f:α->be)(a:List (List α)):Prop:=∃rs,gB h (λb=>b<h.size) s k f a rs
section
variable {α:Type} {B:aB} {h0 h h':f8} {As:List HP} {s:Sl} {k e:Nat} {f:α->be} {l:List α} {ll:List (List α)}
theorem fF.up(a:fF h s k f ll)(c:aV (λb=>b<h.size) h h'):fF h' s k f ll:=by obtain⟨rs,a⟩:=a;exact⟨rs,gB.up a c⟩
theorem fF.len(a:fF h s k f ll):s.len=ii ll:=by obtain⟨rs,a⟩:=a;exact a.Sg
theorem fF.get(b:fF h s k f ll){i:Int}(n:Nat)(c:i=n)(e:n<ii ll){K:Sl->Prop}(g:∀r,Rd h r k f ll[n]->K r):
  ∃a:fz,(s.ptr=dB a/\0<=i/\i<((s.len:Nat):Int))/\∃x:Sl,f7 h (a.add (i.toNat*1))=dB (.slice x.ptr x.len x.cap)/\K x:=by
 obtain⟨rs,b⟩:=b;exact b.get n c e λr d _=>g r d
theorem Seq.isSome{p:aB}(c:Seq h p s k f l)(d:l≠[]):s.ptr.isNone=false:=by
 cases l with
 |nil=>exact absurd i0 d
 |cons x t=>obtain⟨b,o,a,_⟩:=c.elem 0 x i9;rw[a];rfl
theorem Seq.isNil{p:aB}(b:Seq h p s k f l)(a:s.ptr.isNone=eL):l=[]:=by
 cases l with
 |nil=>rfl
 |cons x t=>rw[b.isSome i9]at a;cases a
theorem aa.JD(H:aa B h0 h As)(i:Nat)(a:As[i]?=dB (gl e s k f ll)):fF h s k f ll:=H.rows i a
end
section
variable {B:aB} {h0 h h':f8} {As Bs:List HP} {A D:HP}
theorem aa.del(H:aa B h0 h As)(i:Nat):aa B h0 h (As.eraseIdx i):=
 H.pick (λj=>if j<i then j else j+1) (λa b d=>by split at d<;>split at d<;>omega) λj A e=>by
  rw[List.getElem?_eraseIdx]at e;split at e
  ·rename_i c;rw[f9 c];exact e
  ·rename_i c;rw[g0 c];exact e
theorem aa.call(H:aa B h0 h As)(i:Nat)(F:As[i]?=dB A)(q:aB)(L:∀q':aB,A.p h q'->∀b,q b->q' b)(R:aa (λb=>b<h.size/\¬q b) h h' (D::Bs)):aa B h0 h' (As.set i D++Bs):=by
 classical
 obtain⟨y,w,g,E,z⟩:=H;obtain⟨_,t,j,J,G⟩:=R;have s:=w.1;have v:=(qo.1 F).1;have l:∀b,q b->b<h.size/\g b=i+1:=L _ (z i A F);have x:∀b,B b->b<h.size/\¬q b:=λb a=>⟨qM (y b a) s,λn=>by have:=E b a;have:=l b n;omega⟩
 let c:Nat->Nat:=λb=>if b<h.size/\¬q b then(if g b=i+1 then 0 else g b)else if j b=0 then 0 else if j b=1 then i+1 else As.length+j b-1
 have e:∀b,b<h.size/\¬q b->g b≠i+1->c b=g b:=λb a K=>by show ite _ _ _=_;rw[f9 a,g0 K]
 have f:∀b,j b≠0->c b=if j b=1 then i+1 else As.length+j b-1:=λb a=>by
  have:¬(b<h.size/\¬q b):=λn=>a (J b n);show ite _ _ _=_;rw[g0 this,g0 a]
 refine⟨y,w.then t λb _ a=>x b a,c,λb a=>?_,λk o d=>?_⟩
 ·have:=E b a;rw[e b (x b a) i4];exact this
 ·by_cases u:k<ii As
  ·rw[qm o5,qY]at d;split at d
   ·rename_i r;subst r;injection d with d
    subst d;refine D.mono (G 0 D i0) λb a=>⟨a.1,?_⟩
    rw[f b i4,f9 a.2]
   ·rename_i r;have m:∀b,b<h.size/\g b=k+1->b<h.size/\¬q b:=λb a=>⟨a.1,λn=>by have:=l b n;omega⟩
    refine o.mono (o.loc (z k o d) (t.mono λb _ a=>m b a)) λb a=>⟨qM a.1 t.1,?_⟩
    rw[e b (m b a) i4];exact a.2
  ·rw[qj o5]at d;rw[zj]at d;have I:=G (k-ii As+1) o n3;refine o.mono I λb a=>⟨a.1,?_⟩
   rw[f b i4,g0 i4];omega
end
section
variable {B:aB} {α:Type} {h0 h h':f8} {As Bs:List HP} {A D:HP} {e k:Nat} {s:Sl} {f:α->be} {l:List α}
theorem aa.off(H:aa B h0 h As)(i j:Nat)(n:i≠j)(m:As[i]?=dB (aq e s k f l))(o:As[j]?=dB A):A.p h (λb=>b<h.size/\¬s.on b):=by
 obtain⟨_,_,c,_,a⟩:=H;refine A.mono (a j A o) λb g=>⟨g.1,λd=>?_⟩
 have:=(a i _ m).2 b d;omega
theorem aa.base(H:aa B h0 h As)(i:Nat)(j:As[i]?=dB (aq e s k f l)){b:Nat}(g:B b):¬s.on b:=λd=>by
 obtain⟨_,_,c,z,a⟩:=H;have:=(a i _ j).2 b d;have:=z b g;omega
theorem aa.agK(H:aa B h0 h (As++[D]))(i:Nat)(k:i<ii As):aa B h0 h (As.set i D):=
 H.pick (λj=>if j<ii As then(if j=i then As.length else j)else j+1) (λa b c=>by split at c<;>split at c<;>(try split at c)<;>(try split at c)<;>omega) λj A f=>by
  have e:j<ii As:=by have:=(qo.1 f).1;simpa using this
  rw[f9 e];rw[qY]at f;split at f
  ·rename_i d;subst d;rw[f9 i0,qj (qn _),zc];exact f
  ·rename_i d;rw[g0 λg=>d g.symm,qm e];exact f
theorem aa.aey(H:aa B h0 h As)(i j:Nat){A2:HP}(m:As[i]?=dB A)(n:As[j]?=dB A2):aa B h0 h ((As.set i A2).set j A):=by
 have k:=(qo.1 m).1;have l:=(qo.1 n).1;refine H.pick (λx=>if x=j then i else if x=i then j else x) (λa b c=>by split at c<;>split at c<;>(try split at c)<;>(try split at c)<;>omega) λx o d=>?_;rw[qY,qY]at d;by_cases e:j=x
 ·subst e;simp[l]at d;subst d;simpa using m
 ·by_cases g:i=x
  ·subst g;simp[e,k]at d;subst d;rw[g0 λf=>e f.symm,f9 rfl];exact n
  ·simp[e,g]at d;rw[g0 λf=>e f.symm,g0 λf=>g f.symm];exact d
end
def bM{α:Type}(e k:Nat)(f:α->be)(rs:List Sl)(a:List (List α)):List HP:=List.zipWith (λr l=>aq e r k f l) rs a
section
variable {α:Type} {e k:Nat} {f:α->be} {rs:List Sl} {ll:List (List α)}
theorem mi(h:ii rs=ii ll):ii (bM e k f rs ll)=ii ll:=by simp[bM,h]
theorem gg(h:ii rs=ii ll)(i:Nat)(a:i<ii ll):(bM e k f rs ll)[i]?=dB (aq e (rs[i]'(by omega)) k f ll[i]):=by
 have b:i<ii rs:=i4
 simp[bM,wk,qd a,qd b]
theorem xS(h:ii rs=ii ll)(r:Sl)(l:List α):bM e k f (rs++[r]) (ll++[l])=bM e k f rs ll++[aq e r k f l]:=by unfold bM;rw[List.zipWith_append h];rfl
theorem mj(h:ii rs=ii ll)(i:Nat)(r:Sl)(l:List α):(bM e k f rs ll).set i (aq e r k f l)=bM e k f (rs.set i r) (ll.set i l):=by
 apply List.ext_getElem?;intro j;simp only[bM,qY,wk,List.length_zipWith];by_cases a:i=j
 ·subst a;by_cases b:i<ii ll
  ·have:i<ii rs:=i4
   simp[b,this];omega
  ·have:¬i<ii rs:=i4
   simp[b];omega
 ·simp[a]
theorem So(h:ii rs=ii ll)(i:Nat)(a:i<ii ll)(l:List α):(bM e k f rs ll).set i (aq e (rs[i]'(by omega)) k f l)=bM e k f rs (ll.set i l):=by rw[mj h,List.set_getElem_self]
theorem aa.Sq{B:aB}{m h:f8}{s:Sl}{b:Nat}(H:aa B m h (aq b s 1 bt rs::bM e k f rs ll))(c:ii rs=ii ll)(j:∀x,ii (f x)=k):fF h s k f ll:=by
 refine⟨rs,H.seq 0 i0 λ_=>rfl,c,λi r l d a=>?_⟩;have g:i<ii ll:=(qo.1 a).1;have n:=gg (e:=e) (k:=k) (f:=f) c i g;have h3:=H.seq (i+1) n4 j;have b:rs[i]'(by omega)=r:=by rw[qd i4]at d;simpa using d
 have e2:ll[i]=l:=by rw[qd g]at a;simpa using a
 rw[b,e2]at h3;exact h3
end
section
variable {α:Type} {h:f8} {p:aB} {s:Sl} {f:α->be} {l:List α}
theorem Seq.RJ{X:Type}{g:X->eX}(d:Seq h p s 1 f l){i:Int}(n:Nat)(q:i=n)(m:n<ii l)(x:X)(j:f l[n]=[g x]){K:fz->X->Prop}(r:∀a:fz,f7 h (a.add (i.toNat*1))=dB (g x)->K a x):
  ∃a:fz,(s.ptr=dB a/\0<=i/\i<((s.len:Nat):Int))/\∃x:X,f7 h (a.add (i.toNat*1))=dB (g x)/\K a x:=by
 subst q;obtain⟨b,o,k,_,h3⟩:=d.elem n l[n] (qd m);rw[j]at h3;have c:=h3.1;rw[add_eq,yn]at c;have e:f7 h ((⟨b,o,eH⟩:fz).add ((n:Int).toNat*1))=dB (g x):=by rw[add_eq];simpa using c
 exact⟨_,⟨k,i4,by rw[d.len];omega⟩,x,e,r _ e⟩
end
theorem Seq.nN{h:f8}{p:aB}{s:Sl}{rs:List Sl}(d:Seq h p s 1 bt rs){i:Int}(n:Nat)(k:i=n)(j:n<ii rs){K:fz->Sl->Prop}
  (l:∀a:fz,f7 h (a.add (i.toNat*1))=dB (.slice rs[n].ptr rs[n].len rs[n].cap)->p (a.add (i.toNat*1)).block->K a rs[n]):
  ∃a:fz,(s.ptr=dB a/\0<=i/\i<((s.len:Nat):Int))/\∃x:Sl,f7 h (a.add (i.toNat*1))=dB (.slice x.ptr x.len x.cap)/\K a x:=by
 subst k;obtain⟨b,o,g,f,h3⟩:=d.elem n rs[n] (qd j);have c:=h3.1;rw[add_eq,yn]at c;have e:f7 h ((⟨b,o,eH⟩:fz).add ((n:Int).toNat*1))=dB (.slice rs[n].ptr rs[n].len rs[n].cap):=by rw[add_eq];simpa using c
 exact⟨_,⟨g,i4,by rw[d.len];omega⟩,rs[n],e,l _ e (by rw[add_eq];exact f)⟩
section
variable {B:aB} {α:Type} {h0 h:f8} {As:List HP} {e k:Nat} {s:Sl} {f:α->be} {l:List α}
theorem Own.cut(a:Own h e s k f l)(c:∀x,ii (f x)=k)(j:Nat)(d:j<=ii l):Own h e ⟨s.ptr,j,s.cap⟩ k f (l.take j):=by
 have g:=a.len;refine⟨i7,?_⟩;rcases a.head with⟨h1,h2,h3⟩|⟨b,rest,h1,h2,h3,h4⟩
 ·subst h3;exact .inl ⟨h1,h2,i9⟩
 ·refine .inr ⟨b,(l.drop j).flatMap f++rest,h1,?_,?_,i6⟩
  ·rw[<-qp,<-zg,qA];exact h2
  ·rw[qx,cQ c,za,h3,<-Nat.add_mul];dsimp only;congr 1;omega
theorem aa.cut(H:aa B h0 h As)(i:Nat)(c:As[i]?=dB (aq e s k f l))(b:∀x,ii (f x)=k)(j:Nat)(d:j<=ii l):aa B h0 h (As.set i (aq e ⟨s.ptr,j,s.cap⟩ k f (l.take j))):=
 H.fI i c λ_ a=>⟨a.1.cut b j d,a.2⟩
end
section
variable {B:aB} {α:Type} {C:Ctx} {h0 h:f8} {As:List HP} {e t k:Nat} {s:Sl} {f:α->be} {l:List α} {ti:TI}
theorem Own.Sr(v:C.Ok)(p:Own h e s k f l)(o:∀x,ii (f x)=k)(D:C.T.get t=dB ti){x:Int}{r:Nat}(w:x=ii l)(q:ii l<s.cap)(m:r=s.cap){val:eX}(y:α)(z:val.cells=(f y).toArray)(n:ti.size=k)
  (g:(f y).all (·.oneCell')=eL) {K:f8->Prop} (E:∀h',Own h' e ⟨s.ptr,ii l+1,s.cap⟩ k f (l++[y])->aV (λb=>¬s.on b) h h'->K h'):
  ∃a:fz,(s.ptr=dB a/\0<=x/\x<((r:Nat):Int))/\ag C.P (qf t (.pointer (dB (a.add (x.toNat*k)))) val) h λ_ h'=>K h':=by
 subst w m;have d:=p.len;rcases p.head with⟨_,h2,h3⟩|⟨b,rest,h1,h2,h3,h4⟩
 ·omega
 ·refine⟨_,⟨h1,i4,i4⟩,?_⟩;unfold qf;refine ag.bind (ag.pure' ?_);unfold storeVar;refine ag.bind (ag.always (dm v.toOk D) ?_);rw[z,n];have j:=o y;simp only[wO,j,ne_eq,not_true,if_false];rw[add_eq,zQ,ql];have i:=cQ o l;have u:k<=ii rest:=by rw[h3,d];have:=zB k (show 1<=s.cap-ii l by omega);omega
  refine dp (e:=e) (pre:=l.flatMap f) (old:=rest.take k) (post:=rest.drop k) ?_ ?_ ?_ ?_ ?_
  ·rw[qp,qA];exact h2
  ·rw[j,qU];omega
  ·rw[i];omega
  ·intro c A;exact qL.1 g c A
  ·refine E _ ⟨i9,.inr ⟨b,rest.drop k,h1,?_,?_,i6⟩⟩ (aV.gC h2 λB=>B ⟨0,h1⟩)
   ·rw[fW h2,f9 rfl];simp
   ·rw[za,h3,d];dsimp only;rw[Nat.sub_add_eq,Nat.sub_mul (s.cap-ii l) 1 k,Nat.one_mul]
theorem aa.Sr(v:C.Ok)(H:aa B h0 h As)(i:Nat)(r:As[i]?=dB (aq e s k f l))(u:∀x,ii (f x)=k)(E:C.T.get t=dB ti){x:Int}{q:Nat}(A:x=ii l)(d:ii l<s.cap)(j:q=s.cap){val:eX}(y:α)(D:val.cells=(f y).toArray)(o:ti.size=k)
  (c:(f y).all (·.oneCell')=eL) {K:f8->Prop} (F:∀h',aa B h0 h' (As.set i (aq e ⟨s.ptr,ii l+1,s.cap⟩ k f (l++[y])))->K h'):
  ∃a:fz,(s.ptr=dB a/\0<=x/\x<((q:Nat):Int))/\ag C.P (qf t (.pointer (dB (a.add (x.toNat*k)))) val) h λ_ h'=>K h':=
 (H.own i r).Sr v u E A d j y D o c λh' z w=>F h' (H.step i r λ_ n p=>⟨w.mono λb _ g m=>g (n.2 b m),z,λb g=>⟨qM (p b (n.2 b g)) w.1,.inl (n.2 b g)⟩⟩)
end
section
variable {C:Ctx} {t t2 ty e k:Nat} {z:be} {by_:Nat} {α:Type} {h h0:f8} {p B:aB} {s v:Sl} {f:α->be} {l l2:List α} {As:List HP}
theorem Own.LD(D:C.Ok)(F:bL C.toCM t e k z by_)(j:∀x,ii (f x)=k)(o:Own h e s k f l)(E:Seq h p v k f l2)(g:∀x,∀c∈f x,c.oneCell'=eL){K:Int->f8->Prop}
  (A:∀n h',Own h' e s k f (l2.take l.length++l.drop l2.length)->aV (λb=>¬s.on b) h h'->K n h'):
  az C.P (wJ #[t,t2] ty #[.slice s.ptr s.len s.cap,.slice v.ptr v.len v.cap]) (.one (.sc (.int .i64))) h K:=by
 unfold az wJ;simp only[zR,yf,qu];refine ag.bind (ag.always (aJ (F.under D)) ?_);refine ag.bind (ag.pure' ?_);refine ag.bind (ag.always (F.size D) ?_);have a:=o.len;have d:=E.len;obtain⟨m,i⟩:∃m,m=Nat.min v.len s.len:=⟨_,rfl⟩
 rw[<-i];have y:m<=ii l2:=by rw[i,<-d];exact Nat.min_le_left _ _
 have r:m<=ii l:=by rw[i,<-a];exact Nat.min_le_right _ _
 have G:m=min l2.length l.length:=by rw[i,a,d]
 have B:=E.take m y;have J:l2.take l.length++l.drop l2.length=l2.take m++l.drop m:=by
  rcases Nat.le_total l2.length l.length with hh|hh
  ·rw[List.take_of_length_le hh,show m=ii l2 by omega,List.take_length]
  ·rw[show m=ii l by omega,zf hh,List.drop_length]
 rw[J]at A;have u:wS k m (.slice v.ptr v.len v.cap)=wS k m (.slice v.ptr m v.cap):=by cases v.ptr<;>rfl
 rw[u];refine ag.bind (fH (v:=⟨v.ptr,m,v.cap⟩) j B ?_);rcases o.head with⟨h1,h2,h3⟩|⟨b,rest,h1,h2,h3,h4⟩
 ·rw[h1];subst h3;have:m=0:=by simpa using r
  subst this;refine ag.pure' ⟨_,i0,A _ h ?_ (aV.refl _ _)⟩;simpa using o
 ·rw[h1];refine ag.bind ?_;have q:l.flatMap f++rest=(l.take m).flatMap f++((l.drop m).flatMap f++rest):=by rw[<-qp,<-zg,qA]
  rw[q]at h2;refine dp (e:=e) (pre:=[]) (old:=(l.take m).flatMap f) (post:=(l.drop m).flatMap f++rest) (by simpa using h2) (by rw[cQ j,cQ j,qU,qU];congr 1;omega) i0 ?_ ?_
  ·intro c H;obtain⟨x,_,w⟩:=zJ.1 H;exact g x c w
  ·refine ag.pure' ⟨_,i0,A _ _ ⟨by rw[a,qx,qU,za];omega,.inr ⟨b,rest,h1,?_,h3,h4⟩⟩ (aV.gC h2 λI=>I ⟨0,h1⟩)⟩;rw[fW h2,f9 i0,zg];simp
theorem aa.LD(o:C.Ok)(H:aa B h0 h As)(i:Nat)(b:As[i]?=dB (aq e s k f l))(m:bL C.toCM t e k z by_)(d:∀x,ii (f x)=k)(g:Seq h p v k f l2)(a:∀x,∀c∈f x,c.oneCell'=eL){K:Int->f8->Prop}
  (j:∀n h',aa B h0 h' (As.set i (aq e s k f (l2.take l.length++l.drop l2.length)))->K n h'):
  az C.P (wJ #[t,t2] ty #[.slice s.ptr s.len s.cap,.slice v.ptr v.len v.cap]) (.one (.sc (.int .i64))) h K:=
 (H.own i b).LD o m d g a λn h' x y=>j n h' (H.kX i b y x)
end
def Od(d:Sl)(w i:Nat):Sl:=⟨if d.cap=i*w then d.ptr else d.ptr.map (·.add (i*w*1)),(i+1)*w-i*w,d.cap-i*w⟩
def Gv{α:Type}(l:List α)(w i:Nat):List α:=(l.drop (i*w)).take w
theorem Seq.piece{α:Type}{h:f8}{p:aB}{s:Sl}{f:α->be}{l:List α}(d:Seq h p s 1 f l)(c:s.len<=s.cap)(w i:Nat)(g:(i+1)*w<=ii l):Seq h p (Od s w i) 1 f (Gv l w i):=by
 have b:=d.drop (i*w) c;have e:(i+1)*w=i*w+w:=zK i w;have a:=b.take w l5;have e2:(i+1)*w-i*w=w:=i4
 unfold Od Gv;rw[e2];exact a
theorem afu{α:Type}{l:List α}{w i:Nat}(a:(i+1)*w<=ii l):ii (Gv l w i)=w:=by have e:(i+1)*w=i*w+w:=zK i w;simp only[Gv,qU,za];omega
def HP.sep(A D:HP):HP:=
 ⟨λh q=>∃g i:aB,(∀b,g b->¬i b)/\(∀b,g b->q b)/\(∀b,i b->q b)/\A.p h g/\D.p h i,
  λ⟨g,i,a,b,c,d,e⟩ hp=>⟨g,i,a,b,c,A.loc d (hp.mono λx _ f=>b x f),D.loc e (hp.mono λx _ f=>c x f)⟩,
  λ⟨g,i,a,b,c,d,e⟩ hq=>⟨g,i,a,λx f=>hq x (b x f),λx f=>hq x (c x f),d,e⟩⟩
def HP.ex{ι:Type}(F:ι->HP):HP:=⟨λh q=>∃i,(F i).p h q,λ⟨i,a⟩ hp=>⟨i,(F i).loc a hp⟩,λ⟨i,a⟩ hq=>⟨i,(F i).mono a hq⟩⟩
def HP.pure(P:Prop):HP:=⟨λ_ _=>P,λa _=>a,λa _=>a⟩
def HP.and(A:HP)(P:Prop):HP:=⟨λh q=>A.p h q/\P,λa c=>⟨A.loc a.1 c,a.2⟩,λa b=>⟨A.mono a.1 b,a.2⟩⟩
section
variable {B:aB} {h0 h h':f8} {As Bs:List HP} {A D E:HP} {i j:Nat}
theorem aa.split(H:aa B h0 h As)(i:Nat)(o:As[i]?=dB (A.sep D)):aa B h0 h (As.set i A++[D]):=by
 classical
 obtain⟨t,p,c,z,a⟩:=H;obtain⟨x,r,v,n,m,s,q⟩:=a i _ o;have w:=(qo.1 o).1;refine⟨t,p,λb=>if r b then As.length+1 else c b,λb e=>?_,λj X d=>?_⟩
 ·have u:=z b e;dsimp only;rw[g0];exact u;intro g;have:=(m b g).2;omega
 ·by_cases k:j<ii As
  ·rw[qm (by simpa using k),qY]at d;split at d
   ·rename_i f;subst f
    first|rw[f9 k]at d|skip
    injection d with d
    subst d;refine A.mono s λb e=>⟨(n b e).1,?_⟩
    dsimp only;rw[g0 (v b e)];exact(n b e).2
   ·rename_i f;refine X.mono (a j X d) λb e=>⟨e.1,?_⟩
    dsimp only;rw[g0];exact e.2;intro g;have:=(m b g).2;omega
  ·rw[qj (by simpa using k)]at d;rw[zj]at d;have l:j=ii As:=by have:=(qo.1 d).1;simp at this;omega
   subst l;simp at d;subst d;refine D.mono q λb e=>⟨(m b e).1,?_⟩
   dsimp only;rw[f9 e]
theorem aa.join(H:aa B h0 h As)(i j:Nat)(b:i≠j)(d:As[i]?=dB A)(l:As[j]?=dB D):aa B h0 h ((As.set i (A.sep D)).set j emp):=
 H.merge i j b d l λf g e k c=>⟨f,g,e,λ_ a=>.inl a,λ_ a=>.inr a,k,c⟩
theorem aa.XG{ι:Type}{F:ι->HP}(H:aa B h0 h As)(i:Nat)(e:As[i]?=dB (HP.ex F)):∃x,aa B h0 h (As.set i (F x)):=by
 obtain⟨g,p,c,z,a⟩:=H;obtain⟨x,f⟩:=a i _ e;refine⟨x,g,p,c,z,λj X b=>?_⟩;rw[qY]at b;split at b
 ·rename_i d;subst d;split at b
  ·injection b with b;subst b;exact f
  ·cases b
 ·exact a j X b
theorem aa.close'{ι:Type}{F:ι->HP}(H:aa B h0 h As)(i:Nat)(x:ι)(a:As[i]?=dB (F x)):aa B h0 h (As.set i (HP.ex F)):=H.fI i a λ_ b=>⟨x,b⟩
theorem aa.fact{P:Prop}(H:aa B h0 h As)(i:Nat)(a:As[i]?=dB (A.and P)):P:=(H.at i a).2
theorem aa.aez{P:Prop}(H:aa B h0 h As)(i:Nat)(a:As[i]?=dB (A.and P)):aa B h0 h (As.set i A):=H.fI i a λ_ b=>b.1
theorem aa.ail{P:Prop}(H:aa B h0 h As)(i:Nat)(a:As[i]?=dB A)(c:P):aa B h0 h (As.set i (A.and P)):=H.fI i a λ_ b=>⟨b,c⟩
theorem aa.cons(H:aa B h0 h As)(i:Nat)(g:As[i]?=dB A):aa B h0 h (A::As.set i emp):=by
 obtain⟨l,p,c,z,a⟩:=H;have k:=(qo.1 g).1;refine⟨l,p,λb=>if c b=i+1 then 1 else if c b=0 then 0 else c b+1,λb e=>?_,λj X d=>?_⟩
 ·have:=z b e;dsimp only;rw[g0 i4,f9 this]
 ·cases j with
  |zero=>
   simp at d;subst d;refine A.mono (a i A g) λb e=>⟨e.1,by dsimp only;rw[f9 e.2]⟩
  |succ j=>
   rw[qu,qY]at d;split at d
   ·rename_i f;injection d with d;subst d;trivial
   ·rename_i f;refine X.mono (a j X d) λb e=>⟨e.1,by dsimp only;rw[g0 i4,g0 i4];omega⟩
theorem aa.rest(H:aa B h0 h (A::As)):aa B h0 h As:=H.pick (λj=>j+1) (λa b h=>i4) λj X c=>o6
end
structure iM (α β:Type) where
 p:f8->aB->α->β->Prop
 loc:∀{h h':f8} {q:aB} {a:α} {b:β},p h q a b->aV q h h'->p h' q a b
 mono:∀{h:f8} {q q':aB} {a:α} {b:β},p h q a b->(∀x,q x->q' x)->p h q' a b
def ct{α:Type}(k:Nat)(f:α->be):iM Sl (List α):=⟨λh q s l=>Seq h q s k f l,λa c=>a.ai c,λa b=>a.mono b⟩
def ua{α:Type}(k:Nat)(f:α->be):iM Sl (List α):=⟨λh q s l=>Seq h q s k f l/\(l=[]->s.ptr=eH),λa c=>⟨a.1.ai c,a.2⟩,λa b=>⟨a.1.mono b,a.2⟩⟩
def bE{α β:Type}(E:iM α β)(k:Nat)(f:α->be):iM Sl (List β):=
 ⟨λh q s ll=>∃rs:List α,Seq h q s k f rs/\rs.length=ii ll/\∀(i:Nat) r l,rs[i]?=dB r->ll[i]?=dB l->E.p h q r l,
  λ⟨rs,a,b,c⟩ hp=>⟨rs,a.ai hp,b,λi r l e d=>E.loc (c i r l e d) hp⟩,λ⟨rs,a,b,c⟩ hq=>⟨rs,a.mono hq,b,λi r l e d=>E.mono (c i r l e d) hq⟩⟩
def agL{α β:Type}(E:iM α β)(P:α->β->Prop):iM α β:=⟨λh q a b=>E.p h q a b/\P a b,λa d=>⟨E.loc a.1 d,a.2⟩,λa c=>⟨E.mono a.1 c,a.2⟩⟩
def EA{α β:Type}(E:iM α β)(a:α)(b:β):HP:=⟨λh q=>E.p h q a b,λx d=>E.loc x d,λx c=>E.mono x c⟩
abbrev dX{α β:Type}(E:iM α β)(h:f8)(a:α)(b:β):Prop:=E.p h (λb=>b<h.size) a b
def bX{α β:Type}(e:TypeId)(s:Sl)(k:Nat)(f:α->be)(E:iM α β)(m:List β):HP:=
 ⟨λh q=>∃(rs:List α) (j:aB),Own h e s k f rs/\(∀b,s.on b->q b/\¬j b)/\(∀b,j b->q b)/\rs.length=ii m/\∀(i:Nat) r l,rs[i]?=dB r->m[i]?=dB l->E.p h j r l,
  λ⟨rs,j,a,b,c,d,e⟩ hp=>⟨rs,j,a.ai hp λx g=>(b x g).1,b,c,d,λi r l o n=>E.loc (e i r l o n) (hp.mono λx _ g=>c x g)⟩,
  λ⟨rs,j,a,b,c,d,e⟩ hq=>⟨rs,j,a,λx g=>⟨hq x (b x g).1,(b x g).2⟩,λx g=>hq x (c x g),d,e⟩⟩
section
variable {α β:Type} {E:iM α β} {k:Nat} {f:α->be} {h h':f8} {q:aB} {s:Sl} {ll:List β} {a:α} {b:β}
theorem dX.up(x:dX E h a b)(c:aV (λb=>b<h.size) h h'):dX E h' a b:=E.mono (E.loc x c) λ_ d=>qM d c.1
theorem bE.kO(x:(bE E k f).p h q s ll):∃rs:List α,Seq h q s k f rs/\rs.length=ii ll/\∀(i:Nat) (e:i<ii rs) (d:i<ii ll),E.p h q rs[i] ll[i]:=by obtain⟨rs,a,b,c⟩:=x;exact⟨rs,a,b,λi e d=>c i _ _ (qd e) (qd d)⟩
theorem bE.len(x:(bE E k f).p h q s ll):s.len=ii ll:=by obtain⟨rs,a,b,c⟩:=x;rw[a.len,b]
theorem bE.nil(h:f8)(q:aB)(a:aT)(c:Nat):(bE E k f).p h q ⟨a,0,c⟩ []:=⟨[],Seq.nil h q c a k f,i0,λi r l b=>by simp at b⟩
theorem bE.take(x:(bE E k f).p h q s ll)(n:Nat)(j:n<=ii ll):(bE E k f).p h q ⟨s.ptr,n,s.cap⟩ (ll.take n):=by
 obtain⟨rs,a,b,c⟩:=x;refine⟨rs.take n,a.take n i4,ns,λi r l d e=>?_⟩;rw[yL]at d e;split at d
 ·rename_i g;rw[f9 g]at e;exact c i r l d e
 ·cases d
theorem bE.drop(x:(bE E k f).p h q s ll)(n:Nat)(g:s.len<=s.cap):(bE E k f).p h q ⟨if s.cap=n then s.ptr else s.ptr.map (·.add (n*k)),s.len-n,s.cap-n⟩ (ll.drop n):=by obtain⟨rs,a,b,c⟩:=x;refine⟨rs.drop n,a.drop n g,ns,λi r l e d=>?_⟩;rw[wC]at e d;exact c _ r l e d
theorem bE.get{X:Type}{g:X->eX}(x:(bE E 1 f).p h q s ll){i:Int}(n:Nat)(b:i=n)(d:n<ii ll)(u:α->X)(j:∀r,f r=[g (u r)]){K:X->Prop}(e:∀r,E.p h q r ll[n]->K (u r)):
  ∃a:fz,(s.ptr=dB a/\0<=i/\i<((s.len:Nat):Int))/\∃x:X,f7 h (a.add (i.toNat*1))=dB (g x)/\K x:=by
 obtain⟨rs,c,k,h3⟩:=bE.kO x;exact c.bB n b i4 (u (rs[n]'(by omega))) (j _) (e _ (h3 n i4 d))
theorem bE.nN{E:iM Sl β}(x:(bE E 1 bt).p h q s ll){i:Int}(n:Nat)(b:i=n)(c:n<ii ll){K:Sl->Prop}(d:∀r,E.p h q r ll[n]->K r):
  ∃a:fz,(s.ptr=dB a/\0<=i/\i<((s.len:Nat):Int))/\∃x:Sl,f7 h (a.add (i.toNat*1))=dB (.slice x.ptr x.len x.cap)/\K x:=
 bE.get (g:=λr:Sl=>Value.slice r.ptr r.len r.cap) x n b c id (λ_=>rfl) d
theorem bE.agM{γ:Type}{a:Nat}{g:γ->be}{l:List (List γ)}{rs:List Sl}(x:gB h q s a g l rs):(bE (ct a g) 1 bt).p h q s l:=⟨rs,x.top,x.len,x.row⟩
theorem bE.tofF{γ:Type}{d:Nat}{g:γ->be}{l:List (List γ)}(x:dX (bE (ct d g) 1 bt) h s l):fF h s d g l:=by obtain⟨rs,a,b,c⟩:=x;exact⟨rs,a,b,c⟩
theorem bE.impl{α':Type}{e:Type}{E':iM α e}(u:β->e)(j:∀{h q a b},E.p h q a b->E'.p h q a (u b))(x:(bE E k f).p h q s ll):(bE E' k f).p h q s (ll.map u):=by
 obtain⟨rs,a,b,c⟩:=x;refine⟨rs,a,ns,λi r l g d=>?_⟩;rw[qR]at d;cases h3:ll[i]? with
 |none=>rw[h3]at d;cases d
 |some y=>rw[h3]at d;simp at d;subst d;exact j (c i r y g h3)
end
section
variable {α β:Type} {E:iM α β} {C:Ctx} {k e t:Nat} {f:α->be} {B:aB} {h0 h h':f8} {As:List HP} {s:Sl} {ll:List β} {z:be} {by_:Nat}
theorem aa.Gw(H:aa B h0 h As)(e k:Nat)(f:α->be)(E:iM α β):aa B h0 h (As++[bX e ⟨eH,0,0⟩ k f E []]):=
 H.comp (.one (aV.refl _ _) ⟨[],λ_=>False,Own.nil h e k f,λb a=>(by obtain⟨o,a⟩:=a;cases a),λ_ a=>a.elim,rfl,λi r l h=>ld⟩)
theorem aa.Pz(H:aa B h0 h As)(i:Nat)(n:As[i]?=dB (bX e s k f E ll))(j:∀x,ii (f x)=k):dX (bE E k f) h s ll:=by obtain⟨rs,p,a,b,c,d,e⟩:=H.at i n;exact⟨rs,a.seq j λx m=>(b x m).1,d,λi r l o g=>E.mono (e i r l o g) c⟩
theorem aa.WP(H:aa B h0 h As)(i:Nat)(n:As[i]?=dB (bX e s k f E ll))(j:∀x,ii (f x)=k):aa B h0 h (As.set i (EA (bE E k f) s ll)):=
 H.fI i n λq ⟨rs,p,a,b,c,d,e⟩=>⟨rs,a.seq j λx m=>(b x m).1,d,λi r l o g=>E.mono (e i r l o g) c⟩
theorem aa.eAt{a:α}{b:β}(H:aa B h0 h As)(i:Nat)(c:As[i]?=dB (EA E a b)):dX E h a b:=H.at i c
theorem aa.XH(H:aa B h0 h As)(i:Nat)(g:As[i]?=dB (bX e s k f E ll)):s.len=ii ll/\s.len<=s.cap:=by obtain⟨rs,j,a,b,c,d,e⟩:=H.at i g;exact⟨by rw[a.len,d],a.cap⟩
theorem aa.sH(hC:C.Ok)(H:aa B h0 h As)(i j:Nat)(G:i≠j){a:α}{b:β}(hi:As[i]?=dB (bX e s k f E ll))(hj:As[j]?=dB (EA E a b))(he:bL C.toCM t e k z by_)(hz:ii z=k)(X:0<by_/\by_<=128)(hw:∀x,ii (f x)=k)
  (S:∀x,∀c∈f x,c.oneCell'=eL) {parts:Array (Nat×eX)} (M:wL (λi=>dB (i*k,k)) (iD z 1).toArray parts.toList=dB ([a].flatMap f).toArray) (W:1*k<=2^20)
  (ab:ii ll+1<=2^32) {ty:Nat} {K:Sl->f8->Prop} (hk:∀T h',aa B h0 h' ((As.set j emp).set i (bX e T k f E (ll++[b])))->K T h'):
  az C.P (qq t 1 parts) (.one (.sc .slc)) h λv o=>az C.P (qt #[t,t] ty #[.slice s.ptr s.len s.cap,.slice v.ptr v.len v.cap]) (.one (.sc .slc)) o K:=by
 have H2:=H.merge i j G hi hj (D:=⟨λh q=>∃(rs:List α) (g:aB),Own h e s k f rs/\(∀b,s.on b->q b/\¬g b)/\(∀b,g b->q b)/\rs.length=ii ll/\(∀(i:Nat) r l,rs[i]?=dB r->ll[i]?=dB l->E.p h g r l)/\E.p h g a b,
  λ⟨rs,g,a,b,c,d,e,f⟩ hp=>⟨rs,g,a.ai hp λx n=>(b x n).1,b,c,d,λi r l o A=>E.loc (e i r l o A) (hp.mono λx _ n=>c x n),E.loc f (hp.mono λx _ n=>c x n)⟩,
  λ⟨rs,g,a,b,c,d,e,f⟩ hq=>⟨rs,g,a,λx n=>⟨hq x (b x n).1,(b x n).2⟩,λx n=>hq x (c x n),d,e,f⟩⟩)
  (λg q2 hd hA hB=>by
   obtain⟨rs,q3,a,b,c,d,e'⟩:=hA;refine⟨rs,λb=>q3 b∨q2 b,a,λx n=>⟨.inl (b x n).1,λN=>N.elim (b x n).2 (hd x (b x n).1)⟩,λx n=>n.elim (λh=>.inl (c x h)) .inr,d,λi r l o A=>E.mono (e' i r l o A) λ_ h=>.inl h,E.mono hB λ_ h=>.inr h⟩)
 have w:i<ii As:=(qo.1 hi).1;obtain⟨lo,pp,c,zz,ax⟩:=H2;have ha:=ax i _ (by rw[zG (Ne.symm G),zm w]);obtain⟨rs,g,a1,a2,a3,a4,a5,a6⟩:=ha;let Y:Nat->Nat:=λb=> @ite _ (g b) (Classical.propDecidable _) (ii As+2) (c b);have J:∀b,g b->b<h.size/\c b=i+1:=a3;have ho:dl h Y (i+1) e s k f rs:=⟨a1,λb m=>by
  have:=a2 b m;show @ite _ (g b) (Classical.propDecidable _) _ _=_;rw[g0 this.2];exact this.1.2⟩
 refine ho.push hC he hz X hw S a M W i4 λT h' F L=>hk T h' ?_;rw[vC _ _ (Ne.symm G)];rw[<-yG (l:=As) (i:=i),vC _ _ G];have Q:∀b,g b->Y b≠i+1:=λb m=>by
  show @ite _ (g b) (Classical.propDecidable _) _ _≠_;rw[f9 m];omega
 refine aa.DU lo pp zz ax (L.mono λb m hn hc=>hn ⟨m,?_⟩) ⟨rs++[a],λb=>g b/\b<h.size,F.own,λb m=>?_,λb m=>⟨qM m.2 L.1,.inl ⟨m.2,(J b m.1).2⟩⟩,by simp[a4],λU r' l' o A=>?_⟩
 ·by_cases I:g b
  ·exact(J b I).2
  ·have u:@ite _ (g b) (Classical.propDecidable _) (ii As+2) (c b)=i+1:=hc;rw[g0 I]at u;exact u
 ·have y:=F.bx b m;by_cases w:b<h.size
  ·rw[fm w]at y;have O:¬g b:=λI=>Q b I y;have u:@ite _ (g b) (Classical.propDecidable _) (ii As+2) (c b)=i+1:=y;rw[g0 O]at u;exact⟨⟨F.own.lt m,.inl ⟨w,u⟩⟩,λN=>O N.1⟩
  ·exact⟨⟨F.own.lt m,.inr i4⟩,λN=>w N.2⟩
 ·have R:∀{Z:α} {l:β},E.p h g Z l->E.p h' (λb=>g b/\b<h.size) Z l:=λhs=>
   E.loc (E.mono hs (q':=λb=>g b/\b<h.size) λb m=>⟨m,(J b m).1⟩) (L.mono λb _ m=>Q b m.1)
  by_cases V:U<ii rs
  ·rw[qm V]at o;rw[qm i4]at A;exact R (a5 U r' l' o A)
  ·have:U=ii rs:=by have:=(qo.1 o).1;simp at this;omega
   subst this;simp at o;rw[a4]at A;simp at A;subst o;subst A;exact R a6
theorem aa.aiD{M:TI}(Y:C.Ok)(H:aa B h0 h As)(i j:Nat)(y:i≠j){a:α}{b:β}(O:As[i]?=dB (bX e s k f E ll))(X:As[j]?=dB (EA E a b))(R:∀x,ii (f x)=k)(ht:C.T.get t=dB M){x:Int}(n:Nat)(g:x=n)(hn:n<ii ll){val:eX}(hv:val.cells=(f a).toArray)(J:M.size=k)
  (G:(f a).all (·.oneCell')=eL) {K:f8->Prop} (hk:∀h',aa B h0 h' ((As.set j emp).set i (bX e s k f E (ll.set n b)))->K h'):
  ∃a:fz,(s.ptr=dB a/\0<=x/\x<((s.len:Nat):Int))/\ag C.P (qf t (.pointer (dB (a.add (x.toNat*k)))) val) h λ_ h'=>K h':=by
 have H2:=H.merge i j y O X (D:=⟨λh q=>∃(rs:List α) (m:aB),Own h e s k f rs/\(∀b,s.on b->q b/\¬m b)/\(∀b,m b->q b)/\rs.length=ii ll/\(∀(i:Nat) r l,rs[i]?=dB r->ll[i]?=dB l->E.p h m r l)/\E.p h m a b,
  λ⟨rs,m,a,b,c,d,e,f⟩ hp=>⟨rs,m,a.ai hp λx g=>(b x g).1,b,c,d,λi r l o u=>E.loc (e i r l o u) (hp.mono λx _ g=>c x g),E.loc f (hp.mono λx _ g=>c x g)⟩,
  λ⟨rs,m,a,b,c,d,e,f⟩ hq=>⟨rs,m,a,λx g=>⟨hq x (b x g).1,(b x g).2⟩,λx g=>hq x (c x g),d,e,f⟩⟩)
  (λm S hd hA hB=>by
   obtain⟨rs,q3,a,b,c,d,W⟩:=hA;refine⟨rs,λb=>q3 b∨S b,a,λx g=>⟨.inl (b x g).1,λhh=>hh.elim (b x g).2 (hd x (b x g).1)⟩,λx g=>g.elim (λh=>.inl (c x h)) .inr,d,λi r l o u=>E.mono (W i r l o u) λ_ h=>.inl h,E.mono hB λ_ h=>.inr h⟩)
 have L:i<ii As:=(qo.1 O).1;obtain⟨lo,pp,c,V,ax⟩:=H2;have ha:=ax i _ (by rw[zG (Ne.symm y),zm L]);obtain⟨rs,m,a1,I,a3,a4,a5,a6⟩:=ha;refine a1.set Y R ht n g i4 a hv J G λh' z w _=>hk h' ?_;rw[vC _ _ (Ne.symm y)];rw[<-yG (l:=As) (i:=i),vC _ _ y];have keep:∀{N:α} {l:β},E.p h m N l->E.p h' m N l:=λhs=>E.loc hs (w.mono λb _ v F=>(I b F).2 v);refine aa.DU lo pp V ax (w.mono λb _ v F=>v (I b F).1) ⟨rs.set n a,m,z,λb v=>⟨⟨qM (I b v).1.1 w.1,.inl (I b v).1⟩,(I b v).2⟩,λb v=>⟨qM (a3 b v).1 w.1,.inl (a3 b v)⟩,by simp[a4],λU Z Q o u=>?_⟩;rw[qY]at o u;split at o
 ·rename_i A;rw[f9 A]at u;split at o
  ·injection o with o;subst o
   have e:Q=b:=by rw[f9 i4]at u;exact(zS.inj u).symm
   subst e;exact keep a6
  ·cases o
 ·rename_i A;rw[g0 A]at u;exact keep (a5 U Z Q o u)
end
section
variable {α β:Type} {E:iM α β} {k e:Nat} {f:α->be} {B:aB} {h0 h:f8} {As:List HP} {s:Sl}
theorem aa.agN(H:aa B h0 h As)(i j:Nat)(d:i≠j){a:α}{b:β}(u:As[i]?=dB (aq e s k f [a]))(q:As[j]?=dB (EA E a b)):aa B h0 h ((As.set i (bX e s k f E [b])).set j emp):=
 H.merge i j d u q λw p v c t=>⟨[a],p,c.1,λx n=>⟨.inl (c.2 x n),v x (c.2 x n)⟩,λ_ o=>.inr o,i0,λi r l g m=>by
  cases i with
  |succ i=>simp at g
  |zero=>simp at g m;subst g;subst m;exact t⟩
theorem aa.Bq{α:Type}{f:α->be}{l:List α}(H:aa B h0 h As)(i:Nat)(c:As[i]?=dB (aq e s k f l))(b:∀x,ii (f x)=k):aa B h0 h (As.set i (EA (ct k f) s l)):=H.fI i c λ_ a=>a.1.seq b a.2
end
section
variable {α:Type} {B:aB} {h0 h:f8} {As:List HP} {e e2 k:Nat} {s:Sl} {f:α->be} {rs:List Sl} {ll:List (List α)}
theorem aa.afv(H:aa B h0 h (As++(aq e s 1 bt rs::bM e2 k f rs ll)))(w:ii rs=ii ll)(D:∀x,ii (f x)=k)(n:Nat)(K:n<=ii ll):aa B h0 h (As++[bX e ⟨s.ptr,n,s.cap⟩ 1 bt (ct k f) (ll.take n)]):=by
 classical
 obtain⟨G,p,c,z,a⟩:=H;refine⟨G,p,λb=>if c b>ii As then As.length+1 else c b,λb d=>?_,λj X g=>?_⟩
 ·have:=z b d;dsimp only;rw[g0 i4];exact this
 ·by_cases o:j<ii As
  ·rw[qm o]at g;refine X.mono (a j X (by rw[qm o];exact g)) λb d=>⟨d.1,?_⟩
   dsimp only;rw[g0 i4];exact d.2
  ·rw[qj i4]at g;have u:j=ii As:=by have:=(qo.1 g).1;simp at this;omega
   subst u;simp at g;subst g;have y:=a As.length (aq e s 1 bt rs) (by rw[qj (qn _)];simp);refine⟨rs.take n,λb=>b<h.size/\c b>ii As+1,y.1.cut (λ_=>rfl) n i4,λb d=>?_,λb d=>?_,by simp[w],λi r l m h3=>?_⟩
   ·have t:=y.2 b d;refine⟨⟨t.1,?_⟩,λJ=>i4⟩;dsimp only;rw[f9 i4]
   ·refine⟨d.1,?_⟩;dsimp only;rw[f9 i4]
   ·rw[yL]at m h3;split at m
    ·rename_i v;rw[f9 v]at h3;have A:i<ii ll:=(qo.1 h3).1;have I:=gg (e:=e2) (k:=k) (f:=f) w i A;have q:=a (ii As+(i+1)) _ (by rw[qj i4];simpa using I);have E:rs[i]'(by omega)=r:=by rw[qd i4]at m;simpa using m
     have F:ll[i]=l:=by rw[qd A]at h3;simpa using h3
     rw[E,F]at q;exact q.1.seq D λb d=>⟨(q.2 b d).1,by have:=(q.2 b d).2;omega⟩
    ·cases m
theorem aa.RK{s:Sl}{a:List (List α)}(H:aa B h0 h As)(i:Nat)(b:As[i]?=dB (gl e s k f a)):aa B h0 h (As.set i (bX e s 1 bt (ct k f) a)):=H.fI i b λ_ c=>c
end
theorem fF.toE{α:Type}{h:f8}{s:Sl}{k:Nat}{f:α->be}{b:List (List α)}(x:fF h s k f b):dX (bE (ct k f) 1 bt) h s b:=by obtain⟨rs,a⟩:=x;exact bE.agM a
theorem PA{h h':f8}{p:aB}(a:aV p h h'):∀{L:aA},L.ok h->(∀x∈L,p x.1.block)->L.ok h'
 |[],_,_=>trivial
 |x::L,hk,hq=>⟨a.cell (hq x i9) hk.1,PA a hk.2 λy b=>hq y ns⟩
theorem kf{h h':f8}(d:aV (λb=>b<h.size) h h'){L:aA}(c:L.ok h):L.ok h':=PA d c (by
 clear d
 induction L with
 |nil=>intro x a;cases a
 |cons y L ih=>
  intro x a;rcases List.mem_cons.1 a with rfl|a
  ·exact uC c.1
  ·exact ih c.2 x a)
theorem az.both{P:Program}{s:Sem eX}{h:f8}{K:Sl->f8->Prop}{Q:f8->Prop}(f:az P s (.one (.sc .slc)) h λ_ h'=>Q h')(d:az P s (.one (.sc .slc)) h K):az P s (.one (.sc .slc)) h λx h'=>Q h'/\K x h':=by intro w a;obtain⟨m,j,c,g,o,a3,a4⟩:=f w a;obtain⟨n,k,b,l,x2,i,e⟩:=d w a;rw[c]at b;cases b;exact⟨_,_,c,g,x2,i,a4,e⟩
theorem aa.oO{α:Type}{B:aB}{C:Ctx}{m h:f8}{As:List HP}{e t k c:Nat}{z:be}{K:Sl->f8->Prop}(o:C.Ok)(H:aa B m h As)(f:α->be)(r:bL C.toCM t e k z c)(d:ii z=k){n:Nat}{parts:Array (Nat×eX)}(l:List α)(q:ii l=n)(b:n*k<=2^20)
  (a:wL (λi=>dB (i*k,k)) (iD z n).toArray parts.toList=dB (l.flatMap f).toArray) {L:aA} (j:L.ok h) (g:az C.P (qq t n parts) (.one (.sc .slc)) h K):
  az C.P (qq t n parts) (.one (.sc .slc)) h λx h'=>L.ok h'/\K x h':=
 az.both ((Sp.refl h).lit o f r d l q b a λ_ _ p=>kf p.ai j) g
section
variable {B:aB} {h0 h h':f8} {As Bs:List HP} {A D E:HP} {i j:Nat}
theorem aa.front(H:aa B h0 h (As++Bs)):aa B h0 h (Bs++As):=
 H.pick (λj=>if j<ii Bs then As.length+j else if j<ii Bs+ii As then j-ii Bs else j)
  (λa b c=>by(try dsimp only at c);split at c<;>split at c<;>(try split at c)<;>(try split at c)<;>omega) λj X e=>by
  try dsimp only
  split
  ·rename_i d;rw[qm d]at e;rw[qj i4,zr];exact e
  ·rename_i d;rw[qj i4]at e;have:=(qo.1 e).1;rw[f9 i4,qm this];exact e
theorem aa.bN(H:aa B h0 h (As++[A])):aa B h0 h (A::As):=H.front
theorem aa.cD(H:aa B h0 h As)(R:Sp h h' [A]):aa B h0 h' (A::As):=(H.comp R).bN
theorem aa.back(H:aa B h0 h (A::As.set i emp))(f:i<ii As):aa B h0 h (As.set i A):=
 H.pick (λj=>if j=i then 0 else j+1) (λa b d=>by(try dsimp only at d);split at d<;>split at d<;>omega) λj X e=>by
  try dsimp only
  rw[qY]at e;split at e
  ·rename_i c;subst c
   first|rw[f9 f]at e|skip
   rw[f9 rfl];simpa using e
  ·rename_i c;rw[g0 λg=>c g.symm,qu,qY,g0 c];exact e
theorem aa.ou(H:aa B h0 h (A::As)):aa B h0 h As:=H.rest
theorem aa.pC(H:aa B h0 h (A::D::As)):aa B h0 h (A::As):=H.del 1
theorem aa.DV{ι:Type}{F:ι->HP}(H:aa B h0 h (HP.ex F::As)):∃x,aa B h0 h (F x::As):=H.XG 0 i0
theorem aa.Gx{ι:Type}{F:ι->HP}(x:ι)(H:aa B h0 h (F x::As)):aa B h0 h (HP.ex F::As):=H.close' 0 x i0
theorem aa.Gy(H:aa B h0 h (A.sep D::As)):aa B h0 h (D::A::As):=(H.split 0 i0).bN
theorem aa.ov(H:aa B h0 h (D::A::As)):aa B h0 h (A.sep D::As):=by have a:aa B h0 h (emp::A.sep D::As):=H.join 1 0 i5 i0 i0;exact a.rest
theorem aa.sV(H:aa B h0 h (A::D::As)):aa B h0 h (D::A::As):=H.aey 0 1 i0 i0
end
theorem Seq.lM{h:f8}{p:aB}{s:Sl}{rs:List Sl}(e:Seq h p s 1 bt rs){i:Int}(n:Nat)(b:i=n)(c:n<ii rs){K:Sl->Prop}(d:K rs[n]):
  ∃a:fz,(s.ptr=dB a/\0<=i/\i<((s.len:Nat):Int))/\∃x:Sl,f7 h (a.add (i.toNat*1))=dB (.slice x.ptr x.len x.cap)/\K x:=
 e.bB (g:=λr:Sl=>Value.slice r.ptr r.len r.cap) n b c rs[n] i0 d
def St(B:aB)(a:f8)(As:List HP)(Q:f8->Prop):Prop:=∀(Bs:List HP) (h':f8),aa B a h' (Bs++As)->Q h'
section
variable {B:aB} {h0 h h':f8} {As Bs:List HP} {A:HP} {Q:f8->Prop}
theorem St.at(x:St B h0 As Q)(Bs:List HP)(H:aa B h0 h (Bs++As)):Q h:=x Bs h H
theorem St.base(b:Q h0)(a:∀h',aV B h0 h'->Q h'):St B h0 As Q:=λ_ _ H=>a _ H.ai
theorem St.gI(j:Nat)(c:As[j]?=dB A)(a:∀h',A.p h' (λb=>b<h'.size)->Q h'):St B h0 As Q:=λBs h' H=>a _ (H.at (ii Bs+j) (by rw[qj i4,zr];exact c))
theorem St.cons(x:St B h0 As Q):St B h0 (A::As) Q:=λBs h' H=>x (Bs++[A]) h' (by rw[qp];exact H)
end
section
variable {β:Type} {E:iM Sl β} {h:f8} {q:aB} {s:Sl} {ll:List β}
theorem bE.aiE(x:(bE E 1 bt).p h q s ll){i:Int}(n:Nat)(k:i=n)(j:n<ii ll){K:Sl->Prop}(l:∀(a:fz) (r:Sl),s.ptr=dB a->f7 h (a.add (n*1))=dB (.slice r.ptr r.len r.cap)->E.p h q r ll[n]->K r):
  ∃a:fz,(s.ptr=dB a/\0<=i/\i<((s.len:Nat):Int))/\∃x:Sl,f7 h (a.add (i.toNat*1))=dB (.slice x.ptr x.len x.cap)/\K x:=by
 subst k;obtain⟨rs,e,m,h3⟩:=bE.kO x;obtain⟨b,o,d,e2,g⟩:=e.elem n (rs[n]'(by omega)) (qd i4);have c:=g.1;rw[add_eq,yn]at c;have f:f7 h ((⟨b,o,eH⟩:fz).add (n*1))=dB (.slice (rs[n]'(by omega)).ptr (rs[n]'(by omega)).len (rs[n]'(by omega)).cap):=by rw[add_eq];exact c
 refine⟨_,⟨d,i4,by rw[e.len];omega⟩,rs[n]'(by omega),by rw[ql];exact f,l _ _ d f (h3 n i4 j)⟩
theorem bE.pick(x:(bE E 1 bt).p h q s ll)(n:Nat)(k:n<ii ll){a:fz}{r:Sl}(l:s.ptr=dB a)(i:f7 h (a.add (n*1))=dB (.slice r.ptr r.len r.cap)):E.p h q r ll[n]:=by
 obtain⟨rs,j,m,h3⟩:=bE.kO x;obtain⟨b,o,c,e2,g⟩:=j.elem n (rs[n]'(by omega)) (qd i4);rw[l]at c;injection c with c
 subst c;have e:=g.1;rw[add_eq,yn]at e;have d:f7 h ((⟨b,o,eH⟩:fz).add (n*1))=dB (.slice (rs[n]'(by omega)).ptr (rs[n]'(by omega)).len (rs[n]'(by omega)).cap):=by rw[add_eq];exact e
 rw[i]at d;have f:=h3 n i4 k;generalize rs[n]'(by omega)=r' at d f;obtain⟨t,l1,u⟩:=r;obtain⟨v,l2,w⟩:=r';simp at d;obtain⟨rfl,rfl,rfl⟩:=d;exact f
end
theorem Gz{α:Type}{l:List α}(f:l.Nodup){a b:Nat}(e:a<ii l)(c:b<ii l)(h:l[a]=l[b]):a=b:=by
 have d:=List.pairwise_iff_getElem.1 f;rcases Nat.lt_trichotomy a b with hlt|he|hgt
 ·exact absurd h (d a b e c hlt)
 ·exact he
 ·exact absurd h.symm (d b a c e hgt)
theorem aa.ck{B:aB}{k h:f8}{As:List HP}(H:aa B k h As)(L:List Nat)(g:∀j∈L,j<ii As:=by simp)(m:L.Nodup:=by decide):aa B k h (L.map λj=>As.getD j emp):=by
 refine H.pick (λi=>if h:i<ii L then L[i]else As.length+i) (λa b c=>?_) λi A2 e=>?_
 ·try dsimp only at c
  split at c<;>split at c
  ·exact Gz m _ _ c
  ·have:=g _ (qg (l:=L) (n:=a) o1);omega
  ·have:=g _ (qg (l:=L) (n:=b) o1);omega
  ·omega
 ·try dsimp only
  rw[qR]at e;split
  ·rename_i d;rw[qd d]at e;have f:=g _ (qg d);simp only[qQ,zS.injEq]at e;rw[<-e,qe,qd f];rfl
  ·rename_i d;rw[qZ i4]at e;simp at e
theorem St.mk'{B:aB}{a:f8}{As:List HP}{Q:f8->Prop}(x:∀h',aa B a h' As->Q h'):St B a As Q:=λBs h' H=>x h' (H.take Bs.length λi A b=>by
 rw[qj i4,zr];exact b)
theorem St.mono{B:aB}{b:f8}{As:List HP}{Q a:f8->Prop}(x:St B b As Q)(c:∀h,Q h->a h):St B b As a:=λBs h' H=>c _ (x Bs h' H)
theorem St.and{B:aB}{a:f8}{As:List HP}{Q b:f8->Prop}(x:St B a As Q)(y:St B a As b):St B a As λh=>Q h/\b h:=λBs h' H=>⟨x Bs h' H,y Bs h' H⟩
theorem aa.bs{B:aB}{g h:f8}{As:List HP}(H:aa B g h As)(k:Nat)(L:List Nat)(p:k<=ii As:=by simp)(f:∀j∈L,j<k:=by simp)(o:L.Nodup:=by decide):aa B g h (L.map (λj=>As.getD j emp)++As.drop k):=by
 refine H.pick (λi=>if h:i<ii L then L[i]else k+(i-ii L)) (λa b d=>?_) λi A2 e=>?_
 ·try dsimp only at d
  split at d<;>split at d
  ·exact Gz o _ _ d
  ·have:=f _ (qg (l:=L) (n:=a) o1);omega
  ·have:=f _ (qg (l:=L) (n:=b) o1);omega
  ·omega
 ·try dsimp only
  by_cases c:i<ii L
  ·rw[dif_pos c];rw[qm o6,qR,qd c]at e;have m:=f _ (qg c);simp only[qQ,zS.injEq]at e;rw[<-e,qe,qd i4];rfl
  ·rw[dif_neg c];rw[qj o6,List.length_map,wC]at e;exact e
section
variable {α β:Type} {E:iM α β} {C:Ctx} {k e t by_:Nat} {f:α->be} {B:aB} {h0 h h':f8} {As:List HP} {q:aB} {s:Sl} {rs:List α} {ll:List β} {ti:TI} {z:be}
def Fix(E:iM α β)(k:Nat)(f:α->be)(h:f8)(q:aB)(s:Sl)(rs:List α)(a:List β):Prop:=Seq h q s k f rs/\rs.length=ii a/\∀(i:Nat) r l,rs[i]?=dB r->a[i]?=dB l->E.p h q r l
theorem Fix.ai(x:Fix E k f h q s rs ll)(a:aV q h h'):Fix E k f h' q s rs ll:=⟨x.1.ai a,x.2.1,λi r l c b=>E.loc (x.2.2 i r l c b) a⟩
theorem Fix.mono{q':aB}(x:Fix E k f h q s rs ll)(a:∀b,q b->q' b):Fix E k f h q' s rs ll:=⟨x.1.mono a,x.2.1,λi r l d c=>E.mono (x.2.2 i r l d c) a⟩
abbrev nU(E:iM α β)(k:Nat)(f:α->be)(h:f8)(s:Sl)(rs:List α)(a:List β):Prop:=Fix E k f h (λb=>b<h.size) s rs a
theorem nU.up(x:nU E k f h s rs ll)(a:aV (λb=>b<h.size) h h'):nU E k f h' s rs ll:=(Fix.ai x a).mono λ_ c=>qM c a.1
theorem Fix.row(x:Fix E k f h q s rs ll){i:Nat}(a:i<ii ll):E.p h q (rs[i]'(by rw[x.2.1];exact a)) ll[i]:=x.2.2 i _ _ (qd _) (qd _)
theorem bE.fix(x:(bE E k f).p h q s ll):∃rs,Fix E k f h q s rs ll:=x
theorem Fix.elt(x:Fix E k f h q s rs ll):(bE E k f).p h q s ll:=⟨rs,x⟩
def cK(E:iM α β)(k:Nat)(f:α->be)(s:Sl)(rs:List α)(a:List β):HP:=⟨λh q=>Fix E k f h q s rs a,λx c=>x.ai c,λx b=>x.mono b⟩
theorem aa.Oe(H:aa B h0 h As)(i:Nat)(m:As[i]?=dB (bX e s k f E ll))(o:∀x,ii (f x)=k):∃rs,aa B h0 h (As.set i (cK E k f s rs ll)):=by
 have g:i<ii As:=(qo.1 m).1;have u:aa B h0 h (As.set i (HP.ex λrs=>cK E k f s rs ll)):=H.fI i m λq ⟨rs,v,a,b,c,d,e⟩=>⟨rs,a.seq o λx p=>(b x p).1,d,λi r l t n=>E.mono (e i r l t n) c⟩
 obtain⟨rs,j⟩:=u.XG i (zm g);exact⟨rs,by rw[yG]at j;exact j⟩
theorem aa.eG(H:aa B h0 h As)(i:Nat)(a:As[i]?=dB (cK E k f s rs ll)):nU E k f h s rs ll:=H.at i a
theorem aa.GA(f:C.Ok)(H:aa B h0 h As)(d:C.T.get t=dB ti){K:fz->f8->Prop}(e:∀a h',aV (λb=>b<h.size) h h'->aa B h0 h' (As++[aw a t ti.zero])->K a h'):
  aU C.P (qK t eL (.tuple #[])) h K:=
 Bo f d λa h' x y c _=>e a h' (c.mono λ_ _ _=>trivial) (H.comp (Oc x y c))
theorem aa.LF(r:C.Ok)(H:aa B h0 h As)(f:α->be)(A:bL C.toCM t e k z by_)(i:0<by_/\by_<=128)(d:α)(q:f d=z)(j:ii z=k){E D:IntKind}{n p:Int}(m c:Nat)(v:n=m)(s:p=c)(g:m<=c)(l:c<=2^32)
  {K:Sl->f8->Prop} (u:∀a h',a.len=m->aV (λb=>b<h.size) h h'->aa B h0 h' (As++[aq e a k f (qh m d)])->K a h'):
  az C.P (qF t (.int E n) (.int D p)) (.one (.sc .slc)) h K:=
 run_make r A i d q j m c v s g l λa h' x y w o _=>u a h' (by rw[x.len];simp) (o.mono λ_ _ _=>trivial) (H.comp (Ob i0 x y o))
end
section
variable {α:Type} {C:Ctx} {B:aB} {h0 h:f8} {As:List HP} {e t k:Nat} {s:Sl} {f:α->be} {l:List α} {i:TI}
theorem Own.acF(A:C.Ok)(q:Own h e s k f l)(v:∀x,ii (f x)=k)(J:C.T.get t=dB i){x:Int}(n:Nat)(B:x=n)(r:n<ii l)(j:Nat)(vs:be)(L:j+ii vs<=k){val:eX}(y:α)(D:val.cells=vs.toArray)(u:i.size=ii vs)
  (m:vs.all (·.oneCell')=eL) (I:f y=(f l[n]).take j++vs++(f l[n]).drop (j+ii vs)) {K:f8->Prop} (F:∀h',Own h' e s k f (l.set n y)->aV (λb=>¬s.on b) h h'->K h'):
  ∃a:fz,(s.ptr=dB a/\0<=x/\x<((s.len:Nat):Int))/\ag C.P (qf t (.pointer (dB ((a.add (x.toNat*k)).add j))) val) h λ_ h'=>K h':=by
 subst B;rcases q.head with⟨_,_,h3⟩|⟨b,rest,h1,h2,h3,h4⟩
 ·subst h3;simp at r
 ·refine⟨_,⟨h1,i4,by rw[q.len];omega⟩,?_⟩;unfold qf;refine ag.bind (ag.pure' ?_);unfold storeVar;refine ag.bind (ag.always (dm A.toOk J) ?_);rw[D,u];simp only[wO,ne_eq,not_true,if_false];rw[add_eq,add_eq,zQ,ql];have g:l=l.take n++l[n]::l.drop (n+1):=by rw[<-qV r,qA]
  have o:l.set n y=l.take n++y::l.drop (n+1):=yj.trans (f9 r);have p:ii ((l.take n).flatMap f)=n*k:=by rw[cQ v,qU,wX i4]
  have G:=v l[n];have d:f l[n]=(f l[n]).take j++((f l[n]).drop j).take vs.length++(f l[n]).drop (j+ii vs):=by rw[qp,<-zE,qA,qA]
  refine dp (e:=e) (pre:=(l.take n).flatMap f++(f l[n]).take j) (old:=((f l[n]).drop j).take vs.length) (post:=(f l[n]).drop (j+ii vs)++((l.drop (n+1)).flatMap f++rest)) ?_ ?_ ?_ ?_ ?_
  ·have:l.flatMap f++rest=(l.take n).flatMap f++(f l[n]).take j++((f l[n]).drop j).take vs.length++((f l[n]).drop (j+ii vs)++((l.drop (n+1)).flatMap f++rest)):=by
    have w:=congrArg (List.flatMap f) g;rw[zg,zl]at w;rw[w];generalize f l[n]=z at d;rw[qp]at d;simp only[qp];congr 1
    conv=>lhs;rw[d]
    simp only[qp]
   rw[<-this];exact h2
  ·simp;omega
  ·rw[qx,p,qU];omega
  ·intro c E;exact qL.1 m c E
  ·refine F _ ⟨by rw[zj];exact q.len,.inr ⟨b,rest,h1,?_,h3,h4⟩⟩ (aV.gC h2 λH=>H ⟨0,h1⟩);rw[fW h2,f9 i0,o,zg,zl,I];simp[qp]
theorem aa.acF(p:C.Ok)(H:aa B h0 h As)(d:Nat)(c:As[d]?=dB (aq e s k f l))(m:∀x,ii (f x)=k)(A:C.T.get t=dB i){x:Int}(n:Nat)(q:x=n)(v:n<ii l)(j:Nat)(vs:be)(o:j+ii vs<=k){val:eX}(y:α)(r:val.cells=vs.toArray)(g:i.size=ii vs)
  (b:vs.all (·.oneCell')=eL) (u:f y=(f l[n]).take j++vs++(f l[n]).drop (j+ii vs)) {K:f8->Prop} (D:∀h',aa B h0 h' (As.set d (aq e s k f (l.set n y)))->K h'):
  ∃a:fz,(s.ptr=dB a/\0<=x/\x<((s.len:Nat):Int))/\ag C.P (qf t (.pointer (dB ((a.add (x.toNat*k)).add j))) val) h λ_ h'=>K h':=
 (H.own d c).acF p m A n q v j vs o y r g b u λh' z w=>D h' (H.kX d c w z)
end
def HP.all:List HP->HP
 |[]=>emp
 |A::L=>A.sep (HP.all L)
section
variable {B:aB} {h0 h h':f8} {As L:List HP} {A D E:HP}
theorem aa.uY:∀{L:List HP} {As:List HP},aa B h0 h (HP.all L::As)->aa B h0 h (L++As)
 |[],_,H=>H.rest
 |A::L,As,H=>by
  have f:aa B h0 h (HP.all L::A::As):=H.Gy;have e:=aa.uY f;exact e.pick (λi=>if i=0 then L.length else if i<=ii L then i-1 else i) (λa b c=>by(try dsimp only at c);split at c<;>split at c<;>(try split at c)<;>(try split at c)<;>omega) λi X d=>by
   try dsimp only
   rw[zt]at d;cases i with
   |zero=>simp at d;subst d;rw[f9 i0,qj (qn _),zc];rfl
   |succ i=>
    rw[qu]at d;rw[g0 i4];by_cases g:i<ii L
    ·rw[qm g]at d;rw[f9 i4,qm i4];simpa using d
    ·rw[qj i4]at d;rw[g0 i4,qj i4];rw[show i+1-ii L=(i-ii L)+1 by omega,qu];exact d
theorem aa.closeAll:∀(L:List HP) {As:List HP},aa B h0 h (L++As)->aa B h0 h (HP.all L::As)
 |[],As,H=>((H.comp (.one (A:=emp) (aV.refl _ _) trivial)).bN:aa B h0 h (emp::As))
 |A::L,As,H=>by
  have g:aa B h0 h (L++(A::As)):=H.pick (λi=>if i<ii L then i+1 else if i=ii L then 0 else i) (λa b c=>by(try dsimp only at c);split at c<;>split at c<;>(try split at c)<;>(try split at c)<;>omega) λi X d=>by
   try dsimp only
   by_cases e:i<ii L
   ·rw[qm e]at d;rw[f9 e,zt,qu,qm e];exact d
   ·rw[qj i4]at d;by_cases f:i=ii L
    ·subst f;rw[zc]at d;rw[g0 i4,f9 rfl];simpa using d
    ·rw[g0 e,g0 f,zt];obtain⟨j,rfl⟩:∃j,i=ii L+(j+1):=⟨i-ii L-1,i4⟩
     rw[zr,qu]at d;rw[show L.length+(j+1)=(ii L+j)+1 by omega,qu,qj i4,zr];exact d
  exact(aa.closeAll L g).ov
theorem aa.Ku{P:Prop}(H:aa B h0 h (A.and P::As)):aa B h0 h (A::As)/\P:=⟨H.aez 0 i0,H.fact 0 i0⟩
theorem aa.toKu{P:Prop}(H:aa B h0 h (A::As))(p:P):aa B h0 h (A.and P::As):=H.ail 0 i0 p
end
def gy{α:Type}(e:TypeId)(s:Sl)(b:TypeId)(k:Nat)(f:α->be)(a:List (List α)):HP:=
 HP.ex λrs:List Sl=>(HP.all (aq e s 1 bt rs::bM b k f rs a)).and (ii rs=ii a)
section
variable {α:Type} {C:Ctx} {B:aB} {h0 h h':f8} {As:List HP} {e e2 k t by_:Nat} {s:Sl} {f:α->be} {ll:List (List α)}
theorem aa.IQ(H:aa B h0 h (gy e s e2 k f ll::As)):∃rs:List Sl,ii rs=ii ll/\aa B h0 h ((aq e s 1 bt rs::bM e2 k f rs ll)++As):=by obtain⟨rs,H⟩:=H.DV;obtain⟨H,a⟩:=H.Ku;exact⟨rs,a,H.uY⟩
theorem aa.LG{rs:List Sl}(a:ii rs=ii ll)(H:aa B h0 h ((aq e s 1 bt rs::bM e2 k f rs ll)++As)):aa B h0 h (gy e s e2 k f ll::As):=
 ((aa.closeAll _ H).toKu a).Gx (F:=λrs:List Sl=>(HP.all (aq e s 1 bt rs::bM e2 k f rs ll)).and (ii rs=ii ll)) rs
theorem aa.xT(H:aa B h0 h As)(e a k:Nat)(f:α->be):aa B h0 h (gy e ⟨eH,0,0⟩ a k f []::As):=
 aa.LG (rs:=[]) i0 ((H.nil e 1 bt).bN)
theorem aa.Ss{Bs:List HP}(H:aa B h0 h (As++Bs)):aa B h0 h As:=H.pick id (λ_ _ h=>h) λi A a=>by
 rw[id,qm (qo.1 a).1];exact a
theorem aa.LH(H:aa B h0 h (gy e s e2 k f ll::As))(a:∀x,ii (f x)=k):fF h s k f ll:=by obtain⟨rs,b,H⟩:=H.IQ;exact aa.Sq (aa.Ss H) b a
theorem aa.xU(H:aa B h0 h (gy e s e2 k f ll::As)):s.len=ii ll/\s.len<=s.cap:=by obtain⟨rs,a,H⟩:=H.IQ;exact⟨by rw[(H.own 0 i0).len,a],(H.own 0 i0).cap⟩
theorem aa.DW(d:C.Ok){r:Sl}{x:List α}(H:aa B h0 h (gy e s e2 k f ll::aq e2 r k f x::As))(l:bL C.toCM t e 1 [.slice eH 0 0] 24)(j:ii ll+1<=2^32){ty:Nat}{K:Sl->f8->Prop}
  (m:∀a h',aa B h0 h' (gy e a e2 k f (ll++[x])::As)->K a h'):
  az C.P (qq t 1 #[(0,.slice r.ptr r.len r.cap)]) (.one (.sc .slc)) h λv i=>az C.P (qt #[t,t] ty #[.slice s.ptr s.len s.cap,.slice v.ptr v.len v.cap]) (.one (.sc .slc)) i K:=by
 obtain⟨rs,c,H⟩:=H.IQ;refine H.push d 0 i0 l i0 i5 (λ_=>rfl) iU r i0 i5 i4 λa h' b=>m a h' ?_;refine aa.LG (rs:=rs++[r]) n7 ?_;rw[xS c];have b:aa B h0 h' (aq e a 1 bt (rs++[r])::(bM e2 k f rs ll++aq e2 r k f x::As)):=b;have g:aq e a 1 bt (rs++[r])::(bM e2 k f rs ll++[aq e2 r k f x])++As=aq e a 1 bt (rs++[r])::(bM e2 k f rs ll++aq e2 r k f x::As):=i9
 rw[g];exact b
end
end Go.Vc
namespace Gf
theorem acG{p:UInt8->Prop}(h:∀n,n<256->p (UInt8.ofNat n))(a:UInt8):p a:=by
 have:=h a.toNat (UInt8.toNat_lt a)
 rwa [UInt8.ofNat_toNat]at this
def x2(a:UInt8):UInt8:=(a<<<1)^^^(if a&&&0x80=0 then 0 else 0x1b)
def x3(a:UInt8):UInt8:=x2 a^^^a
def pw:Nat->UInt8
 |0=>1
 |n+1=>x3 (pw n)
theorem afw(a b c:UInt8):(a^^^b)&&&c=(a&&&c)^^^(b&&&c):=by apply UInt8.toBitVec_inj.1;simp[UInt8.toBitVec_xor,UInt8.toBitVec_and];ext i hi;simp[Bool.and_xor_distrib_right]
theorem afx(a b:UInt8):(a^^^b)<<<1=(a<<<1)^^^(b<<<1):=by apply UInt8.toBitVec_inj.1;simp[UInt8.toBitVec_xor,UInt8.toBitVec_shiftLeft,BitVec.shiftLeft_xor_distrib]
theorem Su:∀a:UInt8,a&&&0x80=0∨a&&&0x80=0x80:=acG j4
theorem acH(a b c d:UInt8):(a^^^b)^^^(c^^^d)=(a^^^c)^^^(b^^^d):=by ac_rfl
theorem agO(a b:UInt8):x2 (a^^^b)=x2 a^^^x2 b:=by
 unfold x2;rw[afw,afx];rcases Su a with ha|ha<;>rcases Su b with hb|hb<;>rw[ha,hb]
 ·simp
 ·simp[UInt8.xor_assoc]
 ·rw[acH];simp
 ·rw[acH];simp
theorem agP(a b:UInt8):x3 (a^^^b)=x3 a^^^x3 b:=by unfold x3;rw[agO,acH]
def xV:Nat->UInt8->UInt8
 |0,a=>a
 |n+1,a=>x3 (xV n a)
theorem WQ(a b:UInt8):∀n,xV n (a^^^b)=xV n a^^^xV n b
 |0=>rfl
 |n+1=>by simp only[xV,WQ a b n,agP]
theorem Of(a:UInt8)(m:Nat):∀n,xV (n+m) a=xV n (xV m a)
 |0=>by simp[xV]
 |n+1=>by rw[Nat.add_right_comm];simp only[xV,Of a m n]
theorem Sv:∀n,xV n 0=0
 |0=>rfl
 |n+1=>by rw[xV,Sv n];rfl
theorem CP:∀n,pw n=xV n 1
 |0=>rfl
 |n+1=>by rw[pw,xV,CP n]
def aiF:Nat:=939374623831894136699086600277250597547650664638770418422125146541797353646788332867483593573384618611044815625336497665827114626705134492515730415652478061620339993830966980270842846318821775850471098591710629241171812800746666233448222972174585295916389942636813666312872914849454985560152530477328703759683306625234997237483834721220409437442253146756845415190424543171129629468776480674528486868811725071010351012234056630775688111116293610821126543142160426617079940511630006820862697466582575257349116925728488930366609138264019883664906661504235885380294353134295748489096855100647154935187045898006656778240
def lg(a:UInt8):Nat:=(aiF>>>(8*a.toNat))%256
theorem LI:∀a:UInt8,lg a<255:=acG j4
theorem XI:∀a:UInt8,a≠0->pw (lg a)=a:=acG j4
theorem XJ:∀n,n<255->lg (pw n)=n:=j4
theorem agQ:pw 255=1:=j4
theorem XK:∀n,n<255->pw n≠0:=j4
theorem ZM(n:Nat):pw (n+255)=pw n:=by rw[CP,Of,<-CP 255,agQ,<-CP]
theorem ZN(n:Nat):pw (n%255)=pw n:=by
 have:∀k m,pw (m+255*k)=pw m:=by
  intro k
  induction k with
  |zero=>intro m;rfl
  |succ k ih=>intro m;rw[Nat.mul_succ,<-w9,ZM,ih]
 have h:=this (n/255) (n%255);rw[Nat.mod_add_div]at h;exact h.symm
def mul(a b:UInt8):UInt8:=if a=0∨b=0 then 0 else pw ((lg a+lg b)%255)
def inv(a:UInt8):UInt8:=if a=0 then 0 else pw ((255-lg a)%255)
theorem mul_zero(a:UInt8):mul a 0=0:=by simp[mul]
theorem zero_mul(a:UInt8):mul 0 a=0:=by simp[mul]
theorem mul_comm(a b:UInt8):mul a b=mul b a:=by
 unfold mul;rw[Nat.add_comm];by_cases h:a=0∨b=0
 ·rw[f9 h,f9 h.symm]
 ·rw[g0 h,g0 λx=>h x.symm]
theorem Sw(a b:UInt8)(d:a≠0):mul a b=xV (lg a) b:=by
 by_cases c:b=0
 ·subst c;rw[mul_zero,Sv]
 ·rw[mul,g0 (by simp[d,c]),ZN,CP,Of,<-CP,XI b c]
theorem jV(a b c:UInt8):mul a (b^^^c)=mul a b^^^mul a c:=by
 by_cases d:a=0
 ·subst d;simp[zero_mul]
 ·rw[Sw _ _ d,Sw _ _ d,Sw _ _ d,WQ]
theorem WR(a b c:UInt8):mul (a^^^b) c=mul a c^^^mul b c:=by rw[mul_comm,jV,mul_comm c a,mul_comm c b]
theorem ZO{a b:UInt8}(d:a≠0)(c:b≠0):mul a b≠0:=by rw[mul,g0 (by simp[d,c])];exact XK _ (y7 _ i5)
theorem ZP{a b:UInt8}(d:a≠0)(c:b≠0):lg (mul a b)=(lg a+lg b)%255:=by rw[mul,g0 (by simp[d,c]),XJ _ (y7 _ i5)]
theorem mul_assoc(a b c:UInt8):mul (mul a b) c=mul a (mul b c):=by
 by_cases f:a=0
 ·subst f;simp[zero_mul]
 by_cases d:b=0
 ·subst d;simp[zero_mul,mul_zero]
 by_cases e:c=0
 ·subst e;simp[mul_zero]
 rw[mul,g0 (by simp[ZO f d,e]),ZP f d,mul,g0 (by simp[f,ZO d e]),ZP d e];congr 1;omega
theorem agR:lg 1=0:=j4
theorem one_mul(a:UInt8):mul 1 a=a:=by
 by_cases b:a=0
 ·subst b;rfl
 ·rw[mul,g0 ns,agR,zQ,ZN,XI a b]
theorem mul_one(a:UInt8):mul a 1=a:=by rw[mul_comm,one_mul]
theorem agS{a:UInt8}(b:a≠0):inv a≠0:=by rw[inv,g0 b];exact XK _ (y7 _ i5)
theorem Og{a:UInt8}(b:a≠0):mul a (inv a)=1:=by
 have c:=LI a;rw[mul,g0 (by simp[b,agS b]),inv,g0 b,XJ _ (y7 _ i5)];have:(lg a+(255-lg a)%255)%255=0:=i4
 rw[this];rfl
end Gf
