/- Lemmas for the proof of the law; no condition. -/
import Derived.Test.YtdibhfbogjngkaaGreatDoorVcA
import Derived.Sort.Grow
import Derived.Lib.SlicesCompact
import Derived.Lib.RowBridge
set_option linter.unusedVariables false
set_option linter.unusedSimpArgs false
open Nat renaming lt_trichotomy -> w9, min_eq_left -> yu
open Array renaming ext' -> yq, getElem?_eq_some_iff -> yz, range -> vS, toList_map -> vH
open List renaming exists_mem_of_ne_nil -> vi, filter_cons_of_pos -> yW, getElem?_cons_zero -> yU, getElem?_mapIdx -> ve, getElem?_take -> y5, mem_or_eq_of_mem_set -> wh, range -> qx, replicate -> qg, set_comm -> vl, set_eq_take_append_cons_drop -> wZ, take_left -> vR, take_zero -> vz, zipWith -> zh
open Go.Value renaming int -> xb
open Go.IntKind renaming bits -> qk, i64 -> xi, signed -> yV, u32 -> xk, u64 -> xl, u8 -> xj, wrap -> qc
open Go.Builtin renaming append_ -> qu, clear_ -> yS, copy_ -> w5, firstCells -> wy, nextslicecap -> vb, zeroCells -> yn
open Go.Instr renaming alloc -> qO, box -> qN, buildSlice -> qq, fill -> wq, makeSlice -> qG, storeAt -> qf
open Int renaming fdiv -> q9, fdiv_eq_ediv_of_nonneg -> vf, tmod -> wg
open Option renaming some -> zS
open UInt8 renaming lt_iff_toNat_lt -> zV, ofNat -> yy
open Prod renaming fst -> qM
open BitVec renaming ofInt -> qF, ofNat_toNat -> vu, setWidth_eq -> vw
set_option maxRecDepth 100000
open Option renaming some -> dB, none -> eH
open Bool renaming true -> eR, false -> eS
open Go renaming Value -> eX, Addr -> hU
open Go.Vc renaming cellOf -> hY, Heap -> hZ
open List renaming length -> j9
namespace Go.Vc
open Go
section
variable {A B:Prop}
theorem ai{p:Prop}[Decidable p](a:p->A)(b:¬p->B):Br (decide p) A B:=by
 by_cases h:p
 ·rw[j6 h];exact a h
 ·rw[j7 h];exact b h
theorem dD{a b:Int}(d:a=b->A)(c:a≠b->B):Br (a==b) A B:=by
 by_cases h:a=b
 ·rw[beq_iff_eq.2 h];exact d h
 ·rw[beq_eq_false_iff_ne.2 h];exact c h
theorem bR{a b:Int}(d:a≠b->A)(c:a=b->B):Br (a !=b) A B:=by
 by_cases h:a=b
 ·rw[show(a !=b)=eS by simp[h]];exact c h
 ·rw[show(a !=b)=eR by simp[h]];exact d h
theorem bQ{b:Bool}(a:b=eR->A)(c:b=eS->B):Br b A B:=by
 cases b
 ·exact c k0
 ·exact a k0
theorem bj{b:Bool}(a:b=eS->A)(c:b=eR->B):Br (!b) A B:=by
 cases b
 ·exact a k0
 ·exact c k0
theorem FX{b:Bool}(h:b=eR)(a:A):Br b A B:=by subst h;exact a
theorem xH{b:Bool}(h:b=eS)(a:B):Br b A B:=by subst h;exact a
end
theorem bi{σ:Type}{rest:σ->hZ->Prop}{B:(σ->hZ->Prop)->Prop}(h:B rest):bg rest B:=⟨rest,λ_ _ x=>x,h⟩
theorem bO{σ:Type}{rest:σ->hZ->Prop}{B:(σ->hZ->Prop)->Prop}(R:σ->hZ->Prop)(b:B R)(a:∀s h,R s h->rest s h):bg rest B:=⟨R,a,b⟩
theorem aw{σ:Type}{B:σ->(σ->hZ->Prop)->hZ->Prop}{s:σ}{h:hZ}{τ:Type}(V:τ->σ)(I:τ->hZ->Prop)(μ:τ->Nat)(t0:τ)(e:s=V t0)(c:I t0 h)
  (b:∀t h,I t h->B (V t) (λd h'=>∃a,d=V a/\I a h'/\μ a<μ t) h):aJ B s h:=⟨τ,V,I,μ,t0,e,c,b⟩
abbrev aB:=Nat->Prop
def aX(p:aB)(h h':hZ):Prop:=h.size<=h'.size/\∀b,b<h.size->p b->h'[b]?=h[b]?
def Sl.on(s:Sl)(b:Nat):Prop:=∃o,s.ptr=dB ⟨b,o,eH⟩
section
variable {p q:aB} {h h' h'':hZ}
theorem aX.refl(p:aB)(h:hZ):aX p h h:=⟨ql _,λ_ _ _=>rfl⟩
theorem aX.trans(a:aX p h h')(b:aX p h' h''):aX p h h'':=⟨zf a.1 b.1,λk d c=>(b.2 k (q7 d a.1) c).trans (a.2 k d c)⟩
theorem aX.then(a:aX p h h')(b:aX q h' h'')(e:∀k,k<h.size->p k->q k):aX p h h'':=⟨zf a.1 b.1,λk c d=>(b.2 k (q7 c a.1) (e k c d)).trans (a.2 k c d)⟩
theorem aX.mono(a:aX p h h')(d:∀b,b<h.size->q b->p b):aX q h h':=⟨a.1,λk c e=>a.2 k c (d k c e)⟩
theorem aX.push(p:aB)(h:hZ)(o:Obj):aX p h (h.push o):=⟨k9,λb a _=>by rw[Array.getElem?_push,j3 k4]⟩
theorem uK{a:hU}{v:eX}(b:hY h a=dB v):a.block<h.size:=by
 unfold hY at b;cases hb:h[a.block]? with
 |none=>rw[hb]at b;cases b
 |some o=>exact(yz.1 hb).1
theorem lt_of_block{b:Nat}{o:Obj}(a:h[b]?=dB o):b<h.size:=(yz.1 a).1
theorem aX.cell(a:aX p h h'){x:hU}{v:eX}(c:p x.block)(b:hY h x=dB v):hY h' x=dB v:=by have:=a.2 _ (uK b) c;unfold hY at*;rw[this];exact b
theorem aX.block(a:aX p h h'){b:Nat}{o:Obj}(d:p b)(c:h[b]?=dB o):h'[b]?=dB o:=by rw[a.2 b (lt_of_block c) d];exact c
theorem aX.cells(a:aX p h h'){x:hU}(b:p x.block):∀{vs:ba} {i:Nat},an h x i vs->an h' x i vs
 |[],_,_=>trivial
 |v::r,i,hc=>⟨a.cell (by unfold Addr.add;split<;>exact b) hc.1,aX.cells a b hc.2⟩
end
theorem add_eq(b o n:Nat):(⟨b,o,eH⟩:hU).add n=⟨b,o+n,eH⟩:=by
 unfold Addr.add;split
 ·rename_i h;subst h;rfl
 ·rfl
theorem add_zero(a:hU):a.add 0=a:=rfl
theorem DL{h:hZ}{b o:Nat}{c:Array eX}{e:TypeId}{f:Nat×Nat}(a:h[b]?=dB (.cells c e f)):hY h ⟨b,o,eH⟩=c[o]?:=by unfold hY;rw[a];rfl
theorem acC{h:hZ}{b o:Nat}{c:Array eX}{e:TypeId}(a:h[b]?=dB (.cells c e (0,0))):Xd h ⟨b,o,eH⟩=eS:=by unfold Xd;rw[a];simp
structure Seq {α:Type} (h:hZ) (p:aB) (s:Sl) (k:Nat) (f:α->ba) (l:List α):Prop where
 len:s.len=j9 l
 elem:∀i x,l[i]?=dB x->∃b o,s.ptr=dB ⟨b,o,eH⟩/\p b/\an h ⟨b,o+i*k,eH⟩ 0 (f x)
section
variable {α:Type} {h h':hZ} {p q:aB} {s:Sl} {k:Nat} {f:α->ba} {l:List α}
theorem Seq.aj(c:Seq h p s k f l)(g:aX p h h'):Seq h' p s k f l:=⟨c.len,λi x d=>by
 obtain⟨b,o,e,a,h3⟩:=c.elem i x d;exact⟨b,o,e,a,g.cells a h3⟩⟩
theorem Seq.mono(a:Seq h p s k f l)(g:∀b,p b->q b):Seq h q s k f l:=⟨a.len,λi x d=>by
 obtain⟨b,o,e,c,h3⟩:=a.elem i x d;exact⟨b,o,e,g b c,h3⟩⟩
theorem Seq.nil(h:hZ)(p:aB)(c:Nat)(a:aQ)(k:Nat)(f:α->ba):Seq h p ⟨a,0,c⟩ k f []:=⟨k0,λi x b=>by simp at b⟩
theorem Seq.bC{X:Type}{g:X->eX}(c:Seq h p s 1 f l){i:Int}(n:Nat)(e:i=n)(d:n<j9 l)(x:X)(j:f l[n]=[g x]){K:X->Prop}(m:K x):
  ∃a:hU,(s.ptr=dB a/\0<=i/\i<((s.len:Nat):Int))/\∃x:X,hY h (a.add (i.toNat*1))=dB (g x)/\K x:=by
 subst e;obtain⟨b,o,k,_,h3⟩:=c.elem n l[n] (qd d);refine⟨_,⟨k,k4,by rw[c.len];omega⟩,x,?_,m⟩;rw[j]at h3;have:=h3.1;rw[add_eq,wO]at this;rw[add_eq];simpa using this
theorem Seq.ey{X:Type}{g:X->ba}(c:Seq h p s k f l){i:Int}(n:Nat)(e:i=n)(d:n<j9 l)(x:X)(j:f l[n]=g x){K:X->Prop}(q:K x):
  ∃a:hU,(s.ptr=dB a/\0<=i/\i<((s.len:Nat):Int))/\∃x:X,an h (a.add (i.toNat*k)) 0 (g x)/\K x:=by
 subst e;obtain⟨b,o,m,_,h3⟩:=c.elem n l[n] (qd d);refine⟨_,⟨m,k4,by rw[c.len];omega⟩,x,?_,q⟩;rw[add_eq];rw[j]at h3;simpa using h3
end
def aq(n:Int):ba:=[xb xi n]
def aD(n:UInt8):ba:=[xb xj n.toNat]
def fi(b:Bool):ba:=[.bool b]
def bo(s:Sl):ba:=[.slice s.ptr s.len s.cap]
structure iC {α:Type} (h:hZ) (p:aB) (s:Sl) (k:Nat) (f:α->ba) (ll:List (List α)) (rs:List Sl):Prop where
 top:Seq h p s 1 bo rs
 len:j9 rs=j9 ll
 row:∀(i:Nat) (r:Sl) (l:List α),rs[i]?=dB r->ll[i]?=dB l->Seq h p r k f l
section
variable {α:Type} {h h':hZ} {p q:aB} {s:Sl} {k:Nat} {f:α->ba} {ll:List (List α)} {rs:List Sl}
theorem iC.aj(a:iC h p s k f ll rs)(b:aX p h h'):iC h' p s k f ll rs:=⟨a.top.aj b,a.len,λi r l d c=>(a.row i r l d c).aj b⟩
theorem iC.mono(a:iC h p s k f ll rs)(c:∀b,p b->q b):iC h q s k f ll rs:=⟨a.top.mono c,a.len,λi r l e d=>(a.row i r l e d).mono c⟩
theorem iC.RH(a:iC h p s k f ll rs):s.len=j9 ll:=by rw[a.top.len,a.len]
theorem iC.get(c:iC h p s k f ll rs){i:Int}(n:Nat)(g:i=n)(d:n<j9 ll){K:Sl->Prop}(j:∀r,Seq h p r k f ll[n]->rs[n]?=dB r->K r):
  ∃a:hU,(s.ptr=dB a/\0<=i/\i<((s.len:Nat):Int))/\∃x:Sl,hY h (a.add (i.toNat*1))=dB (.slice x.ptr x.len x.cap)/\K x:=by
 have b:n<j9 rs:=by rw[c.len];exact d
 have e:rs[n]?=dB rs[n]:=qd b;exact c.top.bC n g b rs[n] k0 (j _ (c.row n _ _ e (qd d)) e)
end
structure Own {α:Type} (h:hZ) (e:TypeId) (s:Sl) (k:Nat) (f:α->ba) (l:List α):Prop where
 len:s.len=j9 l
 head:(s.ptr=eH/\s.cap=0/\l=[])∨∃b rest,s.ptr=dB ⟨b,0,eH⟩/\h[b]?=dB (.cells (l.flatMap f++rest).toArray e (0,0))/\rest.length=(s.cap-s.len)*k/\s.len<=s.cap
theorem ez{α:Type}{k:Nat}{f:α->ba}(a:∀x,j9 (f x)=k):∀(l:List α),j9 (l.flatMap f)=j9 l*k
 |[]=>k9
 |x::r=>by rw[zg,qy,a,ez a r,zm,zO];omega
theorem Kj{α:Type}{k:Nat}{f:α->ba}(a:∀x,j9 (f x)=k):∀(l:List α) (i:Nat) (x:α),l[i]?=dB x->∃pre post,l.flatMap f=pre++f x++post/\pre.length=i*k
 |y::r,0,x,h=>by simp at h;subst h;exact⟨[],r.flatMap f,k9,k9⟩
 |y::r,i+1,x,h=>by
  obtain⟨pre,post,c,b⟩:=Kj a r i x l6;exact⟨f y++pre,post,oj,by rw[qy,a,b,zO];omega⟩
theorem Ca{h:hZ}{b o:Nat}{e:TypeId}{fr:Nat×Nat}:∀{vs pre post:ba} {i:Nat},h[b]?=dB (.cells (pre++vs++post).toArray e fr)->j9 pre=o+i->an h ⟨b,o,eH⟩ i vs
 |[],_,_,_,_,_=>trivial
 |v::r,pre,post,i,hb,hl=>by
  refine⟨?_,Ca (pre:=pre++[v]) (post:=post) (by simpa using hb) k8⟩;rw[add_eq,DL hb,<-hl];simp
def kr(h:hZ)(b:Nat)(o:Obj):hZ:=h.setIfInBounds b o
theorem jq{h:hZ}{b c:Nat}{o x:Obj}(a:h[b]?=dB x):(kr h b o)[c]?=if b=c then dB o else h[c]?:=by
 unfold kr;rw[Array.getElem?_setIfInBounds];split
 ·rename_i e;subst e;rw[j1 (lt_of_block a)]
 ·rfl
theorem Zo{h:hZ}{b o:Nat}{c:Array eX}{e:TypeId}{f:Nat×Nat}{v:eX}(a:h[b]?=dB (.cells c e f)):Xe h ⟨b,o,eH⟩ v=kr h b (.cells (c.setIfInBounds o v) e f):=by
 apply yA;intro i;rw[jq a];simp only[Xe,wu];split
 ·rename_i d;subst d;rw[a];rfl
 ·rfl
theorem Zp(h:hZ)(b:Nat)(o a:Obj):kr (kr h b o) b a=kr h b a:=by unfold kr;simp
theorem aX.kr{p:aB}{h:hZ}{b:Nat}{o x:Obj}(d:h[b]?=dB x)(a:¬p b):aX p h (kr h b o):=⟨by simp[Go.Vc.kr],λc _ f=>by
 rw[jq d,j3 λe=>a (by rw[e];exact f)]⟩
theorem fU{P:Program}{b o:Nat}{e:TypeId}{K:Unit->hZ->Prop}:∀{vs pre old post:ba} {i:Nat} {h:hZ},h[b]?=dB (.cells (pre++old++post).toArray e (0,0))->j9 old=j9 vs->j9 pre=o+i->
  (∀v∈vs,v.oneCell'=eR)->K () (kr h b (.cells (pre++vs++post).toArray e (0,0)))->af P (storeCells ⟨b,o,eH⟩ vs i) h K
 |[],pre,old,post,i,h,hb,hl,hp,hv,hk=>by
  have:old=[]:=q8 (by simpa using hl);subst this;refine af.pure' ?_;have f:kr h b (.cells (pre++[]++post).toArray e (0,0))=h:=by
   apply yA;intro c;rw[jq hb];split
   ·rename_i d;subst d;exact hb.symm
   ·rfl
  rw[f]at hk;exact hk
 |v::r,pre,old,post,i,h,hb,hl,hp,hv,hk=>by
  cases old with
  |nil=>simp at hl
  |cons u old=>
   simp only[storeCells];refine af.bind ?_;rw[add_eq];have d:hY h ⟨b,o+i,eH⟩=dB u:=by rw[DL hb,<-hp];simp
   refine af.agF (hv v k9) d (acC hb) ?_;rw[Zo hb];have a:(pre++(u::old)++post).toArray.setIfInBounds (o+i) v=((pre++[v])++old++post).toArray:=by rw[<-hp];apply yq;simp
   rw[a];refine fU (e:=e) (pre:=pre++[v]) (old:=old) (post:=post) ?_ (by simpa using hl) k8 (λx g=>hv x qs) ?_
   ·rw[jq hb,j1 rfl]
   ·rw[Zp];simpa using hk
theorem NK{P:Program}{h:hZ}{a:hU}{vs:ba}{n:Nat}{K:Array eX->hZ->Prop}(b:j9 vs=n)(c:an h a 0 vs)(e:K vs.toArray h):af P (loadCells a n) h K:=λw d=>by
 subst d;refine⟨vs.toArray,w,?_,dl.refl w,e⟩;have:=run_loadCells (P:=P) (w:=w) (a:=a) vs 0 #[] c;rw[b]at this;unfold loadCells;rw[this];simp
section
variable {α:Type} {h h':hZ} {p:aB} {e:TypeId} {s:Sl} {k:Nat} {f:α->ba} {l:List α}
theorem Own.lt(c:Own h e s k f l){b:Nat}(a:s.on b):b<h.size:=by
 rcases c.head with⟨h1,_,_⟩|⟨b',rest,h1,h2,_,_⟩
 ·obtain⟨o,h0⟩:=a;rw[h1]at h0;cases h0
 ·obtain⟨o,h0⟩:=a;rw[h1]at h0;cases h0;exact lt_of_block h2
theorem Own.aj(c:Own h e s k f l)(d:aX p h h')(a:∀b,s.on b->p b):Own h' e s k f l:=⟨c.len,by
 rcases c.head with h1|⟨b,rest,h1,h2,h3,h4⟩
 ·exact .inl h1
 ·exact .inr ⟨b,rest,h1,d.block (a b ⟨0,h1⟩) h2,h3,h4⟩⟩
theorem Own.seq(c:Own h e s k f l)(j:∀x,j9 (f x)=k)(a:∀b,s.on b->p b):Seq h p s k f l:=⟨c.len,λi x d=>by
 rcases c.head with⟨_,_,h1⟩|⟨b,rest,h1,h2,h3,h4⟩
 ·subst h1;simp at d
 ·obtain⟨pre,post,g,m⟩:=Kj j l i x d;refine⟨b,0,h1,a b ⟨0,h1⟩,Ca (e:=e) (fr:=(0,0)) (pre:=pre) (post:=post++rest) ?_ k4⟩;rw[h2,g];simp⟩
theorem Own.nil(h:hZ)(e:TypeId)(k:Nat)(f:α->ba):Own h e ⟨eH,0,0⟩ k f []:=⟨k0,.inl ⟨k0,k0,k0⟩⟩
theorem Own.cap(a:Own h e s k f l):s.len<=s.cap:=by
 rcases a.head with⟨h1,h2,h3⟩|⟨b,rest,h1,h2,h3,h4⟩
 ·have:=a.len;rw[h3]at this;simp at this;omega
 ·exact h4
end
theorem af.always{α:Type}{P:Program}{s:Sem α}{v:α}{h:hZ}{K:α->hZ->Prop}(b:aL P s v)(c:K v h):af P s h K:=λw a=>⟨v,w,b w,dl.refl w,by rw[a];exact c⟩
structure ce (C:CG) (t e k:Nat) (z:ba) (by_:Nat):Prop where
 ex:∃i j,C.T.get t=dB i/\i.df=.slice e/\C.T.get e=dB j/\j.size=k/\j.zero=z/\j.bytes=by_
section
variable {C:Ctx} {t e k:Nat} {z:ba} {by_:Nat}
theorem ce.under(c:ce C.toCG t e k z by_)(b:C.Ok):C.P.underlying t=dB (.slice e):=by obtain⟨i,j,d,a,_⟩:=c.ex;have:=b.df d;rw[a]at this;exact kC this
theorem ce.size(c:ce C.toCG t e k z by_)(b:C.Ok):aL C.P (sizeOf e) k:=by obtain⟨i,j,_,_,d,a,_⟩:=c.ex;rw[<-a];exact eu b.toOk d
theorem ce.info(o:ce C.toCG t e k z by_)(l:C.Ok):∃f,C.P.info? e=dB f/\f.size=k/\f.bytes=by_/\∃a,f.zero=dB a/\a.cells=z.toArray:=by obtain⟨i,j,_,_,p,h,h3,c⟩:=o.ex;obtain⟨f,d,m,n,a,g,b⟩:=l.info p;exact⟨f,d,m.trans h,n.trans c,a,g,by apply yq;rw[b,h3]⟩
end
def ja(z:ba):Nat->ba
 |0=>[]
 |n+1=>z++ja z n
theorem oG(z:ba):∀n,j9 (ja z n)=n*j9 z
 |0=>by simp[ja]
 |n+1=>by rw[ja,qy,oG z n,zO];omega
theorem RI(z:ba):∀(n i:Nat),i<n*j9 z->(ja z n)[i]?=z[i%j9 z]?
 |0,i,h=>o5
 |n+1,i,h=>by
  have a:0<j9 z:=Nat.pos_of_ne_zero λe=>by rw[e]at h;simp at h
  rw[ja];by_cases b:i<j9 z
  ·rw[qp b,Nat.mod_eq_of_lt b]
  ·rw[qj k4,RI z n (i-j9 z) (by rw[zO]at h;omega)];congr 1
   conv=>rhs;rw[show i=(i-j9 z)+j9 z by omega,Nat.add_mod_right]
theorem RJ(z:ba)(n m:Nat)(c:m=n*j9 z):((vS m).map λi=>z.toArray[i%z.toArray.size]!)=(ja z n).toArray:=by
 apply yA;intro i;subst c;simp only[Array.getElem?_map,Array.getElem?_range,zZ];by_cases b:i<n*j9 z
 ·rw[RI z n i b];have a:0<j9 z:=Nat.pos_of_ne_zero λe=>by rw[e]at b;simp at b
  have:=yt i a;simp[b,this]
 ·rw[qQ (by rw[oG];omega)];simp[b]
theorem FY(z:ba)(n:Nat):yn z.toArray n=(ja z n).toArray:=RJ z n _ k9
theorem Wr(a:Nat):∀(r c:Nat),Builtin.growBy a r c<=(c+768)*2^r
 |0,c=>by simp[Builtin.growBy]
 |r+1,c=>by
  unfold Builtin.growBy;split
  ·exact zf (Nat.le_add_right c 768) (Nat.le_mul_of_pos_right _ (Nat.two_pow_pos _))
  ·refine zf (Wr a r _) ?_;rw[Nat.pow_succ,Nat.mul_comm (2^r) 2,<-Nat.mul_assoc];exact zo _ k4
theorem aig(o n:Nat)(h:o<n):(o+768)*2^4<=16*n+16*768:=k4
theorem Ws(a b:Nat)(h:b<a:=by omega):vb a b<=16*a+16*768:=by
 unfold vb;split
 ·omega
 ·split
  ·omega
  ·exact zf (Wr a 4 b) (aig _ _ h)
section
variable {C:Ctx} {t t2 e k:Nat} {z:ba} {by_:Nat} {α:Type} {h:hZ} {p:aB} {s v:Sl} {f:α->ba} {l l2:List α}
theorem iN{P:Program}{K:Array eX->hZ->Prop}(q:∀x,j9 (f x)=k)(g:Seq h p v k f l)(s:K (l.flatMap f).toArray h):
  af P (wy k v.len (.slice v.ptr v.len v.cap)) h K:=by
 cases hp:v.ptr with
 |none=>
  have:l=[]:=by
   cases l with
   |nil=>rfl
   |cons x r=>obtain⟨b,o,c,_⟩:=g.elem 0 x k9;rw[hp]at c;cases c
  subst this;exact af.pure' s
 |some a=>
  refine NK (by rw[ez q,<-g.len]) ?_ s;cases l with
  |nil=>trivial
  |cons w r0=>
   obtain⟨b,o,c,_,_⟩:=g.elem 0 w k9;rw[hp]at c;cases c;have j:∀(r:List α) (n:Nat),(∀i x,r[i]?=dB x->an h ⟨b,o+(n+i)*k,eH⟩ 0 (f x))->an h ⟨b,o,eH⟩ (n*k) (r.flatMap f):=by
    intro r
    induction r with
    |nil=>intro n _;trivial
    |cons x r ih=>
     intro n t;have h0:=t 0 x k9;have e:=ih (n+1) (λi y z=>by have:=t (i+1) y p8;rw[show n+1+i=n+(i+1)by omega];exact this);rw[zg];have app:∀(us vs:ba) (i:Nat),an h ⟨b,o,eH⟩ i us->an h ⟨b,o,eH⟩ (i+j9 us) vs->an h ⟨b,o,eH⟩ i (us++vs):=by
      intro us
      induction us with
      |nil=>intro vs i _ e;simpa using e
      |cons u us ih=>intro vs i c e;exact⟨c.1,ih vs (i+1) c.2 (by rw[show i+1+j9 us=i+(j9 us+1)by omega];exact e)⟩
     refine app _ _ _ ?_ (by rw[q,<-zO];exact e);have d:∀(us:ba) (i m:Nat),an h ⟨b,o+m,eH⟩ i us->an h ⟨b,o,eH⟩ (m+i) us:=by
      intro us
      induction us with
      |nil=>intros;trivial
      |cons u us ih=>
       intro i m c;refine⟨?_,ih (i+1) m c.2⟩;have:=c.1;rw[add_eq]at this⊢;rw[<-yk];exact this
     have:=d (f x) 0 ((n+0)*k) h0;simpa using this
   have:=j (w::r0) 0 (λi x A=>by
    obtain⟨D,B,c,_,h3⟩:=g.elem i x A;rw[hp]at c;cases c;simpa using h3)
   simpa using this
theorem Xn(A:C.Ok)(G:ce C.toCG t e k z by_)(h2:∃i e2,C.T.get t2=dB i/\i.df=.slice e2)(hz:j9 z=k)(I:0<by_/\by_<=128)(m:∀x,j9 (f x)=k)
  (w:Own h e s k f l) (B:Seq h p v k f l2) (u:∀x,∀c∈f x,c.oneCell'=eR) (ah:j9 l+j9 l2<=2^32) {ty:Nat} {K:Sl->hZ->Prop}
  (N:∀M h',Own h' e M k f (l++l2)->aX (λb=>¬s.on b) h h'->(∀b,M.on b->s.on b∨h.size<=b)->K M h'):
  aA C.P (qu #[t,t2] ty #[.slice s.ptr s.len s.cap,.slice v.ptr v.len v.cap]) (.one (.sc .slc)) h K:=by
 obtain⟨i2,e2,U,g2⟩:=h2;have J:C.P.underlying t2=dB (.slice e2):=by have:=A.df U;rw[g2]at this;exact kC this
 obtain⟨L,y,x2,x3,Z,x4,x5⟩:=G.info A;unfold aA qu;simp only[zZ,yU,qE];refine af.bind (af.always (aV (G.under A)) ?_);refine af.bind (af.always (G.size A) ?_);refine af.bind (af.always (aV J) ?_);refine af.bind (af.pure' ?_);simp only[zk,if_false,w6,if_true];refine af.bind (af.pure' ?_);have n:=w.len;have D:=B.len;by_cases d:s.len+v.len<=s.cap
 ·rw[j1 d];refine af.bind (iN m B ?_);rcases w.head with⟨p1,p2,p3⟩|⟨b,rest,p1,p2,p3,p4⟩
  ·rw[p1];have E:l2=[]:=q8 k4;subst E;refine af.pure' ⟨⟨eH,s.len+v.len,s.cap⟩,k0,N _ _ ⟨?_,.inl ⟨k0,p2,by simp[p3]⟩⟩ (aX.refl _ _) ?_⟩
   ·simp;omega
   ·rintro S ⟨o,g⟩;cases g
  ·rw[p1];refine af.bind ?_;rw[add_eq,z6];have j:=ez m l;have a:=ez m l2;have H:j9 (l2.flatMap f)<=j9 rest:=by rw[a,p3];exact zo k k4
   refine fU (e:=e) (pre:=l.flatMap f) (old:=rest.take (l2.flatMap f).length) (post:=rest.drop (l2.flatMap f).length) ?_ ?_ ?_ ?_ ?_
   ·rw[qt,qJ];exact p2
   ·rw[qZ];exact yu H
   ·rw[j,n];omega
   ·intro c X;obtain⟨x,_,Q⟩:=zB.1 X;exact u x c Q
   ·refine af.pure' ⟨⟨dB ⟨b,0,eH⟩,s.len+v.len,s.cap⟩,k0,N _ _ ⟨?_,.inr ⟨b,rest.drop (l2.flatMap f).length,k0,?_,?_,d⟩⟩ ?_ ?_⟩
    ·simp;omega
    ·rw[jq p2,j1 rfl];simp
    ·rw[ze,p3,a,<-Nat.sub_mul];show(s.cap-s.len-j9 l2)*k=(s.cap-(s.len+v.len))*k;congr 1;omega
    ·exact aX.kr p2 (λV=>V ⟨0,p1⟩)
    ·rintro S ⟨o,g⟩;cases g;exact .inl ⟨0,p1⟩
 ·rw[j3 d];have q:Seq h (λ_=>True) s k f l:=w.seq m λ_ _=>trivial;have R:=w.cap;refine af.bind (af.always (dq y) ?_);rw[j3 λhh=>by rcases hh.2 with h|h<;>first|exact h|(rw[x3]at h;omega)];refine af.bind (af.always (dq y) ?_);have ad:=Ws (s.len+v.len) s.cap;rw[j3 (by
   have:vb (s.len+v.len) s.cap*L.bytes<=(16*2^32+16*768)*128:=wk k4 (by rw[x3];exact I.2);omega)]
  refine af.bind (af.NG ⟨λW=>(by cases W),λ_ Y=>?_⟩);refine af.bind (af.always (dq y) ?_);refine af.bind (af.Kd ?_);refine af.bind (iN m q ?_);refine af.bind (iN m B ?_);have O:aL C.P (zeroValue e) Z:=(dq y).bind (by rw[x4];exact .pure);refine af.bind (af.always O ?_);rw[x5,FY];unfold newRow;refine af.bind (af.bind (af.rY (af.pure' (af.pure' ?_))));generalize F:Question.cut (Question.appendCap (s.len+v.len) s.cap e) Y=cc;have r:s.len+v.len<=cc:=by rw[<-F];simp only[Question.cut];omega
  refine⟨⟨dB ⟨h.size,0,eH⟩,s.len+v.len,cc⟩,k0,N _ _ ⟨?_,.inr ⟨h.size,ja z (cc-(s.len+v.len)),k0,?_,?_,r⟩⟩ (aX.push _ _ _) ?_⟩
  ·simp;omega
  ·simp
  ·rw[oG,hz]
  ·rintro S ⟨o,g⟩;cases g;exact .inr (ql _)
end
structure cA (h:hZ) (a:hU) (e:TypeId) (cs:ba):Prop where
 off:a.off=0
 spot:a.spot=eH
 fO:h[a.block]?=dB (.cells cs.toArray e (0,0))
section
variable {h h':hZ} {a:hU} {e:TypeId} {cs:ba} {p:aB}
theorem cA.addr(c:cA h a e cs):a=⟨a.block,0,eH⟩:=by
 obtain⟨b,o,s⟩:=a;have:=c.off;have:=c.spot
 simp_all
theorem cA.aj(b:cA h a e cs)(d:aX p h h')(c:p a.block):cA h' a e cs:=⟨b.off,b.spot,d.block c b.fO⟩
theorem cA.lt(b:cA h a e cs):a.block<h.size:=lt_of_block b.fO
theorem cA.cell(b:cA h a e cs){j:Nat}{v:eX}(c:cs[j]?=dB v):hY h (a.add j)=dB v:=by rw[b.addr,add_eq,DL b.fO];simpa using c
theorem cA.cell0(b:cA h a e cs){v:eX}(c:cs[0]?=dB v):hY h a=dB v:=b.cell (j:=0) c
theorem cA.cells(d:cA h a e cs)(j:Nat)(vs:ba)(c:(cs.drop j).take vs.length=vs):an h (a.add j) 0 vs:=by
 rw[d.addr,add_eq,z6];have b:j9 vs<=j9 (cs.drop j):=by have:=congrArg List.length c;rw[qZ]at this;omega
 rcases Nat.lt_or_ge cs.length j with hj|hj
 ·rw[ze]at b;have:vs=[]:=q8 k4;subst this;trivial
 ·refine Ca (e:=e) (fr:=(0,0)) (pre:=cs.take j) (post:=(cs.drop j).drop vs.length) ?_ k8;have:cs.take j++vs++(cs.drop j).drop vs.length=cs:=by
   conv=>lhs;rw[qt];arg 2;arg 1;rw[<-c]
   rw[qJ,qJ]
  rw[this];exact d.fO
theorem cA.aS(b:cA h a e cs)(vs:ba)(c:cs.take vs.length=vs):an h a 0 vs:=b.cells 0 vs c
end
section
variable {C:Ctx} {t:Nat} {i:TI} {h:hZ}
theorem Bf(d:C.Ok)(e:C.T.get t=dB i){K:hU->hZ->Prop}(f:∀a h',a.block=h.size->cA h' a t i.zero->aX (λ_=>True) h h'->h'.size=h.size+1->K a h'):
  aP C.P (qO t eR (.tuple #[])) h K:=by
 obtain⟨z,c,b⟩:=sH d.toOk e;unfold aP qO;refine af.bind (af.always c ?_);refine af.bind (af.bind (af.bind (af.rY (af.pure' (af.pure' (af.pure' ?_))))));refine⟨⟨h.size,0,eH⟩,k0,f _ _ k0 ⟨k0,k0,?_⟩ (aX.push _ _ _) k9⟩;rw[<-b];simp
theorem Wt{v:eX}{P:Program}{K:hU->hZ->Prop}(b:∀a h',a.block=h.size->cA h' a t v.cells.toList->aX (λ_=>True) h h'->h'.size=h.size+1->K a h'):
  aP P (qN t v) h K:=by
 unfold aP qN;refine af.bind (af.bind (af.bind (af.rY (af.pure' (af.pure' (af.pure' ?_))))));refine⟨⟨h.size,0,eH⟩,k0,b _ _ k0 ⟨k0,k0,?_⟩ (aX.push _ _ _) k9⟩;simp
theorem run_store(m:C.Ok){a:hU}{e:TypeId}{b:ba}(c:cA h a e b)(o:C.T.get t=dB i)(off:Nat){v:eX}(vs:ba)(j:v.cells=vs.toArray)(f:i.size=j9 vs)
  (d:vs.all (·.oneCell')=eR) (g:off+j9 vs<=j9 b) {K:Unit->hZ->Prop}
  (n:∀h',cA h' a e (b.take off++vs++b.drop (off+j9 vs))->aX (·≠a.block) h h'->h'.size=h.size->K () h'):
  af C.P (qf t (.pointer (dB (a.add off))) v) h K:=by
 have k:=c.addr;unfold qf;refine af.bind (af.pure' ?_);unfold storeVar;refine af.bind (af.always (eu m.toOk o) ?_);rw[j,f];simp only[w8,ne_eq,not_true,if_false];rw[k,add_eq,z6];refine fU (e:=e) (pre:=b.take off) (old:=(b.drop off).take vs.length) (post:=b.drop (off+j9 vs)) ?_ ?_ ?_ ?_ ?_
 ·have:b.take off++(b.drop off).take vs.length++b.drop (off+j9 vs)=b:=by rw[<-zL,qt,qJ,qJ]
  rw[this];exact c.fO
 ·simp;omega
 ·simp;omega
 ·intro x l;have:=qU.1 d x l;exact this
 ·refine n _ ⟨c.off,c.spot,?_⟩ (aX.kr c.fO k9) (by simp[kr]);rw[jq c.fO,j1 rfl]
theorem DM(g:C.Ok){a:hU}{e:TypeId}{c:ba}(l:cA h a e c)(j:C.T.get t=dB i){v:eX}(vs:ba)(k:v.cells=vs.toArray)(d:i.size=j9 vs)
  (b:vs.all (·.oneCell')=eR) (f:j9 vs<=j9 c) {K:Unit->hZ->Prop}
  (m:∀h',cA h' a e (vs++c.drop vs.length)->aX (·≠a.block) h h'->h'.size=h.size->K () h'):
  af C.P (qf t (.pointer (dB a)) v) h K:=
 run_store g l j 0 vs k d b k4 (λh' x y z=>m h' (by simpa using x) y z)
end
section
variable {C:Ctx} {t e k:Nat} {z:ba} {by_:Nat} {α:Type} {h:hZ} {p:aB} {s v:Sl} {f:α->ba} {l l2:List α}
theorem FZ{a:α}(b:f a=z):∀n,ja z n=(qg n a).flatMap f
 |0=>rfl
 |n+1=>by rw[ja,List.replicate_succ,zg,b,FZ b n]
theorem ag(x:Int)(c:-9223372036854775808<=x:=by omega)(b:x<=9223372036854775807:=by omega):qc xi x=x:=by
 show(if(eR&&decide (x%2^64>=2^63))=eR then x%2^64-2^64 else x%2^64)=x;by_cases a:x%2^64>=2^63
 ·rw[j1 (by rw[zQ];exact j6 a)];omega
 ·rw[j3 (by rw[zQ];exactλh=>a (j8 h))];omega
theorem run_make(s:C.Ok)(o:ce C.toCG t e k z by_)(p:0<by_/\by_<=128)(y:α)(B:f y=z)(d:j9 z=k){J D:IntKind}{n c:Int}(m b:Nat)(E:n=m)(G:c=b)(u:m<=b)(q:b<=2^32)
  {K:Sl->hZ->Prop} (L:∀j h',Own h' e j k f (qg m y)->j.ptr=dB ⟨h.size,0,eH⟩->j.cap=b->aX (λ_=>True) h h'->h'.size=h.size+1->K j h'):
  aA C.P (qG t (.int J n) (.int D c)) (.one (.sc .slc)) h K:=by
 subst E;subst G;obtain⟨r,A,x2,x3,H,I,M⟩:=o.info s;unfold aA qG;refine af.bind (af.always (aV (o.under s)) ?_);refine af.bind (af.pure' ?_);refine af.bind (af.pure' ?_);refine af.bind (af.always (dq A) ?_);have N:qc xi (m:Int)=m:=ag _;have F:qc xi (b:Int)=b:=ag _;have O:¬((r.bytes:Int)*(b:Int)>2^48):=by
  rw[x3];have:by_*b<=128*2^32:=wk p.2 q;have:((by_:Int)*(b:Int))<=((128*2^32:Nat):Int):=by exact_mod_cast this
  omega
 simp only[N,F];rw[j3 k8];refine af.bind (af.Kd ?_);refine af.bind (af.always (o.size s) ?_);have w:aL C.P (zeroValue e) H:=(dq A).bind (by rw[I];exact .pure);have fin:∀g:Array eX,(b*k≠0->g=z.toArray)->af C.P (do
   let a<-newRow e ((vS (b*k)).map (g[·%g.size]!))
   pure (Value.slice (dB a) m b)) h (λv h'=>∃x:(Rt.one (.sc .slc)).den,v=(Rt.one (.sc .slc)).enc x/\K x h'):=by
  intro g l;have i:((vS (b*k)).map (g[·%g.size]!))=(ja z b).toArray:=by
   by_cases h0:b*k=0
   ·rw[h0];have:ja z b=[]:=q8 (by rw[oG,d,h0]);rw[this];simp
   ·rw[l h0];exact RJ z b _ (by rw[d])
  rw[i];refine af.bind (af.bind (af.rY (af.pure' (af.pure' ?_))));refine⟨⟨dB ⟨h.size,0,eH⟩,m,b⟩,k0,L _ _ ⟨k9,.inr ⟨h.size,ja z (b-m),k0,?_,?_,u⟩⟩ k0 k0 (aX.push _ _ _) k9⟩
  ·have:ja z b=(qg m y).flatMap f++ja z (b-m):=by rw[FZ B,FZ B,<-zj,List.replicate_append_replicate];congr 2;omega
   rw[this];simp
  ·rw[oG,d]
 simp only[qn];by_cases h0:b*k=0
 ·rw[j1 h0];exact af.bind (af.pure' (fin _ λh=>absurd h0 h))
 ·rw[j3 h0];refine af.bind (af.always w ?_);exact af.bind (af.pure' (fin _ λ_=>M))
theorem NL(o:C.Ok)(m:ce C.toCG t e k z by_)(g:j9 z=k){n:Nat}{parts:Array (Nat×eX)}(l:List α)(r:j9 l=n)(s:n*k<=2^20)
  (b:wq (λi=>dB (i*k,k)) (ja z n).toArray parts.toList=dB (l.flatMap f).toArray) {K:Sl->hZ->Prop}
  (B:∀p h',Own h' e p k f l->p.ptr=dB ⟨h.size,0,eH⟩->aX (λ_=>True) h h'->h'.size=h.size+1->K p h'):
  aA C.P (qq t n parts) (.one (.sc .slc)) h K:=by
 obtain⟨A,y,x2,x3,u,w,D⟩:=m.info o;unfold aA qq;refine af.bind (af.always (aV (m.under o)) ?_);refine af.bind (af.always (m.size o) ?_);rw[j3 k4];have q:aL C.P (zeroValue e) u:=(dq y).bind (by rw[w];exact .pure);have fin:∀c:Array eX,(n*k≠0->c=z.toArray)->af C.P (do
   let dB cells:=wq (λi=>dB (i*k,k)) ((vS (n*k)).map (c[·%c.size]!)) parts.toList
    |stuck "buildSlice: a part of the wrong size"
   pure (Value.slice (dB (<-newRow e cells)) n n)) h (λv h'=>∃x:(Rt.one (.sc .slc)).den,v=(Rt.one (.sc .slc)).enc x/\K x h'):=by
  intro c j;have d:((vS (n*k)).map (c[·%c.size]!))=(ja z n).toArray:=by
   by_cases h0:n*k=0
   ·rw[h0];have:ja z n=[]:=q8 (by rw[oG,g,h0]);rw[this];simp
   ·rw[j h0];exact RJ z n _ (by rw[g])
  rw[d,b];refine af.bind (af.bind (af.rY (af.pure' (af.pure' ?_))));refine⟨⟨dB ⟨h.size,0,eH⟩,n,n⟩,k0,B _ _ ⟨r.symm,.inr ⟨h.size,[],k0,k9,k9,ql _⟩⟩ k0 (aX.push _ _ _) k9⟩
 by_cases h0:n*k=0
 ·rw[j1 h0];exact af.bind (af.pure' (fin _ λh=>absurd h0 h))
 ·rw[j3 h0];refine af.bind (af.always q ?_);exact af.bind (af.pure' (fin _ λ_=>D))
theorem Own.set{i:TI}(E:C.Ok)(r:Own h e s k f l)(p:∀x,j9 (f x)=k)(G:C.T.get t=dB i){x:Int}(n:Nat)(B:x=n)(q:n<j9 l){g:eX}(y:α)(A:g.cells=(f y).toArray)(v:i.size=k)
  (m:(f y).all (·.oneCell')=eR) {K:hZ->Prop} (F:∀h',Own h' e s k f (l.set n y)->aX (λb=>¬s.on b) h h'->h'.size=h.size->K h'):
  ∃a:hU,(s.ptr=dB a/\0<=x/\x<((s.len:Nat):Int))/\af C.P (qf t (.pointer (dB (a.add (x.toNat*k)))) g) h λ_ h'=>K h':=by
 subst B;rcases r.head with⟨_,_,h3⟩|⟨b,rest,h1,h2,h3,h4⟩
 ·subst h3;simp at q
 ·refine⟨_,⟨h1,k4,by rw[r.len];omega⟩,?_⟩;unfold qf;refine af.bind (af.pure' ?_);unfold storeVar;refine af.bind (af.always (eu E.toOk G) ?_);rw[A,v];have u:=p y;simp only[w8,u,ne_eq,not_true,if_false];rw[add_eq,z6,qn];have d:l=l.take n++l[n]::l.drop (n+1):=by rw[<-qP q,qJ]
  have o:l.set n y=l.take n++y::l.drop (n+1):=wZ.trans (j1 q);have j:j9 ((l.take n).flatMap f)=n*k:=by rw[ez p,qZ,yu k4]
  refine fU (e:=e) (pre:=(l.take n).flatMap f) (old:=f l[n]) (post:=(l.drop (n+1)).flatMap f++rest) ?_ ?_ ?_ ?_ ?_
  ·have:l.flatMap f++rest=(l.take n).flatMap f++f l[n]++((l.drop (n+1)).flatMap f++rest):=by have w:=congrArg (List.flatMap f) d;rw[zj,zg]at w;rw[w];simp
   rw[<-this];exact h2
  ·rw[p,p]
  ·rw[j];omega
  ·intro c z;have:=qU.1 m c z;exact this
  ·refine F _ ⟨by rw[zF];exact r.len,.inr ⟨b,rest,h1,?_,h3,h4⟩⟩ (aX.kr h2 λD=>D ⟨0,h1⟩) (by simp[kr]);rw[jq h2,j1 k0,o];simp
end
def grow(c:Nat->Nat)(n i:Nat):Nat->Nat:=λb=>if b<n then c b else i
theorem gE{c:Nat->Nat}{n i b:Nat}(h:b<n):grow c n i b=c b:=j1 h
theorem sf{c:Nat->Nat}{n i b:Nat}(h:n<=b:=by omega):grow c n i b=i:=j3 k4
structure dQ {α:Type} (h:hZ) (c:Nat->Nat) (i:Nat) (e:TypeId) (s:Sl) (k:Nat) (f:α->ba) (l:List α):Prop where
 own:Own h e s k f l
 bt:∀b,s.on b->c b=i
structure kY (h:hZ) (c:Nat->Nat) (i:Nat) (a:hU) (e:TypeId) (cs:ba):Prop where
 box:cA h a e cs
 bt:c a.block=i
structure mY (h0 h:hZ) (c:Nat->Nat):Prop where
 aj:aX (λb=>b<h0.size) h0 h
 bt:∀b,b<h0.size->c b=0
section
variable {α:Type} {h h' h0:hZ} {c:Nat->Nat} {i j n m:Nat} {e:TypeId} {s:Sl} {k:Nat} {f:α->ba} {l:List α} {a:hU} {cs:ba}
theorem dQ.keep(a:dQ h c j e s k f l)(n:aX (λb=>c b≠i) h h')(g:j≠i):dQ h' (grow c h.size m) j e s k f l:=
 ⟨a.own.aj n λb d=>by rw[a.bt b d];exact g,λb d=>by rw[gE (a.own.lt d)];exact a.bt b d⟩
theorem kY.keep(d:kY h c j a e cs)(g:aX (λb=>c b≠i) h h')(f:j≠i):kY h' (grow c h.size m) j a e cs:=
 ⟨d.box.aj g (by rw[d.bt];exact f),by rw[gE d.box.lt];exact d.bt⟩
theorem mY.keep(a:mY h0 h c)(f:aX (λb=>c b≠i) h h')(e:i≠0):mY h0 h' (grow c h.size m):=
 ⟨a.aj.then f λb d _=>by rw[a.bt b d];exact e.symm,λb d=>by rw[gE (q7 d a.aj.1)];exact a.bt b d⟩
theorem mY.refl(h:hZ):mY h h (λ_=>0):=⟨aX.refl _ _,λ_ _=>rfl⟩
theorem dQ.seq(a:dQ h c j e s k f l)(d:∀x,j9 (f x)=k):Seq h (λb=>c b=j) s k f l:=a.own.seq d a.bt
theorem dQ.Xo(a:dQ h c j e s k f l)(d:∀x,j9 (f x)=k):Seq h (λb=>b<h.size) s k f l:=a.own.seq d λ_ g=>a.own.lt g
theorem dQ.nil(h:hZ)(c:Nat->Nat)(i:Nat)(e:TypeId)(k:Nat)(f:α->ba):dQ h c i e ⟨eH,0,0⟩ k f []:=⟨Own.nil h e k f,λb d=>by obtain⟨o,a⟩:=d;cases a⟩
theorem aX.bt(a:aX (λ_=>True) h h')(c:Nat->Nat)(i:Nat):aX (λb=>c b≠i) h h':=a.mono λ_ _ _=>trivial
end
section
variable {α:Type} {C:Ctx} {h h' h0:hZ} {c:Nat->Nat} {i:Nat} {e t t2:Nat} {s v:Sl} {k by_:Nat} {f:α->ba} {l l2:List α} {a:hU} {cs z:ba} {p:aB} {ti:TI}
theorem uL(d:C.Ok)(_:mY h0 h c)(i:Nat)(e:C.T.get t=dB ti){K:hU->hZ->Prop}(f:∀a h',kY h' (grow c h.size i) i a t ti.zero->aX (λb=>c b≠i) h h'->K a h'):
  aP C.P (qO t eR (.tuple #[])) h K:=
 Bf d e λa h' x y z _=>f a h' ⟨y,by rw[sf]⟩ (z.bt c i)
theorem RK(P:Program)(_:mY h0 h c)(i:Nat){v:eX}{K:hU->hZ->Prop}(d:∀a h',kY h' (grow c h.size i) i a t v.cells.toList->aX (λb=>c b≠i) h h'->K a h'):
  aP P (qN t v) h K:=
 Wt λa h' x y z _=>d a h' ⟨y,by rw[sf]⟩ (z.bt c i)
theorem kY.store(n:C.Ok)(g:kY h c i a e cs)(p:C.T.get t=dB ti)(off:Nat){v:eX}(vs:ba)(l:v.cells=vs.toArray)(k:ti.size=j9 vs)
  (f:vs.all (·.oneCell')=eR) (d:off+j9 vs<=j9 cs) {K:Unit->hZ->Prop}
  (o:∀h',kY h' (grow c h.size i) i a e (cs.take off++vs++cs.drop (off+j9 vs))->aX (λb=>c b≠i) h h'->K () h'):
  af C.P (qf t (.pointer (dB (a.add off))) v) h K:=
 run_store n g.box p off vs l k f d λh' x y z=>o h' ⟨x,by rw[gE g.box.lt];exact g.bt⟩ (y.mono λb _ j m=>j (by rw[m];exact g.bt))
theorem kY.lC(j:C.Ok)(m:kY h c i a e cs)(k:C.T.get t=dB ti){v:eX}(vs:ba)(l:v.cells=vs.toArray)(f:ti.size=j9 vs)
  (d:vs.all (·.oneCell')=eR) (g:j9 vs<=j9 cs) {K:Unit->hZ->Prop}
  (n:∀h',kY h' (grow c h.size i) i a e (vs++cs.drop vs.length)->aX (λb=>c b≠i) h h'->K () h'):
  af C.P (qf t (.pointer (dB a)) v) h K:=
 m.store j k 0 vs l f d k4 (λh' x y=>n h' (by simpa using x) y)
theorem Bg(w:C.Ok)(_:mY h0 h c)(i:Nat)(f:α->ba)(v:ce C.toCG t e k z by_)(d:0<by_/\by_<=128)(l:α)(E:f l=z)(j:j9 z=k){A r:IntKind}{n p:Int}(m:Nat)(s:n=m)(u:p=m)(g:m<=2^32)
  {K:Sl->hZ->Prop} (D:∀a h',dQ h' (grow c h.size i) i e a k f (qg m l)->aX (λb=>c b≠i) h h'->K a h'):
  aA C.P (qG t (.int A n) (.int r p)) (.one (.sc .slc)) h K:=
 run_make w v d l E j m m s u (ql _) g λa h' x y _ z _=>D a h' ⟨x,λb B=>by obtain⟨o,q⟩:=B;rw[y]at q;cases q;rw[sf (ql _)]⟩ (z.bt c i)
theorem Kk(r:C.Ok)(_:mY h0 h c)(i:Nat)(f:α->ba)(q:ce C.toCG t e k z by_)(j:j9 z=k){n:Nat}{parts:Array (Nat×eX)}(l:List α)(p:j9 l=n)(g:n*k<=2^20)
  (a:wq (λi=>dB (i*k,k)) (ja z n).toArray parts.toList=dB (l.flatMap f).toArray) {K:Sl->hZ->Prop}
  (u:∀d h',dQ h' (grow c h.size i) i e d k f l->aX (λb=>c b≠i) h h'->K d h'):
  aA C.P (qq t n parts) (.one (.sc .slc)) h K:=
 NL r q j l p g a λd h' x y z _=>u d h' ⟨x,λb s=>by obtain⟨o,m⟩:=s;rw[y]at m;cases m;rw[sf (ql _)]⟩ (z.bt c i)
theorem dQ.append(A:C.Ok)(d:dQ h c i e s k f l)(u:ce C.toCG t e k z by_)(n:∃i e2,C.T.get t2=dB i/\i.df=.slice e2)(E:j9 z=k)(m:0<by_/\by_<=128)(r:∀x,j9 (f x)=k)
  (q:Seq h p v k f l2) (a:∀x,∀c∈f x,c.oneCell'=eR) (o:j9 l+j9 l2<=2^32) {ty:Nat} {K:Sl->hZ->Prop}
  (D:∀g h',dQ h' (grow c h.size i) i e g k f (l++l2)->aX (λb=>c b≠i) h h'->K g h'):
  aA C.P (qu #[t,t2] ty #[.slice s.ptr s.len s.cap,.slice v.ptr v.len v.cap]) (.one (.sc .slc)) h K:=
 Xn A u n E m r d.own q a o λg h' x y w=>D g h' ⟨x,λb B=>by
  rcases w b B with w|w
  ·rw[gE (d.own.lt w)];exact d.bt b w
  ·exact sf w⟩ (y.mono λb _ j n=>j (d.bt b n))
theorem dQ.set(B:C.Ok)(j:dQ h c i e s k f l)(v:∀x,j9 (f x)=k)(E:C.T.get t=dB ti){x:Int}(n:Nat)(u:x=n)(q:n<j9 l){d:eX}(y:α)(r:d.cells=(f y).toArray)(o:ti.size=k)
  (g:(f y).all (·.oneCell')=eR) {K:hZ->Prop} (D:∀h',dQ h' (grow c h.size i) i e s k f (l.set n y)->aX (λb=>c b≠i) h h'->K h'):
  ∃a:hU,(s.ptr=dB a/\0<=x/\x<((s.len:Nat):Int))/\af C.P (qf t (.pointer (dB (a.add (x.toNat*k)))) d) h λ_ h'=>K h':=
 j.own.set B v E n u q y r o g λh' z w _=>D h' ⟨z,λb p=>by rw[gE (j.own.lt p)];exact j.bt b p⟩ (w.mono λb _ m A=>m (j.bt b A))
end
section
variable {α:Type} {C:Ctx} {h h' h0:hZ} {c:Nat->Nat} {i j n m:Nat} {e t:Nat} {s v:Sl} {k by_:Nat} {f:α->ba} {l l2:List α} {z:ba} {p:aB}
theorem grow_grow{c:Nat->Nat}{n m i:Nat}(h:n<=m):grow (grow c n i) m i=grow c n i:=by
 funext b;unfold grow;split
 ·rfl
 ·rw[j3 k4]
theorem aX.step(a:aX (λb=>c b≠i) h h'){d:hZ}(b:aX (λb=>grow c h.size i b≠i) h' d):aX (λb=>c b≠i) h d:=
 a.then b λx f e=>by rw[gE f];exact e
theorem dQ.push(F:C.Ok)(r:dQ h c i e s k f l)(u:ce C.toCG t e k z by_)(H:j9 z=k)(w:0<by_/\by_<=128)(E:∀x,j9 (f x)=k)
  (d:∀x,∀c∈f x,c.oneCell'=eR) (x:α) {parts:Array (Nat×eX)} (a:wq (λi=>dB (i*k,k)) (ja z 1).toArray parts.toList=dB ([x].flatMap f).toArray)
  (o:1*k<=2^20) (D:j9 l+1<=2^32) {ty:Nat} {K:Sl->hZ->Prop}
  (N:∀n h',dQ h' (grow c h.size i) i e n k f (l++[x])->aX (λb=>c b≠i) h h'->K n h'):
  aA C.P (qq t 1 parts) (.one (.sc .slc)) h λv g=>aA C.P (qu #[t,t] ty #[.slice s.ptr s.len s.cap,.slice v.ptr v.len v.cap]) (.one (.sc .slc)) g K:=by
 refine NL F u H [x] k0 o a λv g I J B _=>?_;have y:aX (λb=>c b≠i) h g:=B.bt c i;have q:dQ g (grow c h.size i) i e s k f l:=⟨r.own.aj B λ_ _=>trivial,λb G=>by rw[gE (r.own.lt G)];exact r.bt b G⟩
 have j:h.size<=g.size:=B.1;obtain⟨O,Q,L,x2,_⟩:=u.ex;refine q.append F u ⟨O,e,L,x2⟩ H w E (I.seq (p:=λ_=>True) E λ_ _=>trivial) d D λn M m A=>?_;rw[grow_grow j]at m;exact N n M m (y.step A)
structure aiT (h:hZ) (c:Nat->Nat) (top lo:Nat) (e:TypeId) (s:Sl) (k:Nat) (f:α->ba) (ll:List (List α)) (rs:List Sl):Prop where
 own:dQ h c top e s 1 bo rs
 len:j9 rs=j9 ll
 row:∀(i:Nat) r l,rs[i]?=dB r->ll[i]?=dB l->Seq h (λb=>b<h.size/\lo<=c b/\c b<lo+j9 ll) r k f l
theorem jx:∀x,∀c∈bo x,c.oneCell'=eR:=by intro x c a;simp only[bo,qB]at a;subst a;rfl
end
structure aiU {α:Type} (h:hZ) (r:Nat) (g:α->eX) (kvs:List (Int×α)):Prop where
 ex:∃es clock,h[r]?=dB (.map es clock)/\es.toList.map (λe=>(e.key,e.val))=kvs.map (λp=>(Value.int .i64 p.1,g p.2))
section
variable {α:Type} {P:Program} {h h':hZ} {r:Nat} {g:α->eX} {kvs:List (Int×α)}
end
theorem RL(x n:Int)(b:0<n):x%n=if x.tmod n<0 then x.tmod n+n else x.tmod n:=by
 have e:=vt x b;have d:-n<x.tmod n:=Int.lt_tmod_of_pos x b;have c:=Int.tmod_add_mul_tdiv x n;have a:0<=(if x.tmod n<0 then x.tmod n+n else x.tmod n)/\(if x.tmod n<0 then x.tmod n+n else x.tmod n)<n:=by split<;>omega
 have e2:x=(if x.tmod n<0 then x.tmod n+n else x.tmod n)+n*(if x.tmod n<0 then x.tdiv n-1 else x.tdiv n):=by
  split
  ·rw[Int.mul_sub];omega
  ·omega
 conv=>lhs;rw[e2]
 rw[Int.add_mul_emod_self_left];exact Int.emod_eq_of_lt a.1 a.2
theorem aH{α:Type}(l:List α)(k:Nat)(h:k<j9 l:=by omega):l.take (k+1)=l.take k++[l[k]]:=zG h
theorem eT:∀x,∀c∈aq x,c.oneCell'=eR:=by intro x c a;simp only[aq,qB]at a;subst a;rfl
theorem iK:∀x,∀c∈aD x,c.oneCell'=eR:=by intro x c a;simp only[aD,qB]at a;subst a;rfl
theorem up{h c d:hZ}(a:aX (λb=>b<h.size) h c)(b:aX (λb=>b<c.size) c d):aX (λb=>b<h.size) h d:=
 a.then b λ_ e _=>q7 e a.1
theorem any{h c:hZ}(a:aX (λ_=>True) h c):aX (λb=>b<h.size) h c:=a.mono λ_ _ _=>trivial
theorem Seq.up{α:Type}{h h':hZ}{s:Sl}{k:Nat}{f:α->ba}{l:List α}(c:Seq h (λb=>b<h.size) s k f l)(a:aX (λb=>b<h.size) h h'):Seq h' (λb=>b<h'.size) s k f l:=
 (c.aj a).mono λ_ d=>q7 d a.1
theorem iC.up{α:Type}{h h':hZ}{s:Sl}{k:Nat}{f:α->ba}{l:List (List α)}{rs:List Sl}(c:iC h (λb=>b<h.size) s k f l rs)(a:aX (λb=>b<h.size) h h'):iC h' (λb=>b<h'.size) s k f l rs:=
 (c.aj a).mono λ_ d=>q7 d a.1
theorem Seq.drop{α:Type}{h:hZ}{p:aB}{s:Sl}{w:Nat}{f:α->ba}{l:List α}(c:Seq h p s w f l)(k:Nat)(m:s.len<=s.cap):
  Seq h p ⟨if s.cap=k then s.ptr else s.ptr.map (·.add (k*w)),s.len-k,s.cap-k⟩ w f (l.drop k):=by
 have d:=c.len;refine⟨u6,λi x a=>?_⟩;rw[wz]at a;obtain⟨b,o,j,g,h3⟩:=c.elem _ x a;have e:=(qm.1 a).1;refine⟨b,o+k*w,?_,g,?_⟩
 ·dsimp only;rw[j3 k4,j,qY,add_eq]
 ·rw[show o+k*w+i*w=o+(k+i)*w by rw[Nat.add_mul];omega];exact h3
theorem Seq.take{α:Type}{h:hZ}{p:aB}{s:Sl}{w:Nat}{f:α->ba}{l:List α}(b:Seq h p s w f l)(k:Nat)(c:k<=j9 l):
  Seq h p ⟨s.ptr,k,s.cap⟩ w f (l.take k):=by
 refine⟨k8,λi x a=>?_⟩;rw[y5]at a;split at a
 ·exact b.elem i x a
 ·cases a
theorem getD_lt{α:Type}{l:List α}{d:α}{i:Nat}(h:i<j9 l:=by omega):l.getD i d=l[i]:=by rw[qe,qd h];rfl
structure HP where
 p:hZ->aB->Prop
 loc:∀{h h':hZ} {q:aB},p h q->aX q h h'->p h' q
 mono:∀{h:hZ} {q q':aB},p h q->(∀b,q b->q' b)->p h q'
def emp:HP:=⟨λ_ _=>True,λ_ _=>trivial,λ_ _=>trivial⟩
def al{α:Type}(e:TypeId)(s:Sl)(k:Nat)(f:α->ba)(l:List α):HP:=
 ⟨λh q=>Own h e s k f l/\∀b,s.on b->q b,λa g=>⟨a.1.aj g a.2,a.2⟩,λa d=>⟨a.1,λb c=>d b (a.2 b c)⟩⟩
def ao(a:hU)(e:TypeId)(b:ba):HP:=
 ⟨λh q=>cA h a e b/\q a.block,λx d=>⟨x.1.aj d x.2,x.2⟩,λx c=>⟨x.1,c _ x.2⟩⟩
def uh{α:Type}(s:Sl)(k:Nat)(f:α->ba)(l:List α):HP:=
 ⟨λh q=>Seq h q s k f l,λa c=>a.aj c,λa b=>a.mono b⟩
def fP{α:Type}(e:TypeId)(s:Sl)(k:Nat)(f:α->ba)(m:List (List α)):HP:=
 ⟨λh q=>∃(rs:List Sl) (j:aB),Own h e s 1 bo rs/\(∀b,s.on b->q b/\¬j b)/\(∀b,j b->q b)/\rs.length=j9 m/\∀(i:Nat) r l,rs[i]?=dB r->m[i]?=dB l->Seq h j r k f l,
  λ⟨rs,j,a,b,c,d,e⟩ hp=>⟨rs,j,a.aj hp λx g=>(b x g).1,b,c,d,λi r l o n=>(e i r l o n).aj (hp.mono λx _ g=>c x g)⟩,
  λ⟨rs,j,a,b,c,d,e⟩ hq=>⟨rs,j,a,λx g=>⟨hq x (b x g).1,(b x g).2⟩,λx g=>hq x (c x g),d,e⟩⟩
structure aa (B:aB) (h0 h:hZ) (As:List HP):Prop where
 low:∀b,B b->b<h0.size
 aj:aX B h0 h
 ex:∃c:Nat->Nat,(∀b,B b->c b=0)/\∀(i:Nat) (A:HP),As[i]?=dB A->A.p h (λb=>b<h.size/\c b=i+1)
abbrev Sp(a h:hZ)(As:List HP):Prop:=aa (λb=>b<a.size) a h As
section
variable {B:aB} {h0 h h':hZ} {As Bs:List HP} {A A2 D:HP} {c:Nat->Nat} {i j:Nat}
theorem Sp.refl(h:hZ):Sp h h []:=⟨λ_ h=>h,aX.refl _ _,λ_=>0,λ_ _=>rfl,λi A a=>by simp at a⟩
theorem aa.at(H:aa B h0 h As)(i:Nat)(d:As[i]?=dB A):A.p h (λb=>b<h.size):=by obtain⟨c,_,a⟩:=H.ex;exact A.mono (a i A d) λ_ e=>e.1
theorem aa.fin(H:aa B h0 h As)(i:Nat)(e:As[i]?=dB A):A.p h (λb=>¬B b/\b<h.size):=by obtain⟨c,g,d⟩:=H.ex;exact A.mono (d i A e) λb f=>⟨λa=>by have:=g b a;omega,f.1⟩
theorem Sp.fresh(H:Sp h0 h As)(i:Nat)(a:As[i]?=dB A):A.p h (λb=>h0.size<=b/\b<h.size):=
 A.mono (aa.fin H i a) λb c=>⟨k4,c.2⟩
theorem aa.comp(H:aa B h0 h As)(R:Sp h h' Bs):aa B h0 h' (As++Bs):=by
 obtain⟨k,j,l,n,m⟩:=H;obtain⟨_,e,g,q,p⟩:=R;have c:=j.1;refine⟨k,j.then e λb a _=>q7 a c,λb=>if b<h.size then l b else if g b=0 then 0 else As.length+g b,λb a=>?_,λi A d=>?_⟩
 ·dsimp only;rw[j1 (q7 (k b a) c)];exact n b a
 ·by_cases o:i<j9 As
  ·rw[qp o]at d;refine A.mono (A.loc (m i A d) (e.mono λb _ a=>a.1)) λb a=>⟨q7 a.1 e.1,?_⟩
   dsimp only;rw[j1 a.1];exact a.2
  ·rw[qj k4]at d;refine A.mono (p _ A d) λb a=>⟨a.1,?_⟩
   have:¬b<h.size:=λf=>by have:=q b f;omega
   dsimp only;rw[j3 this,j3 k4];omega
theorem aa.up(H:aa B h0 h As)(R:aX (λb=>b<h.size) h h'):aa B h0 h' As:=by have:=H.comp (Bs:=[]) ⟨λ_ h=>h,R,λ_=>0,λ_ _=>rfl,λi A a=>by simp at a⟩;simpa using this
theorem Sp.one(R:aX (λb=>b<h.size) h h')(d:A.p h' λb=>h.size<=b/\b<h'.size):Sp h h' [A]:=by
 refine⟨λ_ h=>h,R,λb=>if b<h.size then 0 else 1,λb c=>j1 c,λi A2 a=>?_⟩;cases i with
 |succ i=>simp at a
 |zero=>
  simp at a;subst a;exact A.mono d λb c=>⟨c.2,by dsimp only;rw[j3 k4]⟩
theorem Sp.zip(R:aX (λb=>b<h.size) h h'):Sp h h' []:=aa.up (Sp.refl h) R
theorem aa.enter(q:aB)(c:Nat->Nat)(f:∀b,q b->b<h.size)(a:∀(i:Nat) (A:HP),As[i]?=dB A->A.p h λb=>q b/\c b=i+1):aa (λb=>b<h.size/\¬q b) h h As:=by
 classical
 refine⟨λb d=>d.1,aX.refl _ _,λb=>if q b then c b else 0,λb d=>j3 d.2,λi A e=>A.mono (a i A e) λb d=>⟨f b d.1,?_⟩⟩;dsimp only;rw[j1 d.1];exact d.2
theorem aa.Zq(q:aB)(d:∀b,q b->b<h.size)(a:A.p h q):aa (λb=>b<h.size/\¬q b) h h [A]:=
 .enter q (λ_=>1) d λi A2 c=>by
  cases i with
  |succ i=>simp at c
  |zero=>simp at c;subst c;exact A.mono a λb e=>⟨e,k0⟩
theorem aa.DN(l:∀b,B b->b<h0.size)(f:aX B h0 h)(z:∀b,B b->c b=0)(a:∀(i:Nat) (A:HP),As[i]?=dB A->A.p h λb=>b<h.size/\c b=i+1)
  (k:aX (λb=>¬(b<h.size/\c b=i+1)) h h') (n:D.p h' λb=>b<h'.size/\((b<h.size/\c b=i+1)∨h.size<=b)):aa B h0 h' (As.set i D):=by
 refine⟨l,f.then k λb _ d m=>by have:=z b d;omega,grow c h.size (i+1),λb d=>?_,λj A e=>?_⟩
 ·rw[gE (q7 (l b d) f.1)];exact z b d
 ·rw[zb]at e;split at e
  ·rename_i g;subst g;split at e
   ·injection e with e
    subst e;refine D.mono n λb d=>⟨d.1,?_⟩
    rcases d.2 with h1|h1
    ·rw[gE h1.1];exact h1.2
    ·exact sf h1
   ·cases e
  ·rename_i g;refine A.mono (A.loc (a j A e) (k.mono λb _ d m=>k4)) λb d=>⟨q7 d.1 k.1,?_⟩
   rw[gE d.1];exact d.2
theorem aa.step(H:aa B h0 h As)(i:Nat)(f:As[i]?=dB A)(g:∀q:aB,A.p h q->(∀b,q b->b<h.size)->aX (λb=>¬q b) h h'/\D.p h' λb=>b<h'.size/\(q b∨h.size<=b)):aa B h0 h' (As.set i D):=by obtain⟨d,p,c,z,a⟩:=H;obtain⟨k,e⟩:=g _ (a i A f) λb j=>j.1;exact aa.DN d p z a k e
theorem aa.gF(H:aa B h0 h As)(i:Nat)(d:As[i]?=dB A)(e:∀q:aB,A.p h q->D.p h q):aa B h0 h (As.set i D):=
 H.step i d λq f a=>⟨aX.refl _ _,D.mono (e q f) λb c=>⟨a b c,.inl c⟩⟩
theorem aa.merge(H:aa B h0 h As)(i j:Nat)(o:i≠j)(u:As[i]?=dB A)(q:As[j]?=dB A2)
  (r:∀m l:aB,(∀b,m b->¬l b)->A.p h m->A2.p h l->D.p h λb=>m b∨l b):aa B h0 h ((As.set i D).set j emp):=by
 obtain⟨s,p,c,z,a⟩:=H;refine⟨s,p,λb=>if c b=j+1 then i+1 else c b,λb e=>?_,λk n d=>?_⟩
 ·have:=z b e;dsimp only;rw[j3 k4];exact this
 ·rw[zb]at d;split at d
  ·split at d
   ·cases d;trivial
   ·cases d
  ·rename_i t;rw[zb]at d;split at d
   ·rename_i g;subst g;split at d
    ·injection d with d
     subst d;refine D.mono (r _ _ (λb f v=>k4) (a i A u) (a j A2 q)) λb e=>?_;rcases e with f|f
     ·exact⟨f.1,by dsimp only;rw[j3 k4];exact f.2⟩
     ·exact⟨f.1,by dsimp only;rw[j1 f.2]⟩
    ·cases d
   ·rename_i g;refine n.mono (a k n d) λb e=>⟨e.1,?_⟩
    dsimp only;rw[j3 k4];exact e.2
theorem aa.pick(H:aa B h0 h As)(f:Nat->Nat)(m:∀i j,f i=f j->i=j)(k:∀(i:Nat) (A2:HP),Bs[i]?=dB A2->As[f i]?=dB A2):aa B h0 h Bs:=by
 obtain⟨l,p,c,z,a⟩:=H
 classical
 refine⟨l,p,λb=>if e:∃i,c b=f i+1 then e.choose+1 else 0,λb e=>?_,λi A2 g=>?_⟩
 ·have:=z b e;dsimp only;rw[dif_neg];rintro⟨i,g⟩;omega
 ·refine A2.mono (a _ _ (k i A2 g)) λb e=>⟨e.1,?_⟩
  have d:∃i,c b=f i+1:=⟨i,e.2⟩
  dsimp only;rw[dif_pos d];have o:=d.choose_spec;have n:=m d.choose i k4;rw[n]
theorem aa.take(H:aa B h0 h As)(n:Nat)(a:∀(i:Nat) (A2:HP),Bs[i]?=dB A2->As[n+i]?=dB A2):aa B h0 h Bs:=H.pick (λi=>n+i) (λ_ _ h=>k4) a
end
section
variable {B:aB} {α:Type} {C:Ctx} {h0 h h':hZ} {As:List HP} {i e t t2:Nat} {s v:Sl} {k by_:Nat} {f:α->ba} {l l2:List α} {a:hU} {cs z:ba} {p:aB} {ti:TI}
theorem aa.own(H:aa B h0 h As)(i:Nat)(a:As[i]?=dB (al e s k f l)):Own h e s k f l:=(H.at i a).1
theorem aa.seq(H:aa B h0 h As)(i:Nat)(a:As[i]?=dB (al e s k f l))(c:∀x,j9 (f x)=k):Seq h (λb=>b<h.size) s k f l:=(H.at i a).1.seq c (H.at i a).2
theorem aa.rd(H:aa B h0 h As)(i:Nat)(a:As[i]?=dB (uh s k f l)):Seq h (λb=>b<h.size) s k f l:=H.at i a
theorem aa.box(H:aa B h0 h As)(i:Nat)(b:As[i]?=dB (ao a e cs)):cA h a e cs:=(H.at i b).1
theorem aa.oS(H:aa B h0 h As)(i:Nat)(q:As[i]?=dB (al e s k f l)){β:Type}{n m:Nat}{g:β->ba}{l':List β}(o:aX (λb=>¬s.on b) h h')(p:Own h' n s m g l'):aa B h0 h' (As.set i (al n s m g l')):=
 H.step i q λ_ j c=>⟨o.mono λb _ a d=>a (j.2 b d),p,λb a=>⟨q7 (c b (j.2 b a)) o.1,.inl (j.2 b a)⟩⟩
theorem aa.CI(H:aa B h0 h As)(i:Nat)(l:As[i]?=dB (ao a e cs)){c:ba}(j:aX (λb=>b≠a.block) h h')(k:cA h' a e c):aa B h0 h' (As.set i (ao a e c)):=
 H.step i l λq g d=>⟨j.mono λb _ m f=>m (by rw[f];exact g.2),k,⟨q7 (d _ g.2) j.1,.inl g.2⟩⟩
theorem aa.freeze(H:aa B h0 h As)(i:Nat)(b:As[i]?=dB (al e s k f l))(c:∀x,j9 (f x)=k):aa B h0 h (As.set i (uh s k f l)):=H.gF i b λ_ a=>a.1.seq c a.2
theorem aa.set(q:C.Ok)(H:aa B h0 h As)(i:Nat)(g:As[i]?=dB (al e s k f l))(p:∀x,j9 (f x)=k)(u:C.T.get t=dB ti){x:Int}(n:Nat)(o:x=n)(j:n<j9 l){b:eX}(y:α)(m:b.cells=(f y).toArray)(d:ti.size=k)
  (c:(f y).all (·.oneCell')=eR) {K:hZ->Prop} (r:∀h',aa B h0 h' (As.set i (al e s k f (l.set n y)))->K h'):
  ∃a:hU,(s.ptr=dB a/\0<=x/\x<((s.len:Nat):Int))/\af C.P (qf t (.pointer (dB (a.add (x.toNat*k)))) b) h λ_ h'=>K h':=
 (H.own i g).set q p u n o j y m d c λh' z w _=>r h' (H.oS i g w z)
theorem aa.push(J:C.Ok)(H:aa B h0 h As)(i:Nat)(Q:As[i]?=dB (al e s k f l))(G:ce C.toCG t e k z by_)(O:j9 z=k)(q:0<by_/\by_<=128)(F:∀x,j9 (f x)=k)
  (n:∀x,∀c∈f x,c.oneCell'=eR) (x:α) {parts:Array (Nat×eX)} (d:wq (λi=>dB (i*k,k)) (ja z 1).toArray parts.toList=dB ([x].flatMap f).toArray)
  (p:1*k<=2^20) (r:j9 l+1<=2^32) {ty:Nat} {K:Sl->hZ->Prop}
  (N:∀o h',aa B h0 h' (As.set i (al e o k f (l++[x])))->K o h'):
  aA C.P (qq t 1 parts) (.one (.sc .slc)) h λv M=>aA C.P (qu #[t,t] ty #[.slice s.ptr s.len s.cap,.slice v.ptr v.len v.cap]) (.one (.sc .slc)) M K:=by
 obtain⟨I,L,c,E,a⟩:=H;have w:=a i _ Q;have D:dQ h c (i+1) e s k f l:=⟨w.1,λb j=>(w.2 b j).2⟩
 refine D.push J G O q F n x d p r λo h' g u=>N o h' ?_;refine aa.DN I L E a (u.mono λb j y A=>y ⟨j,A⟩) ⟨g.own,λb j=>⟨g.own.lt j,?_⟩⟩;have:=g.bt b j;by_cases m:b<h.size
 ·rw[gE m]at this;exact .inl ⟨m,this⟩
 ·exact .inr k4
theorem aa.append(L:C.Ok)(H:aa B h0 h As)(i:Nat)(Q:As[i]?=dB (al e s k f l))(G:ce C.toCG t e k z by_)(J:∃i e2,C.T.get t2=dB i/\i.df=.slice e2)(O:j9 z=k)(o:0<by_/\by_<=128)(F:∀x,j9 (f x)=k)
  (A:Seq h p v k f l2) (m:∀x,∀c∈f x,c.oneCell'=eR) (q:j9 l+j9 l2<=2^32) {ty:Nat} {K:Sl->hZ->Prop}
  (N:∀n h',aa B h0 h' (As.set i (al e n k f (l++l2)))->K n h'):
  aA C.P (qu #[t,t2] ty #[.slice s.ptr s.len s.cap,.slice v.ptr v.len v.cap]) (.one (.sc .slc)) h K:=by
 obtain⟨I,M,c,E,a⟩:=H;have u:=a i _ Q;have D:dQ h c (i+1) e s k f l:=⟨u.1,λb g=>(u.2 b g).2⟩
 refine D.append L G J O o F A m q λn h' d r=>N n h' ?_;refine aa.DN I M E a (r.mono λb g w y=>w ⟨g,y⟩) ⟨d.own,λb g=>⟨d.own.lt g,?_⟩⟩;have:=d.bt b g;by_cases j:b<h.size
 ·rw[gE j]at this;exact .inl ⟨j,this⟩
 ·exact .inr k4
theorem NM{h h':hZ}{n:Nat}(i:n=h.size)(d:Own h' e s k f l)(g:s.ptr=dB ⟨n,0,eH⟩)(c:aX (λ_=>True) h h'):Sp h h' [al e s k f l]:=
 .one (any c) ⟨d,λb a=>⟨by obtain⟨o,a⟩:=a;rw[g]at a;cases a;omega,d.lt a⟩⟩
theorem aa.make(u:C.Ok)(H:aa B h0 h As)(f:α->ba)(s:ce C.toCG t e k z by_)(c:0<by_/\by_<=128)(j:α)(D:f j=z)(g:j9 z=k){v o:IntKind}{n l:Int}(m b:Nat)(p:n=m)(q:l=b)(i:m<=b)(d:b<=2^32)
  {K:Sl->hZ->Prop} (A:∀a h',a.len=m->a.cap=b->aa B h0 h' (As++[al e a k f (qg m j)])->K a h'):
  aA C.P (qG t (.int v n) (.int o l)) (.one (.sc .slc)) h K:=
 run_make u s c j D g m b p q i d λa h' x y w r _=>A a h' (by rw[x.len];simp) w (H.comp (NM k0 x y r))
theorem aa.lit(o:C.Ok)(H:aa B h0 h As)(f:α->ba)(m:ce C.toCG t e k z by_)(d:j9 z=k){n:Nat}{parts:Array (Nat×eX)}(l:List α)(g:j9 l=n)(c:n*k<=2^20)
  (a:wq (λi=>dB (i*k,k)) (ja z n).toArray parts.toList=dB (l.flatMap f).toArray) {K:Sl->hZ->Prop}
  (p:∀b h',aa B h0 h' (As++[al e b k f l])->K b h'):
  aA C.P (qq t n parts) (.one (.sc .slc)) h K:=
 NL o m d l g c a λb h' x y j _=>p b h' (H.comp (NM k0 x y j))
theorem NN{h h':hZ}(d:a.block=h.size)(c:cA h' a e cs)(b:aX (λ_=>True) h h'):Sp h h' [ao a e cs]:=
 .one (any b) ⟨c,k4,c.lt⟩
theorem aa.alloc(b:C.Ok)(H:aa B h0 h As)(d:C.T.get t=dB ti){K:hU->hZ->Prop}(e:∀a h',aa B h0 h' (As++[ao a t ti.zero])->K a h'):
  aP C.P (qO t eR (.tuple #[])) h K:=
 Bf b d λa h' x y c _=>e a h' (H.comp (NN x y c))
theorem aa.boxed(H:aa B h0 h As){P:Program}{v:eX}{K:hU->hZ->Prop}(c:∀a h',aa B h0 h' (As++[ao a t v.cells.toList])->K a h'):
  aP P (qN t v) h K:=
 Wt λa h' x y b _=>c a h' (H.comp (NN x y b))
theorem aa.store(g:C.Ok)(H:aa B h0 h As)(i:Nat)(f:As[i]?=dB (ao a e cs))(j:C.T.get t=dB ti)(off:Nat){v:eX}(vs:ba)(k:v.cells=vs.toArray)(d:ti.size=j9 vs)
  (c:vs.all (·.oneCell')=eR) (b:off+j9 vs<=j9 cs) {K:Unit->hZ->Prop}
  (l:∀h',aa B h0 h' (As.set i (ao a e (cs.take off++vs++cs.drop (off+j9 vs))))->K () h'):
  af C.P (qf t (.pointer (dB (a.add off))) v) h K:=
 run_store g (H.box i f) j off vs k d c b λh' x y _=>l h' (H.CI i f y x)
theorem aa.lC(f:C.Ok)(H:aa B h0 h As)(i:Nat)(g:As[i]?=dB (ao a e cs))(j:C.T.get t=dB ti){v:eX}(vs:ba)(k:v.cells=vs.toArray)(c:ti.size=j9 vs)
  (b:vs.all (·.oneCell')=eR) (d:j9 vs<=j9 cs) {K:Unit->hZ->Prop}
  (l:∀h',aa B h0 h' (As.set i (ao a e (vs++cs.drop vs.length)))->K () h'):
  af C.P (qf t (.pointer (dB a)) v) h K:=
 H.store f i g j 0 vs k c b k4 (λh' x=>l h' (by simpa using x))
theorem aa.nil(H:aa B h0 h As)(e k:Nat)(f:α->ba):aa B h0 h (As++[al e ⟨eH,0,0⟩ k f []]):=
 H.comp (.one (aX.refl _ _) ⟨Own.nil h e k f,λb a=>by obtain⟨o,a⟩:=a;cases a⟩)
theorem aa.Lt(H:aa B h0 h As)(e k:Nat)(f:α->ba):aa B h0 h (As++[fP e ⟨eH,0,0⟩ k f []]):=
 H.comp (.one (aX.refl _ _) ⟨[],λ_=>False,Own.nil h e 1 bo,λb a=>(by obtain⟨o,a⟩:=a;cases a),λ_ a=>a.elim,rfl,λi r l h=>o5⟩)
theorem aa.xw(hC:C.Ok)(H:aa B h0 h As)(i j:Nat)(y:i≠j){I:List (List α)}{r:Sl}{x:List α}(T:As[i]?=dB (fP e s k f I))(hj:As[j]?=dB (uh r k f x))(he:ce C.toCG t e 1 [.slice eH 0 0] 24)
  (ad:j9 I+1<=2^32) {ty:Nat} {K:Sl->hZ->Prop} (hk:∀O h',aa B h0 h' ((As.set j emp).set i (fP e O k f (I++[x])))->K O h'):
  aA C.P (qq t 1 #[(0,.slice r.ptr r.len r.cap)]) (.one (.sc .slc)) h λv u=>aA C.P (qu #[t,t] ty #[.slice s.ptr s.len s.cap,.slice v.ptr v.len v.cap]) (.one (.sc .slc)) u K:=by
 have Y:=H.merge i j y T hj (D:=⟨λh q=>∃(rs:List Sl) (g:aB),Own h e s 1 bo rs/\(∀b,s.on b->q b/\¬g b)/\(∀b,g b->q b)/\rs.length=j9 I/\(∀(i:Nat) r l,rs[i]?=dB r->I[i]?=dB l->Seq h g r k f l)/\Seq h g r k f x,
  λ⟨rs,g,a,b,c,d,e,f⟩ hp=>⟨rs,g,a.aj hp λx n=>(b x n).1,b,c,d,λi r l u A=>(e i r l u A).aj (hp.mono λx _ n=>c x n),f.aj (hp.mono λx _ n=>c x n)⟩,
  λ⟨rs,g,a,b,c,d,e,f⟩ hq=>⟨rs,g,a,λx n=>⟨hq x (b x n).1,(b x n).2⟩,λx n=>hq x (c x n),d,e,f⟩⟩)
  (λg V hd hA hB=>by
   obtain⟨rs,q3,a,b,c,d,e'⟩:=hA;refine⟨rs,λb=>q3 b∨V b,a,λx n=>⟨.inl (b x n).1,λN=>N.elim (b x n).2 (hd x (b x n).1)⟩,λx n=>n.elim (λh=>.inl (c x h)) .inr,d,λi r l u A=>(e' i r l u A).mono λ_ h=>.inl h,Seq.mono hB λ_ h=>.inr h⟩)
 have o:i<j9 As:=(qm.1 T).1;obtain⟨lo,pp,c,zz,a⟩:=Y;have ha:=a i _ (by rw[zN (Ne.symm y),zq o]);obtain⟨rs,g,a1,a2,a3,a4,a5,W⟩:=ha;let U:Nat->Nat:=λb=> @ite _ (g b) (Classical.propDecidable _) (j9 As+2) (c b);have F:∀b,g b->b<h.size/\c b=i+1:=a3;have ho:dQ h U (i+1) e s 1 bo rs:=⟨a1,λb m=>by
  have:=a2 b m;show @ite _ (g b) (Classical.propDecidable _) _ _=_;rw[j3 this.2];exact this.1.2⟩
 refine ho.push hC he k0 k6 (λ_=>rfl) jx r k0 k6 k4 λO h' z G=>hk O h' ?_;rw[vl _ _ (Ne.symm y)];rw[<-yM (l:=As) (i:=i),vl _ _ y];have L:∀b,g b->U b≠i+1:=λb m=>by
  show @ite _ (g b) (Classical.propDecidable _) _ _≠_;rw[j1 m];omega
 refine aa.DN lo pp zz a (G.mono λb m X Z=>X ⟨m,?_⟩) ⟨rs++[r],λb=>g b/\b<h.size,z.own,λb m=>?_,λb m=>⟨q7 m.2 G.1,.inl ⟨m.2,(F b m.1).2⟩⟩,by simp[a4],λR r' l' u A=>?_⟩
 ·by_cases E:g b
  ·exact(F b E).2
  ·have w:@ite _ (g b) (Classical.propDecidable _) (j9 As+2) (c b)=i+1:=Z;rw[j3 E]at w;exact w
 ·have p:=z.bt b m;by_cases o:b<h.size
  ·rw[gE o]at p;have J:¬g b:=λE=>L b E p;have w:@ite _ (g b) (Classical.propDecidable _) (j9 As+2) (c b)=i+1:=p;rw[j3 J]at w;exact⟨⟨z.own.lt m,.inl ⟨o,w⟩⟩,λN=>J N.1⟩
  ·exact⟨⟨z.own.lt m,.inr k4⟩,λN=>o N.2⟩
 ·have M:∀{S:Sl} {l:List α},Seq h g S k f l->Seq h' (λb=>g b/\b<h.size) S k f l:=λhs=>
   (hs.mono (q:=λb=>g b/\b<h.size) λb m=>⟨m,(F b m).1⟩).aj (G.mono λb _ m=>L b m.1)
  by_cases Q:R<j9 rs
  ·rw[qp Q]at u;rw[qp k4]at A;exact M (a5 R r' l' u A)
  ·have:R=j9 rs:=by have:=(qm.1 u).1;simp at this;omega
   subst this;simp at u;rw[a4]at A;simp at A;subst u;subst A;exact M W
theorem aa.rows(H:aa B h0 h As)(i:Nat){g:List (List α)}(m:As[i]?=dB (fP e s k f g)):∃rs,iC h (λb=>b<h.size) s k f g rs:=by obtain⟨rs,p,a,b,c,d,e⟩:=H.at i m;exact⟨rs,a.seq (λ_=>rfl) λx n=>(b x n).1,d,λi r l o j=>(e i r l o j).mono c⟩
end
theorem acD(vs:ba):∀(pre old post:ba),j9 old=j9 vs->((vs.zipIdx 0).foldl (λ(cs:Array eX) (p:eX×Nat)=>cs.setIfInBounds (j9 pre+p.2) p.1) (pre++old++post).toArray)=(pre++vs++post).toArray:=by
 have b:∀(vs pre old post:ba) (k:Nat),j9 old=j9 vs->j9 pre=j9 pre->∀n,n+k=j9 pre->((vs.zipIdx k).foldl (λ(cs:Array eX) (p:eX×Nat)=>cs.setIfInBounds (n+p.2) p.1) (pre++old++post).toArray)=(pre++vs++post).toArray:=by
  intro vs
  induction vs with
  |nil=>intro pre old post k a _ n _;rw[q8 a];rfl
  |cons v vs ih=>
   intro pre old post k a _ n c;cases old with
   |nil=>simp at a
   |cons u old=>
    rw[List.zipIdx_cons,zC];have e:(pre++(u::old)++post).toArray.setIfInBounds (n+k) v=((pre++[v])++old++post).toArray:=by rw[c];apply yq;simp
    dsimp only;rw[e,ih (pre++[v]) old post (k+1) l7 k0 n k8];simp
 intro pre old post h;exact b vs pre old post 0 h k0 pre.length k4
theorem RM{a:Nat->Option (Nat×Nat)}{i:Nat}{v:eX}{vs pre old post:ba}{rest:List (Nat×eX)}(c:v.cells=vs.toArray)(d:a i=dB (j9 pre,j9 vs))(b:j9 old=j9 vs):
  wq a (pre++old++post).toArray ((i,v)::rest)=wq a (pre++vs++post).toArray rest:=by
 conv=>lhs;unfold wq
 simp only[d,c];rw[j3 k8];congr 1;have:=acD vs pre old post b;simpa using this
section
variable {C:Ctx} {t:Nat} {i:TI} {h:hZ}
theorem Ga(j:C.Ok)(m:C.T.get t=dB i){o:List (Nat×TypeId)}(h:i.df=.struct o){c:List (Nat×Nat)}(g:placesOf C.T o=dB c){vs:List (Nat×eX)}{cells:Array eX}
  (a:wq (λn=>c[n]?) i.zero.toArray vs=dB cells):aL C.P (Instr.build t vs.toArray) (.agg cells):=by
 obtain⟨z,r,k⟩:=sH j.toOk m;have b:i.zero.toArray=z.cells:=by rw[<-k]
 have l:=j.df m;rw[h]at l;obtain⟨p,q,rfl⟩:=pE l;refine r.bind ((aV q).bind ?_);have d:aL C.P (p.mapM λf=>(do pure (f.offset,<-sizeOf f.type):Sem (Nat×Nat))) c.toArray:=by rw[Array.mapM_eq_mapM_toList];intro w;have:=nW j.toOk g w;rw[map_eq_pure_bind,Sem.run_bind,this];rfl
 refine d.bind ?_;have e:wq (λn=>c.toArray[n]?) z.cells vs.toArray.toList=dB cells:=by rw[<-b];simpa using a
 rw[e];exact .pure
end
theorem take_set{α:Type}(l:List α)(n:Nat)(x:α)(h:n<j9 l):l.take n++[x]++l.drop (n+1)=l.set n x:=by rw[wZ,j1 h];simp
section
variable {B:aB} {C:Ctx} {h0 h h':hZ} {As:List HP} {e t:Nat} {a:hU} {cs:ba} {ti:TI}
theorem aa.storeAt(f:C.Ok)(H:aa B h0 h As)(i:Nat)(g:As[i]?=dB (ao a e cs))(j:C.T.get t=dB ti){off:Nat}{v:eX}(k:v.cells=#[v])(d:ti.size=1)
  (c:v.oneCell'=eR) (b:off<j9 cs) {K:Unit->hZ->Prop}
  (l:∀h',aa B h0 h' (As.set i (ao a e (cs.set off v)))->K () h'):
  af C.P (qf t (.pointer (dB (a.add off))) v) h K:=
 H.store f i g j off [v] k d oj k8 λh' x=>l h' (by rw[<-take_set _ _ _ b];simpa using x)
theorem aa.storeAll(f:C.Ok)(H:aa B h0 h As)(i:Nat)(g:As[i]?=dB (ao a e cs))(j:C.T.get t=dB ti){v:eX}(vs:ba)(k:v.cells=vs.toArray)(c:ti.size=j9 vs)
  (b:vs.all (·.oneCell')=eR) (d:j9 vs=j9 cs) {K:Unit->hZ->Prop}
  (l:∀h',aa B h0 h' (As.set i (ao a e vs))->K () h'):
  af C.P (qf t (.pointer (dB a)) v) h K:=
 H.lC f i g j vs k c b k4 λh' x=>l h' (by rw[zi k4,qL]at x;exact x)
end
theorem uM(n:Nat)(a:n<=9223372036854775807:=by omega):qc xi (n:Int)=n:=ag _
abbrev Rd{α:Type}(h:hZ)(s:Sl)(k:Nat)(f:α->ba)(l:List α):Prop:=Seq h (λb=>b<h.size) s k f l
abbrev fZ{α:Type}(h:hZ)(s:Sl)(k:Nat)(f:α->ba)(a:List (List α)):Prop:=∃rs,iC h (λb=>b<h.size) s k f a rs
section
variable {α:Type} {B:aB} {h0 h h':hZ} {As:List HP} {s:Sl} {k e:Nat} {f:α->ba} {l:List α} {ll:List (List α)}
theorem fZ.up(a:fZ h s k f ll)(c:aX (λb=>b<h.size) h h'):fZ h' s k f ll:=by obtain⟨rs,a⟩:=a;exact⟨rs,iC.up a c⟩
theorem fZ.len(a:fZ h s k f ll):s.len=j9 ll:=by obtain⟨rs,a⟩:=a;exact a.RH
theorem fZ.get(b:fZ h s k f ll){i:Int}(n:Nat)(e:i=n)(c:n<j9 ll){K:Sl->Prop}(g:∀r,Rd h r k f ll[n]->K r):
  ∃a:hU,(s.ptr=dB a/\0<=i/\i<((s.len:Nat):Int))/\∃x:Sl,hY h (a.add (i.toNat*1))=dB (.slice x.ptr x.len x.cap)/\K x:=by
 obtain⟨rs,b⟩:=b;exact b.get n e c λr d _=>g r d
theorem Seq.isSome{p:aB}(c:Seq h p s k f l)(a:l≠[]):s.ptr.isNone=eS:=by
 cases l with
 |nil=>exact absurd k0 a
 |cons x t=>obtain⟨b,o,d,_⟩:=c.elem 0 x k9;rw[d];rfl
theorem Seq.isNil{p:aB}(b:Seq h p s k f l)(a:s.ptr.isNone=eR):l=[]:=by
 cases l with
 |nil=>rfl
 |cons x t=>rw[b.isSome k9]at a;cases a
theorem aa.Gb(H:aa B h0 h As)(i:Nat)(a:As[i]?=dB (fP e s k f ll)):fZ h s k f ll:=H.rows i a
end
section
variable {B:aB} {h0 h h':hZ} {As Bs:List HP} {A D:HP}
theorem aa.del(H:aa B h0 h As)(i:Nat):aa B h0 h (As.eraseIdx i):=
 H.pick (λj=>if j<i then j else j+1) (λa b d=>by split at d<;>split at d<;>omega) λj A e=>by
  rw[List.getElem?_eraseIdx]at e;split at e
  ·rename_i c;rw[j1 c];exact e
  ·rename_i c;rw[j3 c];exact e
theorem aa.call(H:aa B h0 h As)(i:Nat)(G:As[i]?=dB A)(q:aB)(L:∀q':aB,A.p h q'->∀b,q b->q' b)(R:aa (λb=>b<h.size/\¬q b) h h' (D::Bs)):aa B h0 h' (As.set i D++Bs):=by
 classical
 obtain⟨F,x,g,y,w⟩:=H;obtain⟨_,s,j,K,E⟩:=R;have t:=x.1;have u:=(qm.1 G).1;have n:∀b,q b->b<h.size/\g b=i+1:=L _ (w i A G);have v:∀b,B b->b<h.size/\¬q b:=λb a=>⟨q7 (F b a) t,λm=>by have:=y b a;have:=n b m;omega⟩
 let c:Nat->Nat:=λb=>if b<h.size/\¬q b then(if g b=i+1 then 0 else g b)else if j b=0 then 0 else if j b=1 then i+1 else As.length+j b-1
 have f:∀b,b<h.size/\¬q b->g b≠i+1->c b=g b:=λb a I=>by show ite _ _ _=_;rw[j1 a,j3 I]
 have e:∀b,j b≠0->c b=if j b=1 then i+1 else As.length+j b-1:=λb a=>by
  have:¬(b<h.size/\¬q b):=λm=>a (K b m);show ite _ _ _=_;rw[j3 this,j3 a]
 refine⟨F,x.then s λb _ a=>v b a,c,λb a=>?_,λk l d=>?_⟩
 ·have:=y b a;rw[f b (v b a) k4];exact this
 ·by_cases z:k<j9 As
  ·rw[qp p8,zb]at d;split at d
   ·rename_i r;subst r;injection d with d
    subst d;refine D.mono (E 0 D k0) λb a=>⟨a.1,?_⟩
    rw[e b k4,j1 a.2]
   ·rename_i r;have o:∀b,b<h.size/\g b=k+1->b<h.size/\¬q b:=λb a=>⟨a.1,λm=>by have:=n b m;omega⟩
    refine l.mono (l.loc (w k l d) (s.mono λb _ a=>o b a)) λb a=>⟨q7 a.1 s.1,?_⟩
    rw[f b (o b a) k4];exact a.2
  ·rw[qj p8]at d;rw[zF]at d;have J:=E (k-j9 As+1) l p6;refine l.mono J λb a=>⟨a.1,?_⟩
   rw[e b k4,j3 k4];omega
end
section
variable {B:aB} {α:Type} {h0 h h':hZ} {As Bs:List HP} {A D:HP} {e k:Nat} {s:Sl} {f:α->ba} {l:List α}
theorem aa.off(H:aa B h0 h As)(i j:Nat)(m:i≠j)(g:As[i]?=dB (al e s k f l))(n:As[j]?=dB A):A.p h (λb=>b<h.size/\¬s.on b):=by
 obtain⟨_,_,c,_,a⟩:=H;refine A.mono (a j A n) λb o=>⟨o.1,λd=>?_⟩
 have:=(a i _ g).2 b d;omega
theorem aa.base(H:aa B h0 h As)(i:Nat)(g:As[i]?=dB (al e s k f l)){b:Nat}(j:B b):¬s.on b:=λd=>by
 obtain⟨_,_,c,z,a⟩:=H;have:=(a i _ g).2 b d;have:=z b j;omega
theorem aa.agM(H:aa B h0 h (As++[D]))(i:Nat)(k:i<j9 As):aa B h0 h (As.set i D):=
 H.pick (λj=>if j<j9 As then(if j=i then As.length else j)else j+1) (λa b c=>by split at c<;>split at c<;>(try split at c)<;>(try split at c)<;>omega) λj A f=>by
  have e:j<j9 As:=by have:=(qm.1 f).1;simpa using this
  rw[j1 e];rw[zb]at f;split at f
  ·rename_i d;subst d;rw[j1 k0,qj (ql _),zc];exact f
  ·rename_i d;rw[j3 λg=>d g.symm,qp e];exact f
theorem aa.aeI(H:aa B h0 h As)(i j:Nat){A2:HP}(m:As[i]?=dB A)(n:As[j]?=dB A2):aa B h0 h ((As.set i A2).set j A):=by
 have k:=(qm.1 m).1;have l:=(qm.1 n).1;refine H.pick (λx=>if x=j then i else if x=i then j else x) (λa b c=>by split at c<;>split at c<;>(try split at c)<;>(try split at c)<;>omega) λx o d=>?_;rw[zb,zb]at d;by_cases f:j=x
 ·subst f;simp[l]at d;subst d;simpa using m
 ·by_cases g:i=x
  ·subst g;simp[f,k]at d;subst d;rw[j3 λe=>f e.symm,j1 rfl];exact n
  ·simp[f,g]at d;rw[j3 λe=>f e.symm,j3 λe=>g e.symm];exact d
end
def bA{α:Type}(e k:Nat)(f:α->ba)(rs:List Sl)(a:List (List α)):List HP:=zh (λr l=>al e r k f l) rs a
section
variable {α:Type} {e k:Nat} {f:α->ba} {rs:List Sl} {ll:List (List α)}
theorem UG(h:j9 rs=j9 ll):j9 (bA e k f rs ll)=j9 ll:=by simp[bA,h]
theorem iW(h:j9 rs=j9 ll)(i:Nat)(a:i<j9 ll):(bA e k f rs ll)[i]?=dB (al e (rs[i]'(by omega)) k f ll[i]):=by
 have b:i<j9 rs:=k4
 simp[bA,wH,qd a,qd b]
theorem pG(h:j9 rs=j9 ll)(r:Sl)(l:List α):bA e k f (rs++[r]) (ll++[l])=bA e k f rs ll++[al e r k f l]:=by unfold bA;rw[yx h];rfl
theorem kZ(h:j9 rs=j9 ll)(i:Nat)(r:Sl)(l:List α):(bA e k f rs ll).set i (al e r k f l)=bA e k f (rs.set i r) (ll.set i l):=by
 apply zP;intro j;simp only[bA,zb,wH,List.length_zipWith];by_cases a:i=j
 ·subst a;by_cases b:i<j9 ll
  ·have:i<j9 rs:=k4
   simp[b,this];omega
  ·have:¬i<j9 rs:=k4
   simp[b];omega
 ·simp[a]
theorem RN(h:j9 rs=j9 ll)(i:Nat)(a:i<j9 ll)(l:List α):(bA e k f rs ll).set i (al e (rs[i]'(by omega)) k f l)=bA e k f rs (ll.set i l):=by rw[kZ h,List.set_getElem_self]
theorem aa.RO{B:aB}{j h:hZ}{s:Sl}{a:Nat}(H:aa B j h (al a s 1 bo rs::bA e k f rs ll))(c:j9 rs=j9 ll)(n:∀x,j9 (f x)=k):fZ h s k f ll:=by
 refine⟨rs,H.seq 0 k0 λ_=>rfl,c,λi r l d b=>?_⟩;have g:i<j9 ll:=(qm.1 b).1;have m:=iW (e:=e) (k:=k) (f:=f) c i g;have h3:=H.seq (i+1) v2 n;have a:rs[i]'(by omega)=r:=by rw[qd k4]at d;simpa using d
 have e2:ll[i]=l:=by rw[qd g]at b;simpa using b
 rw[a,e2]at h3;exact h3
end
section
variable {α:Type} {h:hZ} {p:aB} {s:Sl} {f:α->ba} {l:List α}
theorem Seq.Rn{X:Type}{g:X->eX}(e:Seq h p s 1 f l){i:Int}(n:Nat)(r:i=n)(j:n<j9 l)(x:X)(k:f l[n]=[g x]){K:hU->X->Prop}(q:∀a:hU,hY h (a.add (i.toNat*1))=dB (g x)->K a x):
  ∃a:hU,(s.ptr=dB a/\0<=i/\i<((s.len:Nat):Int))/\∃x:X,hY h (a.add (i.toNat*1))=dB (g x)/\K a x:=by
 subst r;obtain⟨b,o,m,_,h3⟩:=e.elem n l[n] (qd j);rw[k]at h3;have c:=h3.1;rw[add_eq,wO]at c;have d:hY h ((⟨b,o,eH⟩:hU).add ((n:Int).toNat*1))=dB (g x):=by rw[add_eq];simpa using c
 exact⟨_,⟨m,k4,by rw[e.len];omega⟩,x,d,q _ d⟩
end
theorem Seq.mZ{h:hZ}{p:aB}{s:Sl}{rs:List Sl}(e:Seq h p s 1 bo rs){i:Int}(n:Nat)(l:i=n)(f:n<j9 rs){K:hU->Sl->Prop}
  (k:∀a:hU,hY h (a.add (i.toNat*1))=dB (.slice rs[n].ptr rs[n].len rs[n].cap)->p (a.add (i.toNat*1)).block->K a rs[n]):
  ∃a:hU,(s.ptr=dB a/\0<=i/\i<((s.len:Nat):Int))/\∃x:Sl,hY h (a.add (i.toNat*1))=dB (.slice x.ptr x.len x.cap)/\K a x:=by
 subst l;obtain⟨b,o,j,g,h3⟩:=e.elem n rs[n] (qd f);have c:=h3.1;rw[add_eq,wO]at c;have d:hY h ((⟨b,o,eH⟩:hU).add ((n:Int).toNat*1))=dB (.slice rs[n].ptr rs[n].len rs[n].cap):=by rw[add_eq];simpa using c
 exact⟨_,⟨j,k4,by rw[e.len];omega⟩,rs[n],d,k _ d (by rw[add_eq];exact g)⟩
section
variable {B:aB} {α:Type} {h0 h:hZ} {As:List HP} {e k:Nat} {s:Sl} {f:α->ba} {l:List α}
theorem Own.cut(a:Own h e s k f l)(c:∀x,j9 (f x)=k)(j:Nat)(d:j<=j9 l):Own h e ⟨s.ptr,j,s.cap⟩ k f (l.take j):=by
 have g:=a.len;refine⟨k8,?_⟩;rcases a.head with⟨h1,h2,h3⟩|⟨b,rest,h1,h2,h3,h4⟩
 ·subst h3;exact .inl ⟨h1,h2,k9⟩
 ·refine .inr ⟨b,(l.drop j).flatMap f++rest,h1,?_,?_,k7⟩
  ·rw[<-qt,<-zj,qJ];exact h2
  ·rw[qy,ez c,ze,h3,<-Nat.add_mul];dsimp only;congr 1;omega
end
section
variable {B:aB} {α:Type} {C:Ctx} {h0 h:hZ} {As:List HP} {e t k:Nat} {s:Sl} {f:α->ba} {l:List α} {ti:TI}
end
section
variable {C:Ctx} {t t2 ty e k:Nat} {z:ba} {by_:Nat} {α:Type} {h h0:hZ} {p B:aB} {s v:Sl} {f:α->ba} {l l2:List α} {As:List HP}
theorem Own.Lu(F:C.Ok)(E:ce C.toCG t e k z by_)(o:∀x,j9 (f x)=k)(j:Own h e s k f l)(D:Seq h p v k f l2)(g:∀x,∀c∈f x,c.oneCell'=eR){K:Int->hZ->Prop}
  (w:∀n h',Own h' e s k f (l2.take l.length++l.drop l2.length)->aX (λb=>¬s.on b) h h'->K n h'):
  aA C.P (w5 #[t,t2] ty #[.slice s.ptr s.len s.cap,.slice v.ptr v.len v.cap]) (.one (.sc (.int .i64))) h K:=by
 unfold aA w5;simp only[zZ,yU,qE];refine af.bind (af.always (aV (E.under F)) ?_);refine af.bind (af.pure' ?_);refine af.bind (af.always (E.size F) ?_);have a:=j.len;have d:=D.len;obtain⟨m,i⟩:∃m,m=Nat.min v.len s.len:=⟨_,rfl⟩
 rw[<-i];have A:m<=j9 l2:=by rw[i,<-d];exact Nat.min_le_left _ _
 have u:m<=j9 l:=by rw[i,<-a];exact Nat.min_le_right _ _
 have J:m=min l2.length l.length:=by rw[i,a,d]
 have q:=D.take m A;have I:l2.take l.length++l.drop l2.length=l2.take m++l.drop m:=by
  rcases Nat.le_total l2.length l.length with hh|hh
  ·rw[qi hh,show m=j9 l2 by omega,qS]
  ·rw[show m=j9 l by omega,zi hh,List.drop_length]
 rw[I]at w;have y:wy k m (.slice v.ptr v.len v.cap)=wy k m (.slice v.ptr m v.cap):=by cases v.ptr<;>rfl
 rw[y];refine af.bind (iN (v:=⟨v.ptr,m,v.cap⟩) o q ?_);rcases j.head with⟨h1,h2,h3⟩|⟨b,rest,h1,h2,h3,h4⟩
 ·rw[h1];subst h3;have:m=0:=by simpa using u
  subst this;refine af.pure' ⟨_,k0,w _ h ?_ (aX.refl _ _)⟩;simpa using j
 ·rw[h1];refine af.bind ?_;have r:l.flatMap f++rest=(l.take m).flatMap f++((l.drop m).flatMap f++rest):=by rw[<-qt,<-zj,qJ]
  rw[r]at h2;refine fU (e:=e) (pre:=[]) (old:=(l.take m).flatMap f) (post:=(l.drop m).flatMap f++rest) (by simpa using h2) (by rw[ez o,ez o,qZ,qZ];congr 1;omega) k0 ?_ ?_
  ·intro c H;obtain⟨x,_,B⟩:=zB.1 H;exact g x c B
  ·refine af.pure' ⟨_,k0,w _ _ ⟨by rw[a,qy,qZ,ze];omega,.inr ⟨b,rest,h1,?_,h3,h4⟩⟩ (aX.kr h2 λG=>G ⟨0,h1⟩)⟩;rw[jq h2,j1 k0,zj];simp
theorem aa.Lu(d:C.Ok)(H:aa B h0 h As)(i:Nat)(b:As[i]?=dB (al e s k f l))(m:ce C.toCG t e k z by_)(j:∀x,j9 (f x)=k)(g:Seq h p v k f l2)(a:∀x,∀c∈f x,c.oneCell'=eR){K:Int->hZ->Prop}
  (o:∀n h',aa B h0 h' (As.set i (al e s k f (l2.take l.length++l.drop l2.length)))->K n h'):
  aA C.P (w5 #[t,t2] ty #[.slice s.ptr s.len s.cap,.slice v.ptr v.len v.cap]) (.one (.sc (.int .i64))) h K:=
 (H.own i b).Lu d m j g a λn h' x y=>o n h' (H.oS i b y x)
end
def NO(d:Sl)(w i:Nat):Sl:=⟨if d.cap=i*w then d.ptr else d.ptr.map (·.add (i*w*1)),(i+1)*w-i*w,d.cap-i*w⟩
def Gc{α:Type}(l:List α)(w i:Nat):List α:=(l.drop (i*w)).take w
theorem Seq.piece{α:Type}{h:hZ}{p:aB}{s:Sl}{f:α->ba}{l:List α}(c:Seq h p s 1 f l)(b:s.len<=s.cap)(w i:Nat)(g:(i+1)*w<=j9 l):Seq h p (NO s w i) 1 f (Gc l w i):=by
 have d:=c.drop (i*w) b;have e:(i+1)*w=i*w+w:=zO i w;have a:=d.take w ns;have e2:(i+1)*w-i*w=w:=k4
 unfold NO Gc;rw[e2];exact a
theorem afC{α:Type}{l:List α}{w i:Nat}(a:(i+1)*w<=j9 l):j9 (Gc l w i)=w:=by have e:(i+1)*w=i*w+w:=zO i w;simp only[Gc,qZ,ze];omega
def HP.sep(A D:HP):HP:=
 ⟨λh q=>∃g f:aB,(∀b,g b->¬f b)/\(∀b,g b->q b)/\(∀b,f b->q b)/\A.p h g/\D.p h f,
  λ⟨g,f,a,b,c,d,e⟩ hp=>⟨g,f,a,b,c,A.loc d (hp.mono λx _ i=>b x i),D.loc e (hp.mono λx _ i=>c x i)⟩,
  λ⟨g,f,a,b,c,d,e⟩ hq=>⟨g,f,a,λx i=>hq x (b x i),λx i=>hq x (c x i),d,e⟩⟩
def HP.ex{ι:Type}(F:ι->HP):HP:=⟨λh q=>∃i,(F i).p h q,λ⟨i,a⟩ hp=>⟨i,(F i).loc a hp⟩,λ⟨i,a⟩ hq=>⟨i,(F i).mono a hq⟩⟩
def HP.and(A:HP)(P:Prop):HP:=⟨λh q=>A.p h q/\P,λa c=>⟨A.loc a.1 c,a.2⟩,λa b=>⟨A.mono a.1 b,a.2⟩⟩
section
variable {B:aB} {h0 h h':hZ} {As Bs:List HP} {A D E:HP} {i j:Nat}
theorem aa.split(H:aa B h0 h As)(i:Nat)(m:As[i]?=dB (A.sep D)):aa B h0 h (As.set i A++[D]):=by
 classical
 obtain⟨s,p,c,z,a⟩:=H;obtain⟨w,o,v,n,s2,t,q⟩:=a i _ m;have r:=(qm.1 m).1;refine⟨s,p,λb=>if o b then As.length+1 else c b,λb e=>?_,λj X d=>?_⟩
 ·have u:=z b e;dsimp only;rw[j3];exact u;intro l;have:=(s2 b l).2;omega
 ·by_cases k:j<j9 As
  ·rw[qp (by simpa using k),zb]at d;split at d
   ·rename_i f;subst f
    first|rw[j1 k]at d|skip
    injection d with d
    subst d;refine A.mono t λb e=>⟨(n b e).1,?_⟩
    dsimp only;rw[j3 (v b e)];exact(n b e).2
   ·rename_i f;refine X.mono (a j X d) λb e=>⟨e.1,?_⟩
    dsimp only;rw[j3];exact e.2;intro l;have:=(s2 b l).2;omega
  ·rw[qj (by simpa using k)]at d;rw[zF]at d;have g:j=j9 As:=by have:=(qm.1 d).1;simp at this;omega
   subst g;simp at d;subst d;refine D.mono q λb e=>⟨(s2 b e).1,?_⟩
   dsimp only;rw[j1 e]
theorem aa.join(H:aa B h0 h As)(i j:Nat)(a:i≠j)(k:As[i]?=dB A)(l:As[j]?=dB D):aa B h0 h ((As.set i (A.sep D)).set j emp):=
 H.merge i j a k l λf c e g d=>⟨f,c,e,λ_ b=>.inl b,λ_ b=>.inr b,g,d⟩
theorem aa.Xp{ι:Type}{F:ι->HP}(H:aa B h0 h As)(i:Nat)(f:As[i]?=dB (HP.ex F)):∃x,aa B h0 h (As.set i (F x)):=by
 obtain⟨e,p,c,z,a⟩:=H;obtain⟨x,g⟩:=a i _ f;refine⟨x,e,p,c,z,λj X b=>?_⟩;rw[zb]at b;split at b
 ·rename_i d;subst d;split at b
  ·injection b with b;subst b;exact g
  ·cases b
 ·exact a j X b
theorem aa.close'{ι:Type}{F:ι->HP}(H:aa B h0 h As)(i:Nat)(x:ι)(a:As[i]?=dB (F x)):aa B h0 h (As.set i (HP.ex F)):=H.gF i a λ_ b=>⟨x,b⟩
theorem aa.fact{P:Prop}(H:aa B h0 h As)(i:Nat)(a:As[i]?=dB (A.and P)):P:=(H.at i a).2
theorem aa.aeJ{P:Prop}(H:aa B h0 h As)(i:Nat)(a:As[i]?=dB (A.and P)):aa B h0 h (As.set i A):=H.gF i a λ_ b=>b.1
theorem aa.aih{P:Prop}(H:aa B h0 h As)(i:Nat)(a:As[i]?=dB A)(c:P):aa B h0 h (As.set i (A.and P)):=H.gF i a λ_ b=>⟨b,c⟩
theorem aa.cons(H:aa B h0 h As)(i:Nat)(g:As[i]?=dB A):aa B h0 h (A::As.set i emp):=by
 obtain⟨l,p,c,z,a⟩:=H;have k:=(qm.1 g).1;refine⟨l,p,λb=>if c b=i+1 then 1 else if c b=0 then 0 else c b+1,λb e=>?_,λj X d=>?_⟩
 ·have:=z b e;dsimp only;rw[j3 k4,j1 this]
 ·cases j with
  |zero=>
   simp at d;subst d;refine A.mono (a i A g) λb e=>⟨e.1,by dsimp only;rw[j1 e.2]⟩
  |succ j=>
   rw[qE,zb]at d;split at d
   ·rename_i f;injection d with d;subst d;trivial
   ·rename_i f;refine X.mono (a j X d) λb e=>⟨e.1,by dsimp only;rw[j3 k4,j3 k4];omega⟩
theorem aa.rest(H:aa B h0 h (A::As)):aa B h0 h As:=H.pick (λj=>j+1) (λa b h=>k4) λj X c=>oo
end
structure jy (α β:Type) where
 p:hZ->aB->α->β->Prop
 loc:∀{h h':hZ} {q:aB} {a:α} {b:β},p h q a b->aX q h h'->p h' q a b
 mono:∀{h:hZ} {q q':aB} {a:α} {b:β},p h q a b->(∀x,q x->q' x)->p h q' a b
def cF{α:Type}(k:Nat)(f:α->ba):jy Sl (List α):=⟨λh q s l=>Seq h q s k f l,λa c=>a.aj c,λa b=>a.mono b⟩
def ui{α:Type}(k:Nat)(f:α->ba):jy Sl (List α):=⟨λh q s l=>Seq h q s k f l/\(l=[]->s.ptr=eH),λa c=>⟨a.1.aj c,a.2⟩,λa b=>⟨a.1.mono b,a.2⟩⟩
def bF{α β:Type}(E:jy α β)(k:Nat)(f:α->ba):jy Sl (List β):=
 ⟨λh q s ll=>∃rs:List α,Seq h q s k f rs/\rs.length=j9 ll/\∀(i:Nat) r l,rs[i]?=dB r->ll[i]?=dB l->E.p h q r l,
  λ⟨rs,a,b,c⟩ hp=>⟨rs,a.aj hp,b,λi r l e d=>E.loc (c i r l e d) hp⟩,λ⟨rs,a,b,c⟩ hq=>⟨rs,a.mono hq,b,λi r l e d=>E.mono (c i r l e d) hq⟩⟩
def agN{α β:Type}(E:jy α β)(P:α->β->Prop):jy α β:=⟨λh q a b=>E.p h q a b/\P a b,λa d=>⟨E.loc a.1 d,a.2⟩,λa c=>⟨E.mono a.1 c,a.2⟩⟩
def EA{α β:Type}(E:jy α β)(a:α)(b:β):HP:=⟨λh q=>E.p h q a b,λx d=>E.loc x d,λx c=>E.mono x c⟩
abbrev dS{α β:Type}(E:jy α β)(h:hZ)(a:α)(b:β):Prop:=E.p h (λb=>b<h.size) a b
def ct{α β:Type}(e:TypeId)(s:Sl)(k:Nat)(f:α->ba)(E:jy α β)(m:List β):HP:=
 ⟨λh q=>∃(rs:List α) (j:aB),Own h e s k f rs/\(∀b,s.on b->q b/\¬j b)/\(∀b,j b->q b)/\rs.length=j9 m/\∀(i:Nat) r l,rs[i]?=dB r->m[i]?=dB l->E.p h j r l,
  λ⟨rs,j,a,b,c,d,e⟩ hp=>⟨rs,j,a.aj hp λx g=>(b x g).1,b,c,d,λi r l o n=>E.loc (e i r l o n) (hp.mono λx _ g=>c x g)⟩,
  λ⟨rs,j,a,b,c,d,e⟩ hq=>⟨rs,j,a,λx g=>⟨hq x (b x g).1,(b x g).2⟩,λx g=>hq x (c x g),d,e⟩⟩
section
variable {α β:Type} {E:jy α β} {k:Nat} {f:α->ba} {h h':hZ} {q:aB} {s:Sl} {ll:List β} {a:α} {b:β}
theorem dS.up(x:dS E h a b)(c:aX (λb=>b<h.size) h h'):dS E h' a b:=E.mono (E.loc x c) λ_ d=>q7 d c.1
theorem bF.jh(x:(bF E k f).p h q s ll):∃rs:List α,Seq h q s k f rs/\rs.length=j9 ll/\∀(i:Nat) (e:i<j9 rs) (d:i<j9 ll),E.p h q rs[i] ll[i]:=by obtain⟨rs,a,b,c⟩:=x;exact⟨rs,a,b,λi e d=>c i _ _ (qd e) (qd d)⟩
theorem bF.len(x:(bF E k f).p h q s ll):s.len=j9 ll:=by obtain⟨rs,a,b,c⟩:=x;rw[a.len,b]
theorem bF.nil(h:hZ)(q:aB)(a:aQ)(c:Nat):(bF E k f).p h q ⟨a,0,c⟩ []:=⟨[],Seq.nil h q c a k f,k0,λi r l b=>by simp at b⟩
theorem bF.take(x:(bF E k f).p h q s ll)(n:Nat)(j:n<=j9 ll):(bF E k f).p h q ⟨s.ptr,n,s.cap⟩ (ll.take n):=by
 obtain⟨rs,a,b,c⟩:=x;refine⟨rs.take n,a.take n k4,p0,λi r l d e=>?_⟩;rw[y5]at d e;split at d
 ·rename_i g;rw[j1 g]at e;exact c i r l d e
 ·cases d
theorem bF.get{X:Type}{g:X->eX}(x:(bF E 1 f).p h q s ll){i:Int}(n:Nat)(d:i=n)(b:n<j9 ll)(u:α->X)(c:∀r,f r=[g (u r)]){K:X->Prop}(j:∀r,E.p h q r ll[n]->K (u r)):
  ∃a:hU,(s.ptr=dB a/\0<=i/\i<((s.len:Nat):Int))/\∃x:X,hY h (a.add (i.toNat*1))=dB (g x)/\K x:=by
 obtain⟨rs,e,k,h3⟩:=bF.jh x;exact e.bC n d k4 (u (rs[n]'(by omega))) (c _) (j _ (h3 n k4 b))
theorem bF.mZ{E:jy Sl β}(x:(bF E 1 bo).p h q s ll){i:Int}(n:Nat)(c:i=n)(b:n<j9 ll){K:Sl->Prop}(d:∀r,E.p h q r ll[n]->K r):
  ∃a:hU,(s.ptr=dB a/\0<=i/\i<((s.len:Nat):Int))/\∃x:Sl,hY h (a.add (i.toNat*1))=dB (.slice x.ptr x.len x.cap)/\K x:=
 bF.get (g:=λr:Sl=>Value.slice r.ptr r.len r.cap) x n c b id (λ_=>rfl) d
theorem bF.tofZ{γ:Type}{d:Nat}{g:γ->ba}{l:List (List γ)}(x:dS (bF (cF d g) 1 bo) h s l):fZ h s d g l:=by obtain⟨rs,a,b,c⟩:=x;exact⟨rs,a,b,c⟩
theorem bF.impl{α':Type}{e:Type}{E':jy α e}(u:β->e)(g:∀{h q a b},E.p h q a b->E'.p h q a (u b))(x:(bF E k f).p h q s ll):(bF E' k f).p h q s (ll.map u):=by
 obtain⟨rs,a,b,c⟩:=x;refine⟨rs,a,p0,λi r l j d=>?_⟩;rw[qR]at d;cases h3:ll[i]? with
 |none=>rw[h3]at d;cases d
 |some y=>rw[h3]at d;simp at d;subst d;exact g (c i r y j h3)
end
section
variable {α β:Type} {E:jy α β} {C:Ctx} {k e t:Nat} {f:α->ba} {B:aB} {h0 h h':hZ} {As:List HP} {s:Sl} {ll:List β} {z:ba} {by_:Nat}
theorem aa.Kl(H:aa B h0 h As)(e k:Nat)(f:α->ba)(E:jy α β):aa B h0 h (As++[ct e ⟨eH,0,0⟩ k f E []]):=
 H.comp (.one (aX.refl _ _) ⟨[],λ_=>False,Own.nil h e k f,λb a=>(by obtain⟨o,a⟩:=a;cases a),λ_ a=>a.elim,rfl,λi r l h=>o5⟩)
theorem aa.OX(H:aa B h0 h As)(i:Nat)(j:As[i]?=dB (ct e s k f E ll))(n:∀x,j9 (f x)=k):dS (bF E k f) h s ll:=by obtain⟨rs,p,a,b,c,d,e⟩:=H.at i j;exact⟨rs,a.seq n λx m=>(b x m).1,d,λi r l o g=>E.mono (e i r l o g) c⟩
theorem aa.Wu(H:aa B h0 h As)(i:Nat)(j:As[i]?=dB (ct e s k f E ll))(n:∀x,j9 (f x)=k):aa B h0 h (As.set i (EA (bF E k f) s ll)):=
 H.gF i j λq ⟨rs,p,a,b,c,d,e⟩=>⟨rs,a.seq n λx m=>(b x m).1,d,λi r l o g=>E.mono (e i r l o g) c⟩
theorem aa.eAt{a:α}{b:β}(H:aa B h0 h As)(i:Nat)(c:As[i]?=dB (EA E a b)):dS E h a b:=H.at i c
theorem aa.acE(H:aa B h0 h As)(i:Nat)(g:As[i]?=dB (ct e s k f E ll)):s.len=j9 ll/\s.len<=s.cap:=by obtain⟨rs,j,a,b,c,d,e⟩:=H.at i g;exact⟨by rw[a.len,d],a.cap⟩
theorem aa.uN(hC:C.Ok)(H:aa B h0 h As)(i j:Nat)(G:i≠j){a:α}{b:β}(Z:As[i]?=dB (ct e s k f E ll))(hj:As[j]?=dB (EA E a b))(he:ce C.toCG t e k z by_)(hz:j9 z=k)(W:0<by_/\by_<=128)(hw:∀x,j9 (f x)=k)
  (R:∀x,∀c∈f x,c.oneCell'=eR) {parts:Array (Nat×eX)} (L:wq (λi=>dB (i*k,k)) (ja z 1).toArray parts.toList=dB ([a].flatMap f).toArray) (U:1*k<=2^20)
  (ad:j9 ll+1<=2^32) {ty:Nat} {K:Sl->hZ->Prop} (hk:∀T h',aa B h0 h' ((As.set j emp).set i (ct e T k f E (ll++[b])))->K T h'):
  aA C.P (qq t 1 parts) (.one (.sc .slc)) h λv u=>aA C.P (qu #[t,t] ty #[.slice s.ptr s.len s.cap,.slice v.ptr v.len v.cap]) (.one (.sc .slc)) u K:=by
 have H2:=H.merge i j G Z hj (D:=⟨λh q=>∃(rs:List α) (g:aB),Own h e s k f rs/\(∀b,s.on b->q b/\¬g b)/\(∀b,g b->q b)/\rs.length=j9 ll/\(∀(i:Nat) r l,rs[i]?=dB r->ll[i]?=dB l->E.p h g r l)/\E.p h g a b,
  λ⟨rs,g,a,b,c,d,e,f⟩ hp=>⟨rs,g,a.aj hp λx n=>(b x n).1,b,c,d,λi r l u A=>E.loc (e i r l u A) (hp.mono λx _ n=>c x n),E.loc f (hp.mono λx _ n=>c x n)⟩,
  λ⟨rs,g,a,b,c,d,e,f⟩ hq=>⟨rs,g,a,λx n=>⟨hq x (b x n).1,(b x n).2⟩,λx n=>hq x (c x n),d,e,f⟩⟩)
  (λg q2 hd hA hB=>by
   obtain⟨rs,q3,a,b,c,d,e'⟩:=hA;refine⟨rs,λb=>q3 b∨q2 b,a,λx n=>⟨.inl (b x n).1,λS=>S.elim (b x n).2 (hd x (b x n).1)⟩,λx n=>n.elim (λh=>.inl (c x h)) .inr,d,λi r l u A=>E.mono (e' i r l u A) λ_ h=>.inl h,E.mono hB λ_ h=>.inr h⟩)
 have o:i<j9 As:=(qm.1 Z).1;obtain⟨lo,pp,c,zz,ax⟩:=H2;have ha:=ax i _ (by rw[zN (Ne.symm G),zq o]);obtain⟨rs,g,a1,a2,a3,a4,a5,a6⟩:=ha;let c':Nat->Nat:=λb=> @ite _ (g b) (Classical.propDecidable _) (j9 As+2) (c b);have J:∀b,g b->b<h.size/\c b=i+1:=a3;have ho:dQ h c' (i+1) e s k f rs:=⟨a1,λb m=>by
  have:=a2 b m;show @ite _ (g b) (Classical.propDecidable _) _ _=_;rw[j3 this.2];exact this.1.2⟩
 refine ho.push hC he hz W hw R a L U k4 λT h' F M=>hk T h' ?_;rw[vl _ _ (Ne.symm G)];rw[<-yM (l:=As) (i:=i),vl _ _ G];have N:∀b,g b->c' b≠i+1:=λb m=>by
  show @ite _ (g b) (Classical.propDecidable _) _ _≠_;rw[j1 m];omega
 refine aa.DN lo pp zz ax (M.mono λb m hn hc=>hn ⟨m,?_⟩) ⟨rs++[a],λb=>g b/\b<h.size,F.own,λb m=>?_,λb m=>⟨q7 m.2 M.1,.inl ⟨m.2,(J b m.1).2⟩⟩,by simp[a4],λX r' l' u A=>?_⟩
 ·by_cases I:g b
  ·exact(J b I).2
  ·have w:@ite _ (g b) (Classical.propDecidable _) (j9 As+2) (c b)=i+1:=hc;rw[j3 I]at w;exact w
 ·have y:=F.bt b m;by_cases o:b<h.size
  ·rw[gE o]at y;have Q:¬g b:=λI=>N b I y;have w:@ite _ (g b) (Classical.propDecidable _) (j9 As+2) (c b)=i+1:=y;rw[j3 Q]at w;exact⟨⟨F.own.lt m,.inl ⟨o,w⟩⟩,λS=>Q S.1⟩
  ·exact⟨⟨F.own.lt m,.inr k4⟩,λS=>o S.2⟩
 ·have O:∀{Y:α} {l:β},E.p h g Y l->E.p h' (λb=>g b/\b<h.size) Y l:=λhs=>
   E.loc (E.mono hs (q':=λb=>g b/\b<h.size) λb m=>⟨m,(J b m).1⟩) (M.mono λb _ m=>N b m.1)
  by_cases V:X<j9 rs
  ·rw[qp V]at u;rw[qp k4]at A;exact O (a5 X r' l' u A)
  ·have:X=j9 rs:=by have:=(qm.1 u).1;simp at this;omega
   subst this;simp at u;rw[a4]at A;simp at A;subst u;subst A;exact O a6
theorem aa.aiC{N:TI}(hC:C.Ok)(H:aa B h0 h As)(i j:Nat)(y:i≠j){a:α}{b:β}(Q:As[i]?=dB (ct e s k f E ll))(W:As[j]?=dB (EA E a b))(hw:∀x,j9 (f x)=k)(ht:C.T.get t=dB N){x:Int}(n:Nat)(g:x=n)(hn:n<j9 ll){G:eX}(V:G.cells=(f a).toArray)(M:N.size=k)
  (J:(f a).all (·.oneCell')=eR) {K:hZ->Prop} (hk:∀h',aa B h0 h' ((As.set j emp).set i (ct e s k f E (ll.set n b)))->K h'):
  ∃a:hU,(s.ptr=dB a/\0<=x/\x<((s.len:Nat):Int))/\af C.P (qf t (.pointer (dB (a.add (x.toNat*k)))) G) h λ_ h'=>K h':=by
 have U:=H.merge i j y Q W (D:=⟨λh q=>∃(rs:List α) (m:aB),Own h e s k f rs/\(∀b,s.on b->q b/\¬m b)/\(∀b,m b->q b)/\rs.length=j9 ll/\(∀(i:Nat) r l,rs[i]?=dB r->ll[i]?=dB l->E.p h m r l)/\E.p h m a b,
  λ⟨rs,m,a,b,c,d,e,f⟩ hp=>⟨rs,m,a.aj hp λx g=>(b x g).1,b,c,d,λi r l o u=>E.loc (e i r l o u) (hp.mono λx _ g=>c x g),E.loc f (hp.mono λx _ g=>c x g)⟩,
  λ⟨rs,m,a,b,c,d,e,f⟩ hq=>⟨rs,m,a,λx g=>⟨hq x (b x g).1,(b x g).2⟩,λx g=>hq x (c x g),d,e,f⟩⟩)
  (λm R hd hA hB=>by
   obtain⟨rs,q3,a,b,c,d,Z⟩:=hA;refine⟨rs,λb=>q3 b∨R b,a,λx g=>⟨.inl (b x g).1,λhh=>hh.elim (b x g).2 (hd x (b x g).1)⟩,λx g=>g.elim (λh=>.inl (c x h)) .inr,d,λi r l o u=>E.mono (Z i r l o u) λ_ h=>.inl h,E.mono hB λ_ h=>.inr h⟩)
 have L:i<j9 As:=(qm.1 Q).1;obtain⟨lo,pp,c,zz,ax⟩:=U;have X:=ax i _ (by rw[zN (Ne.symm y),zq L]);obtain⟨rs,m,a1,I,a3,a4,a5,S⟩:=X;refine a1.set hC hw ht n g k4 a V M J λh' z w _=>hk h' ?_;rw[vl _ _ (Ne.symm y)];rw[<-yM (l:=As) (i:=i),vl _ _ y];have keep:∀{O:α} {l:β},E.p h m O l->E.p h' m O l:=λhs=>E.loc hs (w.mono λb _ v F=>(I b F).2 v);refine aa.DN lo pp zz ax (w.mono λb _ v F=>v (I b F).1) ⟨rs.set n a,m,z,λb v=>⟨⟨q7 (I b v).1.1 w.1,.inl (I b v).1⟩,(I b v).2⟩,λb v=>⟨q7 (a3 b v).1 w.1,.inl (a3 b v)⟩,by simp[a4],λY r' l' o u=>?_⟩;rw[zb]at o u;split at o
 ·rename_i A;rw[j1 A]at u;split at o
  ·injection o with o;subst o
   have e:l'=b:=by rw[j1 k4]at u;exact(zS.inj u).symm
   subst e;exact keep S
  ·cases o
 ·rename_i A;rw[j3 A]at u;exact keep (a5 Y r' l' o u)
end
section
variable {α β:Type} {E:jy α β} {k e:Nat} {f:α->ba} {B:aB} {h0 h:hZ} {As:List HP} {s:Sl}
theorem aa.agO(H:aa B h0 h As)(i j:Nat)(c:i≠j){a:α}{b:β}(v:As[i]?=dB (al e s k f [a]))(p:As[j]?=dB (EA E a b)):aa B h0 h ((As.set i (ct e s k f E [b])).set j emp):=
 H.merge i j c v p λw o t d u=>⟨[a],o,d.1,λx m=>⟨.inl (d.2 x m),t x (d.2 x m)⟩,λ_ q=>.inr q,k0,λi r l g n=>by
  cases i with
  |succ i=>simp at g
  |zero=>simp at g n;subst g;subst n;exact u⟩
theorem aa.Lv{α:Type}{f:α->ba}{l:List α}(H:aa B h0 h As)(i:Nat)(b:As[i]?=dB (al e s k f l))(c:∀x,j9 (f x)=k):aa B h0 h (As.set i (EA (cF k f) s l)):=H.gF i b λ_ a=>a.1.seq c a.2
end
section
variable {α:Type} {B:aB} {h0 h:hZ} {As:List HP} {e e2 k:Nat} {s:Sl} {f:α->ba} {rs:List Sl} {ll:List (List α)}
theorem aa.afD(H:aa B h0 h (As++(al e s 1 bo rs::bA e2 k f rs ll)))(w:j9 rs=j9 ll)(F:∀x,j9 (f x)=k)(n:Nat)(J:n<=j9 ll):aa B h0 h (As++[ct e ⟨s.ptr,n,s.cap⟩ 1 bo (cF k f) (ll.take n)]):=by
 classical
 obtain⟨G,p,c,z,a⟩:=H;refine⟨G,p,λb=>if c b>j9 As then As.length+1 else c b,λb d=>?_,λj X g=>?_⟩
 ·have:=z b d;dsimp only;rw[j3 k4];exact this
 ·by_cases m:j<j9 As
  ·rw[qp m]at g;refine X.mono (a j X (by rw[qp m];exact g)) λb d=>⟨d.1,?_⟩
   dsimp only;rw[j3 k4];exact d.2
  ·rw[qj k4]at g;have v:j=j9 As:=by have:=(qm.1 g).1;simp at this;omega
   subst v;simp at g;subst g;have y:=a As.length (al e s 1 bo rs) (by rw[qj (ql _)];simp);refine⟨rs.take n,λb=>b<h.size/\c b>j9 As+1,y.1.cut (λ_=>rfl) n k4,λb d=>?_,λb d=>?_,by simp[w],λi r l o h3=>?_⟩
   ·have u:=y.2 b d;refine⟨⟨u.1,?_⟩,λK=>k4⟩;dsimp only;rw[j1 k4]
   ·refine⟨d.1,?_⟩;dsimp only;rw[j1 k4]
   ·rw[y5]at o h3;split at o
    ·rename_i t;rw[j1 t]at h3;have A:i<j9 ll:=(qm.1 h3).1;have E:=iW (e:=e2) (k:=k) (f:=f) w i A;have q:=a (j9 As+(i+1)) _ (by rw[qj k4];simpa using E);have D:rs[i]'(by omega)=r:=by rw[qd k4]at o;simpa using o
     have I:ll[i]=l:=by rw[qd A]at h3;simpa using h3
     rw[D,I]at q;exact q.1.seq F λb d=>⟨(q.2 b d).1,by have:=(q.2 b d).2;omega⟩
    ·cases o
theorem aa.Ro{s:Sl}{a:List (List α)}(H:aa B h0 h As)(i:Nat)(b:As[i]?=dB (fP e s k f a)):aa B h0 h (As.set i (ct e s 1 bo (cF k f) a)):=H.gF i b λ_ c=>c
end
theorem OY{h h':hZ}{p:aB}(a:aX p h h'):∀{L:av},L.ok h->(∀x∈L,p x.1.block)->L.ok h'
 |[],_,_=>trivial
 |x::L,hk,hq=>⟨a.cell (hq x k9) hk.1,OY a hk.2 λy b=>hq y p0⟩
theorem lS{h h':hZ}(d:aX (λb=>b<h.size) h h'){L:av}(c:L.ok h):L.ok h':=OY d c (by
 clear d
 induction L with
 |nil=>intro x a;cases a
 |cons y L ih=>
  intro x a;rcases qV.1 a with rfl|a
  ·exact uK c.1
  ·exact ih c.2 x a)
theorem aA.both{P:Program}{s:Sem eX}{h:hZ}{K:Sl->hZ->Prop}{Q:hZ->Prop}(g:aA P s (.one (.sc .slc)) h λ_ h'=>Q h')(f:aA P s (.one (.sc .slc)) h K):aA P s (.one (.sc .slc)) h λx h'=>Q h'/\K x h':=by intro w c;obtain⟨n,o,b,e,l,a3,a4⟩:=g w c;obtain⟨k,j,a,m,x2,d,i⟩:=f w c;rw[b]at a;cases a;exact⟨_,_,b,e,x2,d,a4,i⟩
theorem aa.oT{α:Type}{B:aB}{C:Ctx}{j h:hZ}{As:List HP}{e t k c:Nat}{z:ba}{K:Sl->hZ->Prop}(q:C.Ok)(H:aa B j h As)(f:α->ba)(o:ce C.toCG t e k z c)(d:j9 z=k){n:Nat}{parts:Array (Nat×eX)}(l:List α)(g:j9 l=n)(b:n*k<=2^20)
  (a:wq (λi=>dB (i*k,k)) (ja z n).toArray parts.toList=dB (l.flatMap f).toArray) {L:av} (r:L.ok h) (p:aA C.P (qq t n parts) (.one (.sc .slc)) h K):
  aA C.P (qq t n parts) (.one (.sc .slc)) h λx h'=>L.ok h'/\K x h':=
 aA.both ((Sp.refl h).lit q f o d l g b a λ_ _ m=>lS m.aj r) p
section
variable {B:aB} {h0 h h':hZ} {As Bs:List HP} {A D E:HP} {i j:Nat}
theorem aa.front(H:aa B h0 h (As++Bs)):aa B h0 h (Bs++As):=
 H.pick (λj=>if j<j9 Bs then As.length+j else if j<j9 Bs+j9 As then j-j9 Bs else j)
  (λa b c=>by(try dsimp only at c);split at c<;>split at c<;>(try split at c)<;>(try split at c)<;>omega) λj X e=>by
  try dsimp only
  split
  ·rename_i d;rw[qp d]at e;rw[qj k4,zr];exact e
  ·rename_i d;rw[qj k4]at e;have:=(qm.1 e).1;rw[j1 k4,qp this];exact e
theorem aa.bu(H:aa B h0 h (As++[A])):aa B h0 h (A::As):=H.front
theorem aa.ck(H:aa B h0 h As)(R:Sp h h' [A]):aa B h0 h' (A::As):=(H.comp R).bu
theorem aa.oC(H:aa B h0 h (A::As)):aa B h0 h As:=H.rest
theorem aa.sJ(H:aa B h0 h (A::D::As)):aa B h0 h (A::As):=H.del 1
theorem aa.sK{ι:Type}{F:ι->HP}(H:aa B h0 h (HP.ex F::As)):∃x,aa B h0 h (F x::As):=H.Xp 0 k0
theorem aa.xI{ι:Type}{F:ι->HP}(x:ι)(H:aa B h0 h (F x::As)):aa B h0 h (HP.ex F::As):=H.close' 0 x k0
theorem aa.sZ(H:aa B h0 h (A.sep D::As)):aa B h0 h (D::A::As):=(H.split 0 k0).bu
theorem aa.mb(H:aa B h0 h (D::A::As)):aa B h0 h (A.sep D::As):=by have a:aa B h0 h (emp::A.sep D::As):=H.join 1 0 k6 k0 k0;exact a.rest
theorem aa.nZ(H:aa B h0 h (A::D::As)):aa B h0 h (D::A::As):=H.aeI 0 1 k0 k0
end
theorem Seq.md{h:hZ}{p:aB}{s:Sl}{rs:List Sl}(d:Seq h p s 1 bo rs){i:Int}(n:Nat)(c:i=n)(b:n<j9 rs){K:Sl->Prop}(e:K rs[n]):
  ∃a:hU,(s.ptr=dB a/\0<=i/\i<((s.len:Nat):Int))/\∃x:Sl,hY h (a.add (i.toNat*1))=dB (.slice x.ptr x.len x.cap)/\K x:=
 d.bC (g:=λr:Sl=>Value.slice r.ptr r.len r.cap) n c b rs[n] k0 e
def St(B:aB)(a:hZ)(As:List HP)(Q:hZ->Prop):Prop:=∀(Bs:List HP) (h':hZ),aa B a h' (Bs++As)->Q h'
section
variable {B:aB} {h0 h h':hZ} {As Bs:List HP} {A:HP} {Q:hZ->Prop}
theorem St.at(x:St B h0 As Q)(Bs:List HP)(H:aa B h0 h (Bs++As)):Q h:=x Bs h H
theorem St.base(b:Q h0)(a:∀h',aX B h0 h'->Q h'):St B h0 As Q:=λ_ _ H=>a _ H.aj
theorem St.fw(j:Nat)(a:As[j]?=dB A)(c:∀h',A.p h' (λb=>b<h'.size)->Q h'):St B h0 As Q:=λBs h' H=>c _ (H.at (j9 Bs+j) (by rw[qj k4,zr];exact a))
theorem St.cons(x:St B h0 As Q):St B h0 (A::As) Q:=λBs h' H=>x (Bs++[A]) h' (by rw[qt];exact H)
end
section
variable {β:Type} {E:jy Sl β} {h:hZ} {q:aB} {s:Sl} {ll:List β}
theorem bF.aiD(x:(bF E 1 bo).p h q s ll){i:Int}(n:Nat)(l:i=n)(g:n<j9 ll){K:Sl->Prop}(k:∀(a:hU) (r:Sl),s.ptr=dB a->hY h (a.add (n*1))=dB (.slice r.ptr r.len r.cap)->E.p h q r ll[n]->K r):
  ∃a:hU,(s.ptr=dB a/\0<=i/\i<((s.len:Nat):Int))/\∃x:Sl,hY h (a.add (i.toNat*1))=dB (.slice x.ptr x.len x.cap)/\K x:=by
 subst l;obtain⟨rs,d,m,h3⟩:=bF.jh x;obtain⟨b,o,c,e2,j⟩:=d.elem n (rs[n]'(by omega)) (qd k4);have e:=j.1;rw[add_eq,wO]at e;have f:hY h ((⟨b,o,eH⟩:hU).add (n*1))=dB (.slice (rs[n]'(by omega)).ptr (rs[n]'(by omega)).len (rs[n]'(by omega)).cap):=by rw[add_eq];exact e
 refine⟨_,⟨c,k4,by rw[d.len];omega⟩,rs[n]'(by omega),by rw[qn];exact f,k _ _ c f (h3 n k4 g)⟩
theorem bF.pick(x:(bF E 1 bo).p h q s ll)(n:Nat)(g:n<j9 ll){a:hU}{r:Sl}(j:s.ptr=dB a)(i:hY h (a.add (n*1))=dB (.slice r.ptr r.len r.cap)):E.p h q r ll[n]:=by
 obtain⟨rs,l,w,h3⟩:=bF.jh x;obtain⟨b,o,c,e2,k⟩:=l.elem n (rs[n]'(by omega)) (qd k4);rw[j]at c;injection c with c
 subst c;have f:=k.1;rw[add_eq,wO]at f;have d:hY h ((⟨b,o,eH⟩:hU).add (n*1))=dB (.slice (rs[n]'(by omega)).ptr (rs[n]'(by omega)).len (rs[n]'(by omega)).cap):=by rw[add_eq];exact f
 rw[i]at d;have e:=h3 n k4 g;generalize rs[n]'(by omega)=r' at d e;obtain⟨u,l1,m⟩:=r;obtain⟨v,l2,t⟩:=r';simp at d;obtain⟨rfl,rfl,rfl⟩:=d;exact e
end
theorem Gd{α:Type}{l:List α}(f:l.Nodup){a b:Nat}(c:a<j9 l)(d:b<j9 l)(h:l[a]=l[b]):a=b:=by
 have e:=zd.1 f;rcases w9 a b with hlt|he|hgt
 ·exact absurd h (e a b c d hlt)
 ·exact he
 ·exact absurd h.symm (e b a d c hgt)
theorem aa.cD{B:aB}{k h:hZ}{As:List HP}(H:aa B k h As)(L:List Nat)(g:∀j∈L,j<j9 As:=by simp)(m:L.Nodup:=by decide):aa B k h (L.map λj=>As.getD j emp):=by
 refine H.pick (λi=>if h:i<j9 L then L[i]else As.length+i) (λa b c=>?_) λi A2 e=>?_
 ·try dsimp only at c
  split at c<;>split at c
  ·exact Gd m _ _ c
  ·have:=g _ (qh (l:=L) (n:=a) p9);omega
  ·have:=g _ (qh (l:=L) (n:=b) p9);omega
  ·omega
 ·try dsimp only
  rw[qR]at e;split
  ·rename_i d;rw[qd d]at e;have f:=g _ (qh d);simp only[qY,zS.injEq]at e;rw[<-e,qe,qd f];rfl
  ·rename_i d;rw[qQ k4]at e;simp at e
theorem St.mk'{B:aB}{a:hZ}{As:List HP}{Q:hZ->Prop}(x:∀h',aa B a h' As->Q h'):St B a As Q:=λBs h' H=>x h' (H.take Bs.length λi A b=>by
 rw[qj k4,zr];exact b)
theorem St.here{B:aB}{a h:hZ}{As:List HP}{Q:hZ->Prop}(x:St B a As Q)(H:aa B a h As):Q h:=x [] h H
theorem St.mono{B:aB}{a:hZ}{As:List HP}{Q b:hZ->Prop}(x:St B a As Q)(c:∀h,Q h->b h):St B a As b:=λBs h' H=>c _ (x Bs h' H)
theorem aa.bc{B:aB}{g h:hZ}{As:List HP}(H:aa B g h As)(k:Nat)(L:List Nat)(p:k<=j9 As:=by simp)(f:∀j∈L,j<k:=by simp)(o:L.Nodup:=by decide):aa B g h (L.map (λj=>As.getD j emp)++As.drop k):=by
 refine H.pick (λi=>if h:i<j9 L then L[i]else k+(i-j9 L)) (λa b d=>?_) λi A2 e=>?_
 ·try dsimp only at d
  split at d<;>split at d
  ·exact Gd o _ _ d
  ·have:=f _ (qh (l:=L) (n:=a) p9);omega
  ·have:=f _ (qh (l:=L) (n:=b) p9);omega
  ·omega
 ·try dsimp only
  by_cases c:i<j9 L
  ·rw[dif_pos c];rw[qp oo,qR,qd c]at e;have m:=f _ (qh c);simp only[qY,zS.injEq]at e;rw[<-e,qe,qd k4];rfl
  ·rw[dif_neg c];rw[qj oo,qw,wz]at e;exact e
section
variable {α β:Type} {E:jy α β} {C:Ctx} {k e t by_:Nat} {f:α->ba} {B:aB} {h0 h h':hZ} {As:List HP} {q:aB} {s:Sl} {rs:List α} {ll:List β} {ti:TI} {z:ba}
def Fix(E:jy α β)(k:Nat)(f:α->ba)(h:hZ)(q:aB)(s:Sl)(rs:List α)(a:List β):Prop:=Seq h q s k f rs/\rs.length=j9 a/\∀(i:Nat) r l,rs[i]?=dB r->a[i]?=dB l->E.p h q r l
theorem Fix.aj(x:Fix E k f h q s rs ll)(a:aX q h h'):Fix E k f h' q s rs ll:=⟨x.1.aj a,x.2.1,λi r l c b=>E.loc (x.2.2 i r l c b) a⟩
theorem Fix.mono{q':aB}(x:Fix E k f h q s rs ll)(a:∀b,q b->q' b):Fix E k f h q' s rs ll:=⟨x.1.mono a,x.2.1,λi r l d c=>E.mono (x.2.2 i r l d c) a⟩
abbrev oa(E:jy α β)(k:Nat)(f:α->ba)(h:hZ)(s:Sl)(rs:List α)(a:List β):Prop:=Fix E k f h (λb=>b<h.size) s rs a
theorem oa.up(x:oa E k f h s rs ll)(a:aX (λb=>b<h.size) h h'):oa E k f h' s rs ll:=(Fix.aj x a).mono λ_ c=>q7 c a.1
theorem Fix.row(x:Fix E k f h q s rs ll){i:Nat}(a:i<j9 ll):E.p h q (rs[i]'(by rw[x.2.1];exact a)) ll[i]:=x.2.2 i _ _ (qd _) (qd _)
theorem bF.fix(x:(bF E k f).p h q s ll):∃rs,Fix E k f h q s rs ll:=x
theorem Fix.elt(x:Fix E k f h q s rs ll):(bF E k f).p h q s ll:=⟨rs,x⟩
def dg(E:jy α β)(k:Nat)(f:α->ba)(s:Sl)(rs:List α)(a:List β):HP:=⟨λh q=>Fix E k f h q s rs a,λx c=>x.aj c,λx b=>x.mono b⟩
theorem aa.RP(H:aa B h0 h As)(i:Nat)(m:As[i]?=dB (ct e s k f E ll))(p:∀x,j9 (f x)=k):∃rs,aa B h0 h (As.set i (dg E k f s rs ll)):=by
 have g:i<j9 As:=(qm.1 m).1;have n:aa B h0 h (As.set i (HP.ex λrs=>dg E k f s rs ll)):=H.gF i m λq ⟨rs,v,a,b,c,d,e⟩=>⟨rs,a.seq p λx o=>(b x o).1,d,λi r l u t=>E.mono (e i r l u t) c⟩
 obtain⟨rs,j⟩:=n.Xp i (zq g);exact⟨rs,by rw[yM]at j;exact j⟩
theorem aa.gy(H:aa B h0 h As)(i:Nat)(a:As[i]?=dB (dg E k f s rs ll)):oa E k f h s rs ll:=H.at i a
theorem aa.Ge(d:C.Ok)(H:aa B h0 h As)(e:C.T.get t=dB ti){K:hU->hZ->Prop}(f:∀a h',aX (λb=>b<h.size) h h'->aa B h0 h' (As++[ao a t ti.zero])->K a h'):
  aP C.P (qO t eR (.tuple #[])) h K:=
 Bf d e λa h' x y c _=>f a h' (c.mono λ_ _ _=>trivial) (H.comp (NN x y c))
theorem aa.Lw(v:C.Ok)(H:aa B h0 h As)(f:α->ba)(u:ce C.toCG t e k z by_)(d:0<by_/\by_<=128)(l:α)(E:f l=z)(i:j9 z=k){A q:IntKind}{n o:Int}(m c:Nat)(r:n=m)(s:o=c)(j:m<=c)(g:c<=2^32)
  {K:Sl->hZ->Prop} (D:∀a h',a.len=m->aX (λb=>b<h.size) h h'->aa B h0 h' (As++[al e a k f (qg m l)])->K a h'):
  aA C.P (qG t (.int A n) (.int q o)) (.one (.sc .slc)) h K:=
 run_make v u d l E i m c r s j g λa h' x y w p _=>D a h' (by rw[x.len];simp) (p.mono λ_ _ _=>trivial) (H.comp (NM k0 x y p))
end
section
variable {α:Type} {C:Ctx} {B:aB} {h0 h:hZ} {As:List HP} {e t k:Nat} {s:Sl} {f:α->ba} {l:List α} {i:TI}
theorem Own.RQ(H:C.Ok)(u:Own h e s k f l)(A:∀x,j9 (f x)=k)(J:C.T.get t=dB i){x:Int}(n:Nat)(F:x=n)(r:n<j9 l)(j:Nat)(vs:ba)(M:j+j9 vs<=k){m:eX}(y:α)(E:m.cells=vs.toArray)(v:i.size=j9 vs)
  (p:vs.all (·.oneCell')=eR) (B:f y=(f l[n]).take j++vs++(f l[n]).drop (j+j9 vs)) {K:hZ->Prop} (I:∀h',Own h' e s k f (l.set n y)->aX (λb=>¬s.on b) h h'->K h'):
  ∃a:hU,(s.ptr=dB a/\0<=x/\x<((s.len:Nat):Int))/\af C.P (qf t (.pointer (dB ((a.add (x.toNat*k)).add j))) m) h λ_ h'=>K h':=by
 subst F;rcases u.head with⟨_,_,h3⟩|⟨b,rest,h1,h2,h3,h4⟩
 ·subst h3;simp at r
 ·refine⟨_,⟨h1,k4,by rw[u.len];omega⟩,?_⟩;unfold qf;refine af.bind (af.pure' ?_);unfold storeVar;refine af.bind (af.always (eu H.toOk J) ?_);rw[E,v];simp only[w8,ne_eq,not_true,if_false];rw[add_eq,add_eq,z6,qn];have g:l=l.take n++l[n]::l.drop (n+1):=by rw[<-qP r,qJ]
  have q:l.set n y=l.take n++y::l.drop (n+1):=wZ.trans (j1 r);have o:j9 ((l.take n).flatMap f)=n*k:=by rw[ez A,qZ,yu k4]
  have L:=A l[n];have d:f l[n]=(f l[n]).take j++((f l[n]).drop j).take vs.length++(f l[n]).drop (j+j9 vs):=by rw[qt,<-zL,qJ,qJ]
  refine fU (e:=e) (pre:=(l.take n).flatMap f++(f l[n]).take j) (old:=((f l[n]).drop j).take vs.length) (post:=(f l[n]).drop (j+j9 vs)++((l.drop (n+1)).flatMap f++rest)) ?_ ?_ ?_ ?_ ?_
  ·have:l.flatMap f++rest=(l.take n).flatMap f++(f l[n]).take j++((f l[n]).drop j).take vs.length++((f l[n]).drop (j+j9 vs)++((l.drop (n+1)).flatMap f++rest)):=by
    have w:=congrArg (List.flatMap f) g;rw[zj,zg]at w;rw[w];generalize f l[n]=z at d;rw[qt]at d;simp only[qt];congr 1
    conv=>lhs;rw[d]
    simp only[qt]
   rw[<-this];exact h2
  ·simp;omega
  ·rw[qy,o,qZ];omega
  ·intro c D;exact qU.1 p c D
  ·refine I _ ⟨by rw[zF];exact u.len,.inr ⟨b,rest,h1,?_,h3,h4⟩⟩ (aX.kr h2 λG=>G ⟨0,h1⟩);rw[jq h2,j1 k0,q,zj,zg,B];simp[qt]
theorem aa.RQ(A:C.Ok)(H:aa B h0 h As)(g:Nat)(b:As[g]?=dB (al e s k f l))(v:∀x,j9 (f x)=k)(E:C.T.get t=dB i){x:Int}(n:Nat)(u:x=n)(o:n<j9 l)(j:Nat)(vs:ba)(r:j+j9 vs<=k){c:eX}(y:α)(q:c.cells=vs.toArray)(m:i.size=j9 vs)
  (d:vs.all (·.oneCell')=eR) (p:f y=(f l[n]).take j++vs++(f l[n]).drop (j+j9 vs)) {K:hZ->Prop} (D:∀h',aa B h0 h' (As.set g (al e s k f (l.set n y)))->K h'):
  ∃a:hU,(s.ptr=dB a/\0<=x/\x<((s.len:Nat):Int))/\af C.P (qf t (.pointer (dB ((a.add (x.toNat*k)).add j))) c) h λ_ h'=>K h':=
 (H.own g b).RQ A v E n u o j vs r y q m d p λh' z w=>D h' (H.oS g b w z)
end
def HP.all:List HP->HP
 |[]=>emp
 |A::L=>A.sep (HP.all L)
section
variable {B:aB} {h0 h h':hZ} {As L:List HP} {A D E:HP}
theorem aa.sg:∀{L:List HP} {As:List HP},aa B h0 h (HP.all L::As)->aa B h0 h (L++As)
 |[],_,H=>H.rest
 |A::L,As,H=>by
  have f:aa B h0 h (HP.all L::A::As):=H.sZ;have e:=aa.sg f;exact e.pick (λi=>if i=0 then L.length else if i<=j9 L then i-1 else i) (λa b c=>by(try dsimp only at c);split at c<;>split at c<;>(try split at c)<;>(try split at c)<;>omega) λi X d=>by
   try dsimp only
   rw[zA]at d;cases i with
   |zero=>simp at d;subst d;rw[j1 k0,qj (ql _),zc];rfl
   |succ i=>
    rw[qE]at d;rw[j3 k4];by_cases g:i<j9 L
    ·rw[qp g]at d;rw[j1 k4,qp k4];simpa using d
    ·rw[qj k4]at d;rw[j3 k4,qj k4];rw[show i+1-j9 L=(i-j9 L)+1 by omega,qE];exact d
theorem aa.closeAll:∀(L:List HP) {As:List HP},aa B h0 h (L++As)->aa B h0 h (HP.all L::As)
 |[],As,H=>((H.comp (.one (A:=emp) (aX.refl _ _) trivial)).bu:aa B h0 h (emp::As))
 |A::L,As,H=>by
  have g:aa B h0 h (L++(A::As)):=H.pick (λi=>if i<j9 L then i+1 else if i=j9 L then 0 else i) (λa b c=>by(try dsimp only at c);split at c<;>split at c<;>(try split at c)<;>(try split at c)<;>omega) λi X d=>by
   try dsimp only
   by_cases e:i<j9 L
   ·rw[qp e]at d;rw[j1 e,zA,qE,qp e];exact d
   ·rw[qj k4]at d;by_cases f:i=j9 L
    ·subst f;rw[zc]at d;rw[j3 k4,j1 rfl];simpa using d
    ·rw[j3 e,j3 f,zA];obtain⟨j,rfl⟩:∃j,i=j9 L+(j+1):=⟨i-j9 L-1,k4⟩
     rw[zr,qE]at d;rw[show L.length+(j+1)=(j9 L+j)+1 by omega,qE,qj k4,zr];exact d
  exact(aa.closeAll L g).mb
theorem aa.Km{P:Prop}(H:aa B h0 h (A.and P::As)):aa B h0 h (A::As)/\P:=⟨H.aeJ 0 k0,H.fact 0 k0⟩
theorem aa.toKm{P:Prop}(H:aa B h0 h (A::As))(p:P):aa B h0 h (A.and P::As):=H.aih 0 k0 p
end
def dh{α:Type}(e:TypeId)(s:Sl)(b:TypeId)(k:Nat)(f:α->ba)(a:List (List α)):HP:=
 HP.ex λrs:List Sl=>(HP.all (al e s 1 bo rs::bA b k f rs a)).and (j9 rs=j9 a)
section
variable {α:Type} {C:Ctx} {B:aB} {h0 h h':hZ} {As:List HP} {e e2 k t by_:Nat} {s:Sl} {f:α->ba} {ll:List (List α)}
theorem aa.Iz(H:aa B h0 h (dh e s e2 k f ll::As)):∃rs:List Sl,j9 rs=j9 ll/\aa B h0 h ((al e s 1 bo rs::bA e2 k f rs ll)++As):=by obtain⟨rs,H⟩:=H.sK;obtain⟨H,a⟩:=H.Km;exact⟨rs,a,H.sg⟩
theorem aa.Gh{rs:List Sl}(a:j9 rs=j9 ll)(H:aa B h0 h ((al e s 1 bo rs::bA e2 k f rs ll)++As)):aa B h0 h (dh e s e2 k f ll::As):=
 ((aa.closeAll _ H).toKm a).xI (F:=λrs:List Sl=>(HP.all (al e s 1 bo rs::bA e2 k f rs ll)).and (j9 rs=j9 ll)) rs
theorem aa.Gi(H:aa B h0 h As)(e a k:Nat)(f:α->ba):aa B h0 h (dh e ⟨eH,0,0⟩ a k f []::As):=
 aa.Gh (rs:=[]) k0 ((H.nil e 1 bo).bu)
theorem aa.acF{Bs:List HP}(H:aa B h0 h (As++Bs)):aa B h0 h As:=H.pick id (λ_ _ h=>h) λi A a=>by
 rw[id,qp (qm.1 a).1];exact a
theorem aa.Gj(H:aa B h0 h (dh e s e2 k f ll::As))(b:∀x,j9 (f x)=k):fZ h s k f ll:=by obtain⟨rs,a,H⟩:=H.Iz;exact aa.RO (aa.acF H) a b
theorem aa.DO(H:aa B h0 h (dh e s e2 k f ll::As)):s.len=j9 ll/\s.len<=s.cap:=by obtain⟨rs,a,H⟩:=H.Iz;exact⟨by rw[(H.own 0 k0).len,a],(H.own 0 k0).cap⟩
theorem aa.IA(i:C.Ok){r:Sl}{x:List α}(H:aa B h0 h (dh e s e2 k f ll::al e2 r k f x::As))(g:ce C.toCG t e 1 [.slice eH 0 0] 24)(m:j9 ll+1<=2^32){ty:Nat}{K:Sl->hZ->Prop}
  (l:∀a h',aa B h0 h' (dh e a e2 k f (ll++[x])::As)->K a h'):
  aA C.P (qq t 1 #[(0,.slice r.ptr r.len r.cap)]) (.one (.sc .slc)) h λv j=>aA C.P (qu #[t,t] ty #[.slice s.ptr s.len s.cap,.slice v.ptr v.len v.cap]) (.one (.sc .slc)) j K:=by
 obtain⟨rs,c,H⟩:=H.Iz;refine H.push i 0 k0 g k0 k6 (λ_=>rfl) jx r k0 k6 k4 λa h' b=>l a h' ?_;refine aa.Gh (rs:=rs++[r]) oj ?_;rw[pG c];have b:aa B h0 h' (al e a 1 bo (rs++[r])::(bA e2 k f rs ll++al e2 r k f x::As)):=b;have d:al e a 1 bo (rs++[r])::(bA e2 k f rs ll++[al e2 r k f x])++As=al e a 1 bo (rs++[r])::(bA e2 k f rs ll++al e2 r k f x::As):=k9
 rw[d];exact b
end
end Go.Vc
namespace Gf
theorem acG{p:UInt8->Prop}(h:∀n,n<256->p (yy n))(a:UInt8):p a:=by
 have:=h a.toNat (UInt8.toNat_lt a)
 rwa [UInt8.ofNat_toNat]at this
def x2(a:UInt8):UInt8:=(a<<<1)^^^(if a&&&0x80=0 then 0 else 0x1b)
def x3(a:UInt8):UInt8:=x2 a^^^a
def pw:Nat->UInt8
 |0=>1
 |n+1=>x3 (pw n)
theorem afE(a b c:UInt8):(a^^^b)&&&c=(a&&&c)^^^(b&&&c):=by apply UInt8.toBitVec_inj.1;simp[UInt8.toBitVec_xor,UInt8.toBitVec_and];ext i hi;simp[Bool.and_xor_distrib_right]
theorem afF(a b:UInt8):(a^^^b)<<<1=(a<<<1)^^^(b<<<1):=by apply UInt8.toBitVec_inj.1;simp[UInt8.toBitVec_xor,UInt8.toBitVec_shiftLeft,BitVec.shiftLeft_xor_distrib]
theorem RR:∀a:UInt8,a&&&0x80=0∨a&&&0x80=0x80:=acG l4
theorem acH(a b c d:UInt8):(a^^^b)^^^(c^^^d)=(a^^^c)^^^(b^^^d):=by ac_rfl
theorem agP(a b:UInt8):x2 (a^^^b)=x2 a^^^x2 b:=by
 unfold x2;rw[afE,afF];rcases RR a with ha|ha<;>rcases RR b with hb|hb<;>rw[ha,hb]
 ·simp
 ·simp[UInt8.xor_assoc]
 ·rw[acH];simp
 ·rw[acH];simp
theorem agQ(a b:UInt8):x3 (a^^^b)=x3 a^^^x3 b:=by unfold x3;rw[agP,acH]
def xJ:Nat->UInt8->UInt8
 |0,a=>a
 |n+1,a=>x3 (xJ n a)
theorem Wv(a b:UInt8):∀n,xJ n (a^^^b)=xJ n a^^^xJ n b
 |0=>rfl
 |n+1=>by simp only[xJ,Wv a b n,agQ]
theorem NP(a:UInt8)(m:Nat):∀n,xJ (n+m) a=xJ n (xJ m a)
 |0=>by simp[xJ]
 |n+1=>by rw[Nat.add_right_comm];simp only[xJ,NP a m n]
theorem RS:∀n,xJ n 0=0
 |0=>rfl
 |n+1=>by rw[xJ,RS n];rfl
theorem CJ:∀n,pw n=xJ n 1
 |0=>rfl
 |n+1=>by rw[pw,xJ,CJ n]
def aiE:Nat:=939374623831894136699086600277250597547650664638770418422125146541797353646788332867483593573384618611044815625336497665827114626705134492515730415652478061620339993830966980270842846318821775850471098591710629241171812800746666233448222972174585295916389942636813666312872914849454985560152530477328703759683306625234997237483834721220409437442253146756845415190424543171129629468776480674528486868811725071010351012234056630775688111116293610821126543142160426617079940511630006820862697466582575257349116925728488930366609138264019883664906661504235885380294353134295748489096855100647154935187045898006656778240
def lg(a:UInt8):Nat:=(aiE>>>(8*a.toNat))%256
theorem Lx:∀a:UInt8,lg a<255:=acG l4
theorem Xq:∀a:UInt8,a≠0->pw (lg a)=a:=acG l4
theorem Xr:∀n,n<255->lg (pw n)=n:=l4
theorem agR:pw 255=1:=l4
theorem Xs:∀n,n<255->pw n≠0:=l4
theorem Zr(n:Nat):pw (n+255)=pw n:=by rw[CJ,NP,<-CJ 255,agR,<-CJ]
theorem Zs(n:Nat):pw (n%255)=pw n:=by
 have:∀k m,pw (m+255*k)=pw m:=by
  intro k
  induction k with
  |zero=>intro m;rfl
  |succ k ih=>intro m;rw[Nat.mul_succ,<-yk,Zr,ih]
 have h:=this (n/255) (n%255);rw[Nat.mod_add_div]at h;exact h.symm
def mul(a b:UInt8):UInt8:=if a=0∨b=0 then 0 else pw ((lg a+lg b)%255)
def inv(a:UInt8):UInt8:=if a=0 then 0 else pw ((255-lg a)%255)
theorem mul_zero(a:UInt8):mul a 0=0:=by simp[mul]
theorem zero_mul(a:UInt8):mul 0 a=0:=by simp[mul]
theorem mul_comm(a b:UInt8):mul a b=mul b a:=by
 unfold mul;rw[Nat.add_comm];by_cases h:a=0∨b=0
 ·rw[j1 h,j1 h.symm]
 ·rw[j3 h,j3 λx=>h x.symm]
theorem RT(a b:UInt8)(d:a≠0):mul a b=xJ (lg a) b:=by
 by_cases c:b=0
 ·subst c;rw[mul_zero,RS]
 ·rw[mul,j3 (by simp[d,c]),Zs,CJ,NP,<-CJ,Xq b c]
theorem kv(a b c:UInt8):mul a (b^^^c)=mul a b^^^mul a c:=by
 by_cases d:a=0
 ·subst d;simp[zero_mul]
 ·rw[RT _ _ d,RT _ _ d,RT _ _ d,Wv]
theorem Ww(a b c:UInt8):mul (a^^^b) c=mul a c^^^mul b c:=by rw[mul_comm,kv,mul_comm c a,mul_comm c b]
theorem Zt{a b:UInt8}(d:a≠0)(c:b≠0):mul a b≠0:=by rw[mul,j3 (by simp[d,c])];exact Xs _ (yt _ k6)
theorem Zu{a b:UInt8}(d:a≠0)(c:b≠0):lg (mul a b)=(lg a+lg b)%255:=by rw[mul,j3 (by simp[d,c]),Xr _ (yt _ k6)]
theorem mul_assoc(a b c:UInt8):mul (mul a b) c=mul a (mul b c):=by
 by_cases f:a=0
 ·subst f;simp[zero_mul]
 by_cases d:b=0
 ·subst d;simp[zero_mul,mul_zero]
 by_cases e:c=0
 ·subst e;simp[mul_zero]
 rw[mul,j3 (by simp[Zt f d,e]),Zu f d,mul,j3 (by simp[f,Zt d e]),Zu d e];congr 1;omega
theorem agS:lg 1=0:=l4
theorem one_mul(a:UInt8):mul 1 a=a:=by
 by_cases b:a=0
 ·subst b;rfl
 ·rw[mul,j3 p0,agS,z6,Zs,Xq a b]
theorem mul_one(a:UInt8):mul a 1=a:=by rw[mul_comm,one_mul]
theorem agT{a:UInt8}(b:a≠0):inv a≠0:=by rw[inv,j3 b];exact Xs _ (yt _ k6)
theorem NQ{a:UInt8}(b:a≠0):mul a (inv a)=1:=by
 have c:=Lx a;rw[mul,j3 (by simp[b,agT b]),inv,j3 b,Xr _ (yt _ k6)];have:(lg a+(255-lg a)%255)%255=0:=k4
 rw[this];rfl
end Gf
namespace Wl
structure Pow where
 off:Bool
 fuse:Option Nat
 offs:Int
def Pow.new:Pow:=⟨eS,eH,0⟩
def Pow.step(w:Pow):Bool×Pow:=
 if w.off then(eS,w)else match w.fuse with
 |none=>(eR,w)
 |some 0=>(eS,⟨eR,dB 0,Go.IntKind.wrap .i64 (w.offs+1)⟩)
 |some (k+1)=>(eR,⟨eS,dB k,w.offs⟩)
structure bp where
 room:Nat
 l:cC
 wait:Nat
 laid:cC
 has:Bool
 lost:Bool
def bp.new(a:Nat):bp:=⟨a,[],0,[],eS,eS⟩
def bp.append(w:Pow)(d:bp)(b:aY):Int×Pow×bp:=
 if b.length≠64 then(1,w,d)
 else if d.lost then(5,w,d)
 else if d.room<=j9 d.l then(7,w,d)
 else if w.off then(14,w,d)
 else if w.step.1 then(0,w.step.2,{d with l:=d.l++[b],wait:=d.wait+1,laid:=[],has:=eS})
 else(14,w.step.2,{d with l:=d.l++[b],wait:=d.wait+1})
def bp.sync(w:Pow)(d:bp):Int×Pow×bp:=
 if d.lost then(5,w,d)
 else if w.step.1 then(0,w.step.2,{d with wait:=0,laid:=[],has:=eS})
 else(14,w.step.2,d)
def bp.rewrite(w:Pow)(d:bp)(l:cC):Int×Pow×bp:=
 if !l.all (λb=>decide (j9 b=64))then(1,w,d)
 else if d.lost then(5,w,d)
 else if d.room<j9 l then(7,w,d)
 else if w.off then(14,w,d)
 else if w.step.1 then(0,w.step.2,{d with l:=l,wait:=0,laid:=[],has:=eS})
 else(14,w.step.2,{d with laid:=l,has:=eR})
abbrev aF:=List (Option bp)
def aW(ds:aF)(a:Int):Option bp:=if 0<=a/\a<64 then(ds[a.toNat]?).join else eH
def bT(ds:aF)(a:Int)(d:bp):aF:=ds.set a.toNat (dB d)
def isLive(ds:aF)(a:Int):Bool:=match aW ds a with|some d=>!d.lost|none=>eS
def be(ds:aF)(a:au):au:=a.filter (isLive ds)
def fQ(w:Pow)(ds:aF)(a:Int)(b:aY):Int×Pow×aF:=
 match aW ds a with
 |none=>(if b.length≠64 then 1 else 5,w,ds)
 |some d=>((d.append w b).1,(d.append w b).2.1,bT ds a (d.append w b).2.2)
def gI(w:Pow)(ds:aF)(a:Int):Int×Pow×aF:=
 match aW ds a with
 |none=>(5,w,ds)
 |some d=>((d.sync w).1,(d.sync w).2.1,bT ds a (d.sync w).2.2)
def lD:List (Int×aY)->Pow->aF->Int×Pow×aF
 |[],w,ds=>(0,w,ds)
 |x::l,w,ds=>let r:=fQ w ds x.1 x.2;if r.1=0 then lD l r.2.1 r.2.2 else r
def eN:au->Pow->aF->Int×Pow×aF
 |[],w,ds=>(0,w,ds)
 |x::l,w,ds=>let r:=gI w ds x;if r.1=0 then eN l r.2.1 r.2.2 else r
theorem uO(x:Int)(l:au)(w:Pow)(ds:aF):eN (x::l) w ds=if(gI w ds x).1=0 then eN l (gI w ds x).2.1 (gI w ds x).2.2 else gI w ds x:=rfl
theorem xK(x:Int×aY)(l:List (Int×aY))(w:Pow)(ds:aF):lD (x::l) w ds=if(fQ w ds x.1 x.2).1=0 then lD l (fQ w ds x.1 x.2).2.1 (fQ w ds x.1 x.2).2.2 else fQ w ds x.1 x.2:=rfl
def cI(l:au):au:=((qx 64).map λi:Nat=>(i:Int)).filter λi=>decide (i∈l)
def layAll(l:List (Int×aY))(w:Pow)(ds:aF):Int×Pow×aF:=
 let r:=lD l w ds
 if r.1=0 then eN (cI (l.map qM)) r.2.1 r.2.2 else r
end Wl
namespace Go.Vc
open Go
theorem Kn(l:au):l.flatMap aq=l.map (Value.int .i64):=by
 induction l with
 |nil=>rfl
 |cons a t ih=>rw[zg,ih];rfl
theorem OZ{w:World}{e:TypeId}{b:Nat}{rest:ba}{l:au}(c:w.heap[b]?=dB (.cells (l.flatMap aq++rest).toArray e (0,0))):Sort.Holds (Value.int .i64) w b 0 l.toArray:=by
 intro j d;have a:j<j9 l:=p6
 refine⟨?_,by simp[World.frozen?,c]⟩;rw[Kn]at c;have:(l.map (Value.int .i64)++rest)[j]?=dB (xb xi l[j]):=by rw[qp l7,qR,qd a];rfl
 simp[World.cell?,c,this,a]
theorem RU(l l':au)(rest:ba)(b:j9 l'=j9 l):Sort.putCells (Value.int .i64) 0 l'.toArray (l.flatMap aq++rest).toArray=(l'.flatMap aq++rest).toArray:=by
 rw[Kn,Kn];apply yA;intro i;simp only[Sort.putCells,Array.getElem?_mapIdx,zZ,w8,z6,Nat.zero_le,true_and];by_cases a:i<j9 l
 ·rw[qp l7,qp k8];have c:i<j9 l':=k4
  simp[a,c]
 ·rw[qj k8,qj k8];simp only[qw,b];cases h:rest[i-j9 l]? with
  |none=>rfl
  |some x=>simp only[qY];rw[j3 a]
theorem RV{P:Program}{id:FuncId}(D:∀(fO off cap:Nat) (m:au) (w:World),Sort.Holds (Value.int .i64) w fO off m.toArray->fO<w.heap.size->j9 m<4611686018427387904->
   Calls P id #[.slice (dB ⟨fO,off,eH⟩) m.length cap] w λe j=>e=.returned (.tuple #[])/\∃n os,j=Sort.grow (Sort.putRow (Value.int .i64) (Sort.ahead w n) fO off (m.mergeSort λx y=>decide (x<=y)).toArray) os)
  (t:∀(p:aQ) (cap:Nat) (w:World),Calls P id #[.slice p 0 cap] w λe j=>e=.returned (.tuple #[])/\j=w)
  {e:TypeId} {s:Sl} {l:au} {h:hZ} (r:Own h e s 1 aq l) (B:j9 l<2^40):
  ab P id #[.slice s.ptr s.len s.cap] h λv h'=>v=.tuple #[]/\Own h' e s 1 aq (l.mergeSort λx y=>decide (x<=y))/\aX (λb=>¬s.on b) h h':=by
 intro w f;have a:=r.len;rcases r.head with⟨h1,h2,h3⟩|⟨b,rest,h1,h2,h3,h4⟩
 ·subst h3;rw[a,h1];refine(t eH s.cap w).mono ?_;rintro u j ⟨rfl,rfl⟩;have z:(([]:au).mergeSort λx y=>decide (x<=y))=[]:=k9
  exact⟨_,k0,dl.refl _,k0,by rw[z];exact⟨a,.inl ⟨h1,h2,k0⟩⟩,by rw[<-f];exact aX.refl _ _⟩
 ·rw[h1,a];have o:w.heap[b]?=dB (.cells (l.flatMap aq++rest).toArray e (0,0)):=by rw[f];exact h2
  refine(D b 0 s.cap l w (OZ o) (lt_of_block o) k4).mono ?_;rintro u j ⟨rfl,n,os,rfl⟩;have g:=lt_of_block o;have i:j9 (l.mergeSort λx y=>decide (x<=y))=j9 l:=wJ l;have d:∀k,k<h.size->(Sort.grow (Sort.putRow (Value.int .i64) (Sort.ahead w n) b 0 (l.mergeSort λx y=>decide (x<=y)).toArray) os).heap[k]?=if b=k then dB (.cells ((l.mergeSort λx y=>decide (x<=y)).flatMap aq++rest).toArray e (0,0))else h[k]?:=by
   intro k q;rw[Sort.heap_grow_old _ _ (by simpa[Sort.putRow,Sort.mapBlock,Sort.ahead,f]using q)];simp only[Sort.putRow,Sort.mapBlock,Sort.ahead,wu];by_cases c:b=k
   ·subst c;rw[j1 k0,j1 k0,o,qY,Sort.onCells,RU _ _ _ i]
   ·rw[j3 c,j3 c,f]
  rw[f]at g;refine⟨_,k0,⟨k0,k0,k0,by simp[Sort.grow,Sort.putRow,Sort.mapBlock,Sort.ahead]⟩,k0,⟨by rw[i];exact a,.inr ⟨b,rest,h1,?_,h3,h4⟩⟩,?_,?_⟩
  ·rw[d b g,j1 rfl]
  ·simp[Sort.grow,Sort.putRow,Sort.mapBlock,Sort.ahead,f]
  ·intro k q A;rw[d k q,j3 λc=>A ⟨0,by rw[h1,c]⟩]
end Go.Vc
namespace Wl
def bH(p:Int×Int×Int):Bool:=decide (p.1>=1)&&(decide (p.1<=16)&&(decide (p.2.1>=1)&&(decide (p.2.1<=4)&&(decide (p.2.2>=1)&&decide (p.2.2<=24)))))
theorem bZ(p:Int×Int×Int):bH p=eR↔(1<=p.1/\p.1<=16)/\(1<=p.2.1/\p.2.1<=4)/\1<=p.2.2/\p.2.2<=24:=by simp[bH,and_assoc]
def bD(p:Int×Int×Int):Int:=if bH p then p.1+p.2.1 else 0
open Go
def ER(s:Int):Int:=qc xl (qc xl (s*(6364136223846793005:Int))+(1442695040888963407:Int))
def told(s:Int):Int:=qc xk (q9 (ER s) (2^min (32:Int).toNat (qk xl)))
def mC(s n:Int):Int:=qc xi (wg (qc xl (told s)) (qc xl n))
theorem wrap_u64(x:Int):qc xl x=x%18446744073709551616:=rfl
theorem xL(s n:Int)(d:0<n:=by omega)(e:n<=2^62:=by omega):0<=mC s n/\mC s n<n:=by
 unfold mC;have a:qc xl n=n:=sp
 rw[a];have c:0<=qc xl (told s):=sp
 have e2:=vt (qc xl (told s)) d;have b:0<=wg (qc xl (told s)) n:=Int.tmod_nonneg n c;rw[Go.Vc.ag _];exact⟨b,e2⟩
def lE(l:au)(i:Nat):Int:=l.getD i 0
def sM(l:au)(i j:Nat):au:=(l.set i (lE l j)).set j (lE l i)
theorem RW(l:au)(i j:Nat):j9 (sM l i j)=j9 l:=by simp[sM]
def gG(n:Nat)(s:Int)(l:au):Nat->Int×au
 |0=>(s,l)
 |k+1=>(ER (gG n s l k).1,sM (gG n s l k).2 k (k+(mC (gG n s l k).1 ((n-k:Nat):Int)).toNat))
theorem xM(n:Nat)(s:Int)(l:au):∀k,(gG n s l k).2.length=j9 l
 |0=>rfl
 |k+1=>by rw[gG,RW,xM n s l k]
theorem Ko{l:au}{i:Nat}(h:i<j9 l):lE l i∈l:=by rw[lE,qe,qd h];exact qh h
theorem acI{l:au}{i j:Nat}(a:i<j9 l)(c:j<j9 l){x:Int}(b:x∈sM l i j):x∈l:=by
 rcases wh b with h|h
 ·rcases wh h with h|h
  ·exact h
  ·rw[h];exact Ko c
 ·rw[h];exact Ko a
def upto(n:Nat):au:=(qx n).map λi:Nat=>(i:Int)
theorem hJ(n:Nat):j9 (upto n)=n:=by simp[upto]
theorem Kp(n:Nat)(s:Int):∀k,k<=n->∀x∈(gG n s (upto n) k).2,0<=x/\x<n
 |0,_,x,hx=>by
  simp only[gG,upto,qo,qD]at hx;obtain⟨i,l,rfl⟩:=hx;omega
 |k+1,hk,x,hx=>by
  have f:k<n->n-k<=2^62->k+(mC (gG n s (upto n) k).1 ((n-k:Nat):Int)).toNat<n:=λm j=>by
   have:=xL (gG n s (upto n) k).1 ((n-k:Nat):Int);omega
  have e:=xM n s (upto n) k;rw[hJ]at e;by_cases b:n-k<=2^62
  ·refine Kp n s k k4 x (acI k4 ?_ hx);have:=f k4 b;omega
  ·--beyond any size:what is set is 0 or a member
   have c:∀y∈sM (gG n s (upto n) k).2 k (k+(mC (gG n s (upto n) k).1 ((n-k:Nat):Int)).toNat),y∈(gG n s (upto n) k).2∨y=0:=by
    intro y d;have g:∀i,lE (gG n s (upto n) k).2 i∈(gG n s (upto n) k).2∨lE (gG n s (upto n) k).2 i=0:=λi=>by
     by_cases h:i<(gG n s (upto n) k).2.length
     ·exact .inl (Ko h)
     ·right;simp only[lE,qe];rw[qQ k4];rfl
    rcases wh d with h|h
    ·rcases wh h with h|h
     ·exact .inl h
     ·rw[h];exact g _
    ·rw[h];exact g _
   rcases c x hx with h|h
   ·exact Kp n s k k4 x h
   ·subst h;omega
def lu(l:au):au:=l.mergeSort λx y=>decide (x<=y)
theorem Pa(l:au):j9 (lu l)=j9 l:=wJ l
theorem Pb(l:au)(x:Int):x∈lu l↔x∈l:=List.mem_mergeSort
def IB(s:Int)(n k:Nat):au:=lu ((gG n s (upto n) k).2.take k)
theorem acJ{s:Int}{n k:Nat}(b:k<=n){x:Int}(a:x∈IB s n k):0<=x/\x<n:=
 Kp n s k b x (zI ((Pb _ _).1 a))
theorem acK(s:Int)(n k:Nat)(a:k<=n):j9 (IB s n k)=k:=by rw[IB,Pa,qZ,xM,hJ];omega
def fD(l:Nat):Nat:=if l<=1 then l else if l<=4 then 2 else if l<=9 then 3 else if l<=16 then 4 else 5
def IC(r:Nat):Nat:=if r=0 then 0 else if r=1 then 1 else if r<=3 then 2 else 3
def sh(l k:Nat):Nat:=
 (if k>1 then 1048576/(k*(k-1))else 1048576/l)+
  (if k<l/fD l then 1048576*fD l/(l*k)else if k=l/fD l then 1048576*fD l*IC (fD l)/l else 0)
def na(l:Nat):Nat->Nat
 |0=>0
 |k+1=>na l k+sh l (k+1)
def jV(l:Nat):au:=(qx l).map λk=>((na l (k+1):Nat):Int)
theorem me(l:Nat):j9 (jV l)=l:=by simp[jV]
def Xt(t:au)(x:Int):Nat:=(t.findIdx λy=>decide (y>x))+1
theorem Ly:∀l,l<=20->∀k,k<=20->sh l k<=2^30:=l4
theorem ID(l:Nat)(a:l<=20):∀k,k<=20->na l k<=k*2^30
 |0,_=>by simp[na]
 |k+1,hk=>by
  have:=ID l a k k4;have:=Ly l a (k+1) hk;rw[na];omega
theorem RX:∀l,l<=20->1<=l->0<na l l:=l4
theorem Lz(l:Nat)(h:1<=l):(jV l).getLast?=dB ((na l l:Nat):Int):=by
 obtain⟨k,rfl⟩:∃k,l=k+1:=⟨l-1,k4⟩
 simp[jV,zR]
def Gk(seed id:Int):Int:=qc xl (qc xk ((qF (qk xk) seed^^^(qF (qk xk) (qc xk ((qc xk id)*(2654435761:Int))))).toNat:Nat))
def IE(s:Int)(n:Nat):Nat:=Xt (jV n) (mC s (na n n))
theorem xN(s:Int)(n:Nat)(b:1<=n)(a:n<=20):IE s n<=n:=by unfold IE Xt;have e:=RX n a b;have c:=ID n a n a;have d:=xL s (na n n);have:=List.findIdx_lt_length_of_exists (p:=λy=>decide (y>mC s (na n n))) (xs:=jV n) ⟨_,List.mem_of_getLast? (Lz n b),by simpa using d.2⟩;rw[me]at this;omega
def bW(id:Int):Bool:=decide (0<=id)&&decide (id<=65535)
def dt(n:Nat)(seed id:Int):au:=IB (ER (ER (Gk seed id))) n (IE (ER (Gk seed id)) n)
theorem nc{n:Nat}(c:1<=n)(a:n<=20){seed id x:Int}(b:x∈dt n seed id):0<=x/\x<n:=acJ (xN _ n c a) b
theorem Bh{n:Nat}(b:1<=n)(a:n<=20)(seed id:Int):j9 (dt n seed id)<=n:=by rw[dt,acK _ _ _ (xN _ n b a)];exact xN _ n b a
def gh(n:Nat)(l:au):aY:=l.foldl (λr i=>r.set i.toNat 1) (qg n 0)
theorem si(n:Nat)(l:au):j9 (gh n l)=n:=by
 have:∀(l:au) (r:aY),j9 (l.foldl (λr i=>r.set i.toNat 1) r)=j9 r:=by
  intro l
  induction l with
  |nil=>intro r;rfl
  |cons a t ih=>intro r;rw[zC,ih];simp
 rw[gh,this];simp
def oH(n:Nat)(seed id:Int):aY:=gh n (dt n seed id)
theorem RY(n:Nat)(seed id:Int):j9 (oH n seed id)=n:=si _ _
def mf(K H h:Nat):aY:=(qx K).map (λj=>Gf.pw ((h+1)*(j+1)%255))++(qx H).map λi=>if i=h then 1 else 0
def bw(K H:Nat):cC:=(qx H).map (mf K H)
theorem xO(K H h:Nat):j9 (mf K H h)=K+H:=by simp[mf]
def dR(p:Int×Int×Int)(seed:Int)(ids:au):cC:=
 if bH p then bw p.1.toNat p.2.1.toNat++(ids.filter bW).map (oH (bD p).toNat seed)else[]
theorem oI{α:Type}{f:α->Bool}{l:List α}{k:Nat}(a:k<j9 l):(l.take (k+1)).filter f=if f l[k]then(l.take k).filter f++[l[k]]else(l.take k).filter f:=by rw[zG a,zl];by_cases h:f l[k]=eR<;>simp[h]
abbrev Row:=aY
abbrev aM:=List Row
def scaleB(c:UInt8)(l:Row):Row:=l.map (Gf.mul c)
def cY(c:UInt8)(a to:Row):Row:=zh (λx y=>y^^^Gf.mul c x) a to
def aN(r:Row)(bt:Nat):UInt8:=r.getD bt 0
def aC(m:aM)(i:Nat):Row:=m.getD i []
def ji(m:aM)(a bt:Nat):Option Nat:=(qx m.length).find? λi=>decide (a<=i)&&(aN (aC m i) bt !=0)
def jB(m:aM)(i j:Nat):aM:=(m.set i (aC m j)).set j (aC m i)
def fj(a bt:Nat)(m:aM)(k:Nat):aM:=m.mapIdx λi r=>if i<k/\i≠a then cY (aN r bt) (aC m a) r else r
def ki(a bt:Nat)(m:aM):aM:=m.set a (scaleB (Gf.inv (aN (aC m a) bt)) (aC m a))
def jC(s:Nat×aM)(bt:Nat):Nat×aM:=
 match ji s.2 s.1 bt with
 |none=>s
 |some i=>(s.1+1,fj s.1 bt (ki s.1 bt (jB s.2 s.1 i)) s.2.length)
def bG(m:aM):Nat->Nat×aM
 |0=>(0,m)
 |c+1=>jC (bG m c) c
def eU(m:aM):Nat:=j9 (aC m 0)
def ca(m:aM):Nat:=(bG m (eU m)).1
def aT(n:Nat)(m:aM):Prop:=∀r∈m,j9 r=n
theorem oU(c:UInt8)(l:Row):j9 (scaleB c l)=j9 l:=by simp[scaleB]
theorem bX{c:UInt8}{a t:Row}(h:j9 a=j9 t:=by omega):j9 (cY c a t)=j9 t:=by simp[cY,h]
theorem bv{m:aM}{i:Nat}(h:i<j9 m):aC m i=m[i]:=by rw[aC,qe,qd h];rfl
theorem cy{n:Nat}{m:aM}(h:aT n m){i:Nat}(a:i<j9 m:=by omega):j9 (aC m i)=n:=by rw[bv a];exact h _ (qh a)
theorem Kq{n:Nat}{m:aM}(h:aT n m){i:Nat}{r:Row}(a:j9 r=n):aT n (m.set i r):=λx b=>by
 rcases wh b with h1|h1
 ·exact h x h1
 ·rw[h1];exact a
theorem Xu{P:Nat->Bool}{n:Nat}(h:∀j,j<n->P j=eS):(qx n).find? P=eH:=by rw[yh];intro x a;rw[qD]at a;simp[h x a]
theorem Xv{P:Nat->Bool}{n k:Nat}(e:k<n)(h:∀j,j<k->P j=eS)(d:P k=eR):(qx n).find? P=dB k:=by
 rw[List.find?_eq_some_iff_append];refine⟨d,qx k,List.range' (k+1) (n-k-1),?_,λa b=>?_⟩
 ·rw[yL,yL];have c:n=k+(n-k):=k4
  have e2:n-k=(n-k-1)+1:=k4
  conv=>lhs;rw[c,<-List.range'_append_1 (s:=0) (m:=k) (n:=n-k)]
  rw[z6]
  conv=>lhs;rw[e2,List.range'_succ]
 ·rw[qD]at b;simp[h a b]
theorem sN{m:aM}{a bt i:Nat}(h:ji m a bt=dB i):a<=i/\i<j9 m/\aN (aC m i) bt≠0:=by have b:=List.find?_some h;have c:=List.mem_of_find?_eq_some h;simp at b c;exact⟨b.1,c,b.2⟩
theorem UH{m:aM}{a bt:Nat}(h:ji m a bt=eH):∀i,a<=i->i<j9 m->aN (aC m i) bt=0:=λi c b=>by
 have:=yh.1 h i (qD.2 b);simpa[c]using this
theorem lT(m:aM)(i j:Nat):j9 (jB m i j)=j9 m:=by simp[jB]
theorem Gl{n:Nat}{m:aM}(h:aT n m){i j:Nat}(a:i<j9 m)(b:j<j9 m):aT n (jB m i j):=Kq (Kq h (cy h b)) (cy h a)
theorem oJ(t c:Nat)(m:aM):j9 (ki t c m)=j9 m:=by simp[ki]
theorem Bi{n:Nat}{m:aM}(h:aT n m){t c:Nat}(a:t<j9 m):aT n (ki t c m):=Kq h (by rw[oU];exact cy h a)
theorem oK(t c:Nat)(m:aM)(k:Nat):j9 (fj t c m k)=j9 m:=by simp[fj]
theorem Bj{n:Nat}{m:aM}(h:aT n m){t c k:Nat}(e:t<j9 m):aT n (fj t c m k):=λx d=>by
 obtain⟨i,b,rfl⟩:=List.mem_mapIdx.1 d;have a:=h _ (qh b);split
 ·rw[bX (by rw[cy h e,a])];exact a
 ·exact a
theorem Zv(t c:Nat)(m:aM):fj t c m 0=m:=by apply zP;intro i;simp[fj,ve]
theorem sj{t c k:Nat}{m:aM}{i:Nat}(a:i<j9 m):aC (fj t c m k) i=if i<k/\i≠t then cY (aN (aC m i) c) (aC m t) (aC m i)else aC m i:=by rw[bv (by rw[oK];exact a),bv a];simp[fj]
theorem Zw{t c k:Nat}{m:aM}(d:k<j9 m)(b:k≠t):fj t c m (k+1)=(fj t c m k).set k (cY (aN (aC m k) c) (aC m t) (aC m k)):=by
 apply zP;intro i;simp only[fj,zb,ve,List.length_mapIdx];by_cases a:k=i
 ·subst a;simp only[if_true,d,qd d,qY];rw[j1 ⟨k4,b⟩,bv d]
 ·rw[j3 a];congr 1;funext r;by_cases h:i<k/\i≠t
  ·rw[j1 h,j1 ⟨k4,h.2⟩]
  ·rw[j3 h,j3 λe=>h ⟨k4,e.2⟩]
theorem Zx{t c:Nat}{m:aM}:fj t c m (t+1)=fj t c m t:=by
 apply zP;intro i;simp only[fj,ve];congr 1;funext r;by_cases h:i<t/\i≠t
 ·rw[j1 h,j1 ⟨k4,h.2⟩]
 ·rw[j3 h,j3 λa=>h ⟨k4,a.2⟩]
theorem Zy{n:Nat}{s:Nat×aM}(h:aT n s.2)(bt:Nat):aT n (jC s bt).2/\(jC s bt).2.length=j9 s.2:=by
 unfold jC;cases hb:ji s.2 s.1 bt with
 |none=>exact⟨h,k0⟩
 |some i=>
  have a:=sN hb;dsimp only;refine⟨Bj (Bi (Gl h k4 a.2.1) (by rw[lT];omega)) (by rw[oJ,lT];omega),by rw[oK,oJ,lT]⟩
theorem gZ{n:Nat}{m:aM}(h:aT n m):∀c,aT n (bG m c).2/\(bG m c).2.length=j9 m
 |0=>⟨h,k0⟩
 |c+1=>by
  have:=gZ h c;have a:=Zy this.1 c;rw[bG];exact⟨a.1,by rw[a.2,this.2]⟩
theorem acL{s:Nat×aM}(h:s.1<=j9 s.2)(bt:Nat):(jC s bt).1<=(jC s bt).2.length:=by
 unfold jC;cases hb:ji s.2 s.1 bt with
 |none=>exact h
 |some i=>
  have a:=sN hb;dsimp only;rw[oK,oJ,lT];omega
theorem DP(m:aM):∀c,(bG m c).1<=(bG m c).2.length
 |0=>by simp[bG]
 |c+1=>acL (DP m c) c
end Wl
namespace Go.Vc
open Go
section
variable {C:Ctx} {t t2 ty e k:Nat} {z:ba} {by_:Nat} {α:Type} {h h0:hZ} {p B:aB} {s v:Sl} {f:α->ba} {l l2:List α} {As:List HP}
theorem Own.RZ(Q:C.Ok)(O:ce C.toCG t e k z by_)(D:∀x,j9 (f x)=k)(r:Own h e s k f l)(N:Seq h p v k f l2)(w:∀x,∀c∈f x,c.oneCell'=eR)(j:Nat)(U:j<=j9 l){o:aQ}{G W:Nat}(i:o=if s.cap=j then s.ptr else s.ptr.map (·.add (j*k)))(B:G=s.len-j){K:Int->hZ->Prop}
  (F:∀n h',Own h' e s k f (l.take j++(l2.take (j9 l-j)++l.drop (j+j9 l2)))->aX (λb=>¬s.on b) h h'->K n h'):
  aA C.P (w5 #[t,t2] ty #[.slice o G W,.slice v.ptr v.len v.cap]) (.one (.sc (.int .i64))) h K:=by
 unfold aA w5;simp only[zZ,yU,qE];refine af.bind (af.always (aV (O.under Q)) ?_);refine af.bind (af.pure' ?_);refine af.bind (af.always (O.size Q) ?_);have g:=r.len;have q:=N.len;have R:=r.cap;obtain⟨m,E⟩:∃m,m=Nat.min v.len G:=⟨_,rfl⟩
 rw[<-E];have L:m<=j9 l2:=by rw[E,<-q];exact Nat.min_le_left _ _
 have A:m<=j9 l-j:=by rw[E,<-g,B];exact Nat.min_le_right _ _
 have X:m=min l2.length (j9 l-j):=by rw[E,B,g,q]
 have H:=N.take m L;have V:l2.take (j9 l-j)++l.drop (j+j9 l2)=l2.take m++l.drop (j+m):=by
  rcases Nat.le_total l2.length (j9 l-j)with hh|hh
  ·rw[qi hh,show m=j9 l2 by omega,qS]
  ·rw[show m=j9 l-j by omega,zi (show l.length<=j+j9 l2 by omega),zi k4]
 rw[V]at F;have J:wy k m (.slice v.ptr v.len v.cap)=wy k m (.slice v.ptr m v.cap):=by cases v.ptr<;>rfl
 rw[J];refine af.bind (iN (v:=⟨v.ptr,m,v.cap⟩) D H ?_);have d:m=0->l.take j++(l2.take m++l.drop (j+m))=l:=λe=>by rw[e];simp
 rcases r.head with⟨h1,h2,h3⟩|⟨b,rest,h1,h2,h3,h4⟩
 ·have a:o=eH:=by rw[i,h1];split<;>rfl
  rw[a];subst h3;have:m=0:=by simp at A;exact A
  refine af.pure' ⟨_,k0,F _ h ?_ (aX.refl _ _)⟩;rw[d this];exact r
 ·by_cases u:s.cap=j
  ·have a:o=dB ⟨b,0,eH⟩:=by rw[i,j1 u,h1]
   rw[a];have y:m=0:=k4
   refine af.bind ?_;rw[y];simp only[vz,List.flatMap_nil];exact af.pure' (af.pure' ⟨_,k0,F _ h (by rw[d y];exact r) (aX.refl _ _)⟩)
  ·have a:o=dB ⟨b,0+j*k,eH⟩:=by rw[i,j3 u,h1];simp only[qY];rw[add_eq]
   rw[a];refine af.bind ?_;have I:l.flatMap f++rest=(l.take j).flatMap f++((l.drop j).take m).flatMap f++((l.drop (j+m)).flatMap f++rest):=by rw[<-qt,<-zj,<-zj,<-zL,qt (List.take j l),qJ,qJ]
   rw[I]at h2;refine fU (e:=e) (pre:=(l.take j).flatMap f) (old:=((l.drop j).take m).flatMap f) (post:=(l.drop (j+m)).flatMap f++rest) h2 (by rw[ez D,ez D,qZ,qZ,ze];congr 1;omega) (by rw[ez D,qZ];rw[yu U];omega) ?_ ?_
   ·intro c T;obtain⟨x,_,M⟩:=zB.1 T;exact w x c M
   ·refine af.pure' ⟨_,k0,F _ _ ⟨by rw[g,qy,qy,qZ,qZ,ze];omega,.inr ⟨b,rest,h1,?_,h3,h4⟩⟩ (aX.kr h2 λS=>S ⟨0,h1⟩)⟩;rw[jq h2,j1 k0,zj,zj];simp[qt]
theorem aa.RZ(A:C.Ok)(H:aa B h0 h As)(i:Nat)(o:As[i]?=dB (al e s k f l))(w:ce C.toCG t e k z by_)(u:∀x,j9 (f x)=k)(q:Seq h p v k f l2)(a:∀x,∀c∈f x,c.oneCell'=eR)(j:Nat)(r:j<=j9 l){m:aQ}{g D:Nat}(b:m=if s.cap=j then s.ptr else s.ptr.map (·.add (j*k)))(d:g=s.len-j){K:Int->hZ->Prop}
  (E:∀n h',aa B h0 h' (As.set i (al e s k f (l.take j++(l2.take (j9 l-j)++l.drop (j+j9 l2)))))->K n h'):
  aA C.P (w5 #[t,t2] ty #[.slice m g D,.slice v.ptr v.len v.cap]) (.one (.sc (.int .i64))) h K:=
 (H.own i o).RZ A w u q a j r b d λn h' x y=>E n h' (H.oS i o y x)
end
end Go.Vc
namespace Wl
open Go
def b8(n:Int):UInt8:=yy (n%256).toNat
theorem eV(n:Int):qc xj n=((b8 n).toNat:Int):=by
 have h0:=yH n (show(256:Int)≠0 by decide);have a:=yi n (show(0:Int)<256 by decide);have e:((b8 n).toNat:Int)=n%256:=by unfold b8;rw[UInt8.toNat_ofNat'];omega
 rw[e];unfold qc;simp[qk,yV]
abbrev ta:=BitVec 32
def LA(s:ta):ta:=if s&&&1#32=1#32 then(s>>>1)^^^3988292384#32 else s>>>1
def CK:Nat->ta->ta
 |0,s=>s
 |n+1,s=>LA (CK n s)
def Wx(s:ta)(x:UInt8):ta:=CK 8 (s^^^BitVec.ofNat 32 x.toNat)
def uP(l:aY):ta:=l.foldl Wx 4294967295#32
def CL(l:aY):ta:=4294967295#32^^^uP l
theorem Xw(l:aY)(x:UInt8):uP (l++[x])=Wx (uP l) x:=by unfold uP;rw[wv];rfl
theorem Sa(s:ta):qc xk ((s.toNat:Nat):Int)=(s.toNat:Int):=by have:=s.isLt;unfold qc;simp[qk,yV];omega
theorem Xx(a b:ta):qc xk ((qF (qk xk) (a.toNat:Int)^^^qF (qk xk) (b.toNat:Int)).toNat:Nat)=((a^^^b).toNat:Int):=by show qc xk (((qF 32 (a.toNat:Int)^^^qF 32 (b.toNat:Int):BitVec 32).toNat:Nat):Int)=_;rw[wV,wV,vu,vu,vw,vw,Sa]
theorem aii(a b:ta):qc xk ((qF (qk xk) (a.toNat:Int)&&&qF (qk xk) (b.toNat:Int)).toNat:Nat)=((a&&&b).toNat:Int):=by show qc xk (((qF 32 (a.toNat:Int)&&&qF 32 (b.toNat:Int):BitVec 32).toNat:Nat):Int)=_;rw[wV,wV,vu,vu,vw,vw,Sa]
theorem Zz(n:Int):qc xk n=((qF 32 n).toNat:Int):=by unfold qc;simp[qk,yV,BitVec.toNat_ofInt];omega
theorem afG(s:ta):q9 (s.toNat:Int) (2^min (1:Int).toNat (qk xk))=((s>>>1).toNat:Int):=by rw[show min (1:Int).toNat (qk xk)=1 from k0,vf _ k6,BitVec.toNat_ushiftRight,Nat.shiftRight_eq_div_pow];simp
theorem Wy(s:ta):((s&&&1#32).toNat:Int)=1↔s&&&1#32=1#32:=by
 constructor
 ·intro h;apply BitVec.eq_of_toNat_eq;have:(1#32:ta).toNat=1:=rfl;omega
 ·intro h;rw[h];rfl
def oL(s:ta):aY:=(qx 4).map λi=>b8 (q9 (s.toNat:Int) (2^(8*i)))
theorem Sb(s:ta):j9 (oL s)=4:=by simp[oL]
def eC(b:Int)(a:aY):aY:=[87,115,1,b8 b]++a++qg (55-j9 a) 0
def eG(a:Int)(b:aY):aY:=
 if 1<=a/\a<=255/\b.length<=55 then eC a b++oL (CL (eC a b))++[165]else[]
theorem Gm{b:Int}{a:aY}(h:j9 a<=55):j9 (eC b a)=59:=by simp[eC];omega
theorem mI{a:Int}{b:aY}(d:1<=a)(c:a<=255)(h3:j9 b<=55):j9 (eG a b)=64:=by unfold eG;rw[j1 ⟨d,c,h3⟩];simp[Gm h3,Sb]
end Wl
namespace Go.Vc
open Go
def jr(s:ByteArray):aY:=s.data.toList
theorem DQ(s:ByteArray):j9 (jr s)=s.size:=rfl
def aiF(n:Nat):Obj->Obj
 | .cells c elem (lo,hi)=>.cells c elem (if lo==hi then(n,n+1)else(min lo n,max hi (n+1)))
 |o=>o
theorem af.ZA{P:Program}{h:hZ}{b n:Nat}{c:Array eX}{e:TypeId}{K:Unit->hZ->Prop}(i:h[b]?=dB (.cells c e (0,0)))(k:n=c.size)(j:∀h',(∀x,x≠b->h'[x]?=h[x]?)->h'.size=h.size->(∃f,h'[b]?=dB (.cells c e f))->K () h'):
  af P (freeze {block:=b,off:=n} 1) h K:=λw g=>by
 refine⟨(),w.freeze {block:=b,off:=n} 1,run_freeze P w _ _,⟨k0,k0,k0,ql _⟩,?_⟩;subst g;have a:(w.freeze {block:=b,off:=n} 1).heap=w.heap.modify b (aiF n):=rfl;refine j _ (λx d=>?_) ?_ ?_
 ·rw[a,wu,j3 λe=>d e.symm]
 ·rw[a];simp
 ·rw[a,wu,j1 k0,i];exact⟨_,k0⟩
section
variable {C:Ctx} {B:aB} {h h0:hZ} {As:List HP} {t e ts:Nat}
theorem afH(j:C.Ok)(G:∃i,C.T.get ts=dB i/\i.df=.str)(H:∃i,C.T.get t=dB i/\i.df=.slice e)(w:∃i,C.T.get e=dB i/\i.df=.int .u8)(s:ByteArray){K:Sl->hZ->Prop}(E:∀r h',Sp h h' [uh r 1 aD (jr s)]->K r h'):
  aA C.P (convert ts t (.string s)) (.one (.sc .slc)) h K:=by
 obtain⟨J,v,o⟩:=G;obtain⟨I,y,B⟩:=H;obtain⟨i3,a3,u⟩:=w;have z:C.P.underlying ts=dB .string:=by have:=j.df v;rw[o]at this;exact xv this
 have D:C.P.underlying t=dB (.slice e):=by have:=j.df y;rw[B]at this;exact kC this
 have u3:C.P.underlying e=dB (.int .u8):=by have:=j.df a3;rw[u]at this;exact Iu this
 unfold aA convert;refine af.bind (af.always (aV z) ?_);refine af.bind (af.always (aV D) ?_);refine af.bind (af.always (aV u3) ?_);unfold Conv.stringToBytes;refine af.bind (af.NG ⟨λp=>(by cases p),λ_ q=>?_⟩);generalize g:Question.cut (Question.appendCap s.size 0 e) q=cc;have n:s.size<=cc:=by rw[<-g];simp only[Question.cut];omega
 unfold newRow;refine af.bind (af.bind (af.rY (af.pure' ?_)));unfold markStringish;obtain⟨cs,a⟩:∃cs:Array eX,cs=s.data.map (λb=>Value.int .u8 b.toNat)++Array.replicate (cc-s.size) (Value.int .u8 0):=⟨_,rfl⟩
 rw[<-a];refine af.bind (af.bind (af.agG ?_));have d:shapeOf (h.push (.cells cs e)) h.size=dB (e,cs.size):=by unfold shapeOf;simp
 dsimp only;rw[d];refine af.ZA (c:=cs) (e:=e) k9 k0 λh' A l k=>?_;refine af.pure' ⟨⟨dB ⟨h.size,0,eH⟩,s.size,cc⟩,k0,E _ _ ?_⟩;obtain⟨f,k⟩:=k;refine .one ⟨by rw[l];simp,λb L _=>by rw[A b k4,Array.getElem?_push,j3 k4]⟩ ?_;refine⟨by rw[DQ],λi x m=>⟨h.size,0,k0,⟨ql _,by rw[l];simp⟩,?_,trivial⟩⟩;rw[add_zero];have F:i<s.data.size:=by have:=(qm.1 m).1;simpa[jr]using this
 unfold hY;simp only[k,Nat.mul_one,z6,Option.isSome_none,zk,if_false];rw[a,Array.getElem?_append_left (by simpa using F),Array.getElem?_map];have:s.data[i]?=dB x:=by rw[<-m];simp[jr]
 rw[this];rfl
end
section
variable {C:Ctx} {t t2 e k:Nat} {z:ba} {by_:Nat} {h h0:hZ} {B:aB} {As:List HP} {s:Sl} {l:aY}
theorem Qs(w:C.Ok)(D:ce C.toCG t e 1 z by_)(h2:∃i,C.T.get t2=dB i/\i.df=.str)(hz:j9 z=1)(F:0<by_/\by_<=128)
  (r:Own h e s 1 aD l) (x:ByteArray) (ah:j9 l+x.size<=2^32) {ty:Nat} {K:Sl->hZ->Prop}
  (J:∀I h',Own h' e I 1 aD (l++jr x)->aX (λb=>¬s.on b) h h'->(∀b,I.on b->s.on b∨h.size<=b)->K I h'):
  aA C.P (qu #[t,t2] ty #[.slice s.ptr s.len s.cap,.string x]) (.one (.sc .slc)) h K:=by
 obtain⟨i2,O,g2⟩:=h2;have G:C.P.underlying t2=dB .string:=by have:=w.df O;rw[g2]at this;exact xv this
 obtain⟨H,v,x2,x3,Y,Z,x5⟩:=D.info w;have q:∀y∈(jr x).flatMap aD,y.oneCell'=eR:=λy Q=>by
  obtain⟨b,_,hb⟩:=zB.1 Q;exact iK b y hb
 have g:((x.extract 0 x.size).data.map λb=>Value.int .u8 (b.toNat:Int))=((jr x).flatMap aD).toArray:=by
  have X:x.extract 0 x.size=x:=by apply ByteArray.ext;simp[ByteArray.data_extract]
  rw[X];apply yq;simp only[vH,jr];exact List.map_eq_flatMap
 unfold aA qu;simp only[zZ,yU,qE];refine af.bind (af.always (aV (D.under w)) ?_);refine af.bind (af.always (D.size w) ?_);refine af.bind (af.always (aV G) ?_);refine af.bind (af.pure' ?_);simp only[zk,if_false,w6,if_true];refine af.bind (af.pure' ?_);have k:=r.len;have u:∀y,j9 (aD y)=1:=λ_=>rfl;have j:=ez u l;have a:=ez u (jr x);have V:=DQ x;have n:∀{h:hZ} {K:Array eX->hZ->Prop},K ((jr x).flatMap aD).toArray h->af C.P (wy 1 x.size (.string x)) h K:=λ{h K} hK=>by
  unfold wy;dsimp only;rw[g];exact af.pure' hK
 by_cases d:s.len+x.size<=s.cap
 ·rw[j1 d];refine af.bind (n ?_);rcases r.head with⟨p1,p2,p3⟩|⟨b,rest,p1,p2,p3,p4⟩
  ·rw[p1];have A:jr x=[]:=q8 k4;refine af.pure' ⟨⟨eH,s.len+x.size,s.cap⟩,k0,J _ _ ⟨?_,.inl ⟨k0,p2,by simp[p3,A]⟩⟩ (aX.refl _ _) ?_⟩
   ·simp;omega
   ·rintro N ⟨o,f⟩;cases f
  ·rw[p1];refine af.bind ?_;rw[add_eq,z6];have E:j9 ((jr x).flatMap aD)<=j9 rest:=by rw[a,p3];omega
   refine fU (e:=e) (pre:=l.flatMap aD) (old:=rest.take ((jr x).flatMap aD).length) (post:=rest.drop ((jr x).flatMap aD).length) ?_ ?_ ?_ ?_ ?_
   ·rw[qt,qJ];exact p2
   ·rw[qZ];exact yu E
   ·rw[j,k];omega
   ·intro c U;exact q c (by simpa using U)
   ·refine af.pure' ⟨⟨dB ⟨b,0,eH⟩,s.len+x.size,s.cap⟩,k0,J _ _ ⟨?_,.inr ⟨b,rest.drop ((jr x).flatMap aD).length,k0,?_,?_,d⟩⟩ ?_ ?_⟩
    ·simp;omega
    ·rw[jq p2,j1 rfl];simp
    ·rw[ze,p3,a];show(s.cap-s.len)*1-j9 (jr x)*1=(s.cap-(s.len+x.size))*1;omega
    ·exact aX.kr p2 (λR=>R ⟨0,p1⟩)
    ·rintro N ⟨o,f⟩;cases f;exact .inl ⟨0,p1⟩
 ·rw[j3 d];have m:Seq h (λ_=>True) s 1 aD l:=r.seq u λ_ _=>trivial;have M:=r.cap;refine af.bind (af.always (dq v) ?_);rw[j3 λhh=>by rcases hh.2 with h|h<;>first|exact h|(rw[x3]at h;omega)];refine af.bind (af.always (dq v) ?_);have ad:=Ws (s.len+x.size) s.cap;rw[j3 (by
   have:vb (s.len+x.size) s.cap*H.bytes<=(16*2^32+16*768)*128:=wk k4 (by rw[x3];exact F.2);omega)]
  refine af.bind (af.NG ⟨λS=>(by cases S),λ_ W=>?_⟩);refine af.bind (af.always (dq v) ?_);refine af.bind (af.Kd ?_);refine af.bind (iN u m ?_);refine af.bind (n ?_);have L:aL C.P (zeroValue e) Y:=(dq v).bind (by rw[Z];exact .pure);refine af.bind (af.always L ?_);rw[x5,FY];unfold newRow;refine af.bind (af.bind (af.rY (af.pure' (af.pure' ?_))));generalize B:Question.cut (Question.appendCap (s.len+x.size) s.cap e) W=cc;have p:s.len+x.size<=cc:=by rw[<-B];simp only[Question.cut];omega
  refine⟨⟨dB ⟨h.size,0,eH⟩,s.len+x.size,cc⟩,k0,J _ _ ⟨?_,.inr ⟨h.size,ja z (cc-(s.len+x.size)),k0,?_,?_,p⟩⟩ (aX.push _ _ _) ?_⟩
  ·simp;omega
  ·simp
  ·rw[oG,hz]
  ·rintro N ⟨o,f⟩;cases f;exact .inr (ql _)
theorem aa.ZB(y:C.Ok)(H:aa B h0 h As)(i:Nat)(F:As[i]?=dB (al e s 1 aD l))(u:ce C.toCG t e 1 z by_)(w:∃i,C.T.get t2=dB i/\i.df=.str)(E:j9 z=1)(j:0<by_/\by_<=128)
  (x:ByteArray) (m:j9 l+x.size<=2^32) {ty:Nat} {K:Sl->hZ->Prop} (D:∀f h',aa B h0 h' (As.set i (al e f 1 aD (l++jr x)))->K f h'):
  aA C.P (qu #[t,t2] ty #[.slice s.ptr s.len s.cap,.string x]) (.one (.sc .slc)) h K:=by
 obtain⟨v,A,c,r,a⟩:=H;have g:=a i _ F;refine Qs y u w E j g.1 x m λf h' d n o=>D f h' ?_;refine aa.DN v A r a (n.mono λb k p q=>p (g.2 b q)) ⟨d,λb k=>⟨d.lt k,?_⟩⟩;rcases o b k with h1|h1
 ·exact .inl (g.2 b h1)
 ·exact .inr h1
end
end Go.Vc
namespace Wl
open Go
structure bK where
 name:ByteArray
 object:Int
 length:Int
 tries:au
structure aE where
 seq:Int
 next:Int
 p:Int×Int×Int
 extra:Int
 drives:au
 aG:List bK
def aij:bK:=⟨⟨#[]⟩,0,0,[]⟩
def pH(l:List bK)(i:Nat):bK:=l.getD i aij
theorem oM{l:List bK}{i:Nat}(h:i<j9 l:=by omega):pH l i=l[i]:=by unfold pH;rw[qe,qd h];rfl
def fp(n a b:Int):Bool:=decide (a<=n)&&decide (n<=b)
def ne(c:UInt8):Bool:=(decide (97<=c.toNat)&&decide (c.toNat<=122))||(decide (48<=c.toNat)&&decide (c.toNat<=57))||decide (c.toNat=45)
def mg(s:ByteArray):Bool:=s.data.toList.all ne&&(decide (1<=s.size)&&decide (s.size<=12))
def ft(a b:ByteArray):Bool:=Op.bytesLess a.toList b.toList
def jW(l:au)(most:Int)(i:Nat):Bool:=fp (l.getD i 0) 0 most&&(decide (i=0)||decide (l.getD (i-1) 0<l.getD i 0))
def pI(l:au)(most:Int):Bool:=(qx l.length).all (jW l most)
def countP(p:Int×Int×Int)(n:Int):Int:=if bH p&&decide (0<n)then(n-1)/(p.1*p.2.2)+1 else 0
def hO(m:aE)(x:bK):Bool:=
 mg x.name&&(fp x.object 0 (m.next-1)&&(fp x.length 0 (m.p.1*m.p.2.2*8)&&(x.tries.all (fp · 0 15)&&decide ((x.tries.length:Int)=countP m.p x.length))))
def pJ(m:aE)(i:Nat):Bool:=
 hO m (pH m.aG i)&&((decide (i=0)||ft (pH m.aG (i-1)).name (pH m.aG i).name)&&!(m.aG.take i).any λy=>decide (y.object=(pH m.aG i).object))
def lx(m:aE):Bool:=fp m.seq 1 2147483647&&(fp m.next 0 16777216&&(bH m.p&&fp m.extra 0 16))
def bV(m:aE):Bool:=lx m&&(pI m.drives 63&&(decide (j9 m.aG<=12)&&(qx m.aG.length).all (pJ m)))
theorem Gn{p:Nat->Bool}{n i:Nat}(a:i<n)(h:p i=eS):(qx n).all p=eS:=List.all_eq_false.2 ⟨i,qD.2 a,by rw[h];simp⟩
theorem uj{p:Nat->Bool}{n:Nat}(h:∀i,i<n->p i=eR):(qx n).all p=eR:=qU.2 λi a=>h i (qD.1 a)
def cb(n:Int)(k:Nat):aY:=(qx k).map λi=>b8 (q9 n (2^(8*(k-1-i))))
theorem cG(n:Int)(k:Nat):j9 (cb n k)=k:=by simp[cb]
def jD(x:bK):aY:=b8 x.name.size::(x.name.data.toList++(cb x.object 3++(cb x.length 2++x.tries.map b8)))
def gO(m:aE):aY:=
 if bV m then cb m.seq 4++(cb m.next 4++([b8 m.p.1,b8 m.p.2.1,b8 m.p.2.2,b8 m.extra,b8 m.drives.length]++(m.drives.map b8++(b8 m.aG.length::m.aG.flatMap jD))))else[]
def kw(seq a c:Int)(b:aY):aY:=eG 2 (cb seq 4++([b8 a,b8 c,b8 b.length]++b))
def iH(b:aY):Nat:=(j9 b+47)/48
def bs(m:aE):cC:=(qx (iH (gO m))).map λi:Nat=>kw m.seq i (iH (gO m)) (((gO m).drop (48*i)).take 48)
theorem ZC{m:aE}(h:bV m=eR):lx m=eR:=by unfold bV at h;simp at h;exact h.1
theorem Se{m:aE}(h:lx m=eR):(1<=m.seq/\m.seq<=2147483647)/\(0<=m.next/\m.next<=16777216)/\bH m.p=eR/\0<=m.extra/\m.extra<=16:=by unfold lx fp at h;simpa[and_assoc]using h
theorem uQ{m:aE}{c:aY}(h:c∈bs m):j9 c=64:=by unfold bs at h;obtain⟨i,_,rfl⟩:=qo.1 h;exact mI k6 k6 n7
structure cX where
 object:Int
 block:Int
 id:Int
 p:Int×Int×Int
 seed:Int
 data:aY
theorem td(n:Int):((b8 n).toNat:Int)=n%256:=by have h0:=yH n (show(256:Int)≠0 by decide);have a:=yi n (show(0:Int)<256 by decide);unfold b8;rw[UInt8.toNat_ofNat'];omega
def jt(r:cX):Bool:=(fp r.object 0 16777215&&(fp r.block 0 7&&bW r.id))&&(bH r.p&&decide ((r.data.length:Int)=r.p.2.2))
def jk(r:cX):aY:=cb r.object 3++(cb r.block 1++(cb r.id 2++([b8 r.p.1,b8 r.p.2.1,b8 r.p.2.2]++(cb r.seed 4++r.data))))
def cL(r:cX):aY:=if jt r then eG 1 (jk r)else[]
def dv(l:aY):Int:=l.foldl (λn x=>n*256+x.toNat) 0
def kD(c:aY):Option (Int×aY):=
 if c.length=64/\eG ((c.getD 3 0).toNat:Int) ((c.drop 4).take 55)=c then dB (((c.getD 3 0).toNat:Int),(c.drop 4).take 55)else eH
def uR(x:aY):cX:=
 ⟨dv (x.take 3),dv ((x.drop 3).take 1),dv ((x.drop 4).take 2),(dv ((x.drop 6).take 1),dv ((x.drop 7).take 1),dv ((x.drop 8).take 1)),dv ((x.drop 9).take 4),(x.drop 13).take (dv ((x.drop 8).take 1)).toNat⟩
def dJ(c:aY):Option cX:=
 match kD c with
 |some (k,x)=>if k=1/\bH (uR x).p=eR/\cL (uR x)=c then dB (uR x)else eH
 |none=>eH
theorem ZD(n:Int):cb n 1=[b8 n]:=by simp[cb]
theorem ZE(n:Int):cb n 2=[b8 (q9 n (2^8)),b8 n]:=by simp[cb,zR]
theorem UI(n:Int):cb n 3=[b8 (q9 n (2^16)),b8 (q9 n (2^8)),b8 n]:=by simp[cb,zR]
theorem LB(n:Int):cb n 4=[b8 (q9 n (2^24)),b8 (q9 n (2^16)),b8 (q9 n (2^8)),b8 n]:=by simp[cb,zR]
theorem DR{n:Int}(a:0<=n:=by omega)(b:n<256:=by omega):dv [b8 n]=n:=by simp only[dv,zC,wM,td];omega
theorem fdiv_pow(n:Int)(k:Nat):q9 n (2^k)=n/(2^k):=vf _ (Int.pow_nonneg k6)
theorem acM{n:Int}(a:0<=n)(b:n<65536):dv (cb n 2)=n:=by rw[ZE,fdiv_pow];simp only[dv,zC,wM,td];omega
theorem Xy{n:Int}(a:0<=n)(b:n<16777216):dv (cb n 3)=n:=by rw[UI,fdiv_pow,fdiv_pow];simp only[dv,zC,wM,td];omega
theorem Pc{n:Int}(a:0<=n)(b:n<4294967296):dv (cb n 4)=n:=by rw[LB,fdiv_pow,fdiv_pow,fdiv_pow];simp only[dv,zC,wM,td];omega
theorem jX(r:cX):jt r=eR↔(0<=r.object/\r.object<=16777215)/\(0<=r.block/\r.block<=7)/\(0<=r.id/\r.id<=65535)/\bH r.p=eR/\(r.data.length:Int)=r.p.2.2:=by unfold jt fp bW;simp[and_assoc]
theorem oV{r:cX}(h:jt r=eR):j9 (jk r)=13+j9 r.data/\r.data.length<=24:=by obtain⟨_,_,_,a,b⟩:=(jX r).1 h;have:=(bZ r.p).1 a;refine⟨by unfold jk;simp[cG];omega,k4⟩
theorem xP{r:cX}(h:jt r=eR):j9 (cL r)=64:=by have:=oV h;unfold cL;rw[j1 h];exact mI k6 k6 k4
theorem Bl{k:Int}{a:aY}(d:1<=k:=by decide)(b:k<=255:=by decide)(h3:j9 a<=55:=by omega):kD (eG k a)=dB (k,a++qg (55-j9 a) 0):=by
 obtain⟨x,c⟩:∃x,x=a++qg (55-j9 a) 0:=⟨_,rfl⟩
 have e:j9 x=55:=by rw[c];simp;omega
 have f:eG k a=[87,115,1,b8 k]++(x++(oL (CL (eC k a))++[165])):=by unfold eG;rw[j1 ⟨d,b,h3⟩];unfold eC;rw[c];simp[qt]
 have h:((eG k a).getD 3 0)=b8 k:=by rw[f];rfl
 have e2:((eG k a).drop 4).take 55=x:=by rw[f];have:([87,115,1,b8 k]++(x++(oL (CL (eC k a))++[165]))).drop 4=x++(oL (CL (eC k a))++[165]):=rfl;rw[this,List.take_append_of_le_length k4,qi k4]
 have i:((b8 k).toNat:Int)=k:=by rw[td];omega
 have g:eC k x=eC k a:=by unfold eC;rw[e,c];simp[qt]
 have j:eG k x=eG k a:=by unfold eG;rw[j1 ⟨d,b,k4⟩,j1 ⟨d,b,h3⟩,g]
 unfold kD;rw[h,e2,i,j1 ⟨mI d b h3,j⟩,c]
theorem Xz{r:cX}(h:jt r=eR)(A:0<=r.seed/\r.seed<4294967296)(z:aY):uR (jk r++z)=r:=by
 obtain⟨w,t,h3,q,y⟩:=(jX r).1 h;have x:=(bZ r.p).1 q;have l1:=cG r.object 3;have l2:=cG r.id 2;have f:=cG r.seed 4;have e:jk r++z=cb r.object 3++([b8 r.block]++(cb r.id 2++([b8 r.p.1]++([b8 r.p.2.1]++([b8 r.p.2.2]++(cb r.seed 4++(r.data++z))))))):=by unfold jk;rw[ZD];simp[qt]
 have d:∀(u v:aY) (n:Nat),u.length=n->∀m,(u++v).drop (n+m)=v.drop m:=λu v n b m=>by
  rw[<-zL,<-b,List.drop_left]
 have a:∀(u v:aY) (n:Nat),u.length=n->(u++v).take n=u:=λu v n b=>by rw[<-b,vR]
 have l:(jk r++z).drop 3=[b8 r.block]++(cb r.id 2++([b8 r.p.1]++([b8 r.p.2.1]++([b8 r.p.2.2]++(cb r.seed 4++(r.data++z)))))):=by rw[e];exact d _ _ 3 l1 0
 have g:(jk r++z).drop 4=cb r.id 2++([b8 r.p.1]++([b8 r.p.2.1]++([b8 r.p.2.2]++(cb r.seed 4++(r.data++z))))):=by rw[show 4=3+1 from k0,<-zL,l];rfl
 have o:(jk r++z).drop 6=[b8 r.p.1]++([b8 r.p.2.1]++([b8 r.p.2.2]++(cb r.seed 4++(r.data++z)))):=by rw[show 6=4+2 from k0,<-zL,g];exact d _ _ 2 l2 0
 have j:(jk r++z).drop 7=[b8 r.p.2.1]++([b8 r.p.2.2]++(cb r.seed 4++(r.data++z))):=by rw[show 7=6+1 from k0,<-zL,o];rfl
 have i:(jk r++z).drop 8=[b8 r.p.2.2]++(cb r.seed 4++(r.data++z)):=by rw[show 8=7+1 from k0,<-zL,j];rfl
 have k:(jk r++z).drop 9=cb r.seed 4++(r.data++z):=by rw[show 9=8+1 from k0,<-zL,i];rfl
 have c:(jk r++z).drop 13=r.data++z:=by rw[show 13=9+4 from k0,<-zL,k];exact d _ _ 4 f 0
 have s:dv (((jk r++z).drop 8).take 1)=r.p.2.2:=by rw[i,a _ _ 1 k0,DR]
 unfold uR;rw[s,l,g,o,j,k,c];rw[a [b8 r.block] _ 1 k0,a _ _ 2 l2,a [b8 r.p.1] _ 1 k0,a [b8 r.p.2.1] _ 1 k0,a _ _ 4 f];have t0:(jk r++z).take 3=cb r.object 3:=by rw[e];exact a _ _ 3 l1
 rw[t0,Xy k4 k4,DR,acM k4 k4,DR,DR,Pc k4 k4];have:r.p.2.2.toNat=r.data.length:=k4
 rw[this,vR]
theorem kE{r:cX}(h:jt r=eR)(b:0<=r.seed/\r.seed<4294967296):dJ (cL r)=dB r:=by
 have c:=oV h;have a:=((jX r).1 h).2.2.2.1;have e:cL r=eG 1 (jk r):=by unfold cL;rw[j1 h]
 unfold dJ;rw[e,Bl];dsimp only;rw[Xz h b,j1 ⟨k0,a,e⟩]
theorem XA{c:aY}{r:cX}(h:dJ c=dB r):cL r=c/\jt r=eR/\bH r.p=eR:=by
 unfold dJ at h;cases hc:kD c with
 |none=>rw[hc]at h;cases h
 |some kx=>
  rw[hc]at h;dsimp only at h;by_cases a:kx.1=1/\bH (uR kx.2).p=eR/\cL (uR kx.2)=c
  ·rw[j1 a]at h;injection h with h
   subst h;refine⟨a.2.2,?_,a.2.1⟩;by_cases d:jt (uR kx.2)=eR
   ·exact d
   ·exfalso;have b:=a.2.2;unfold cL at b;rw[j3 d]at b;unfold kD at hc;rw[<-b]at hc;simp at hc
  ·rw[j3 a]at h;cases h
end Wl
namespace Go.Vc
open Go
section
variable {C:Ctx} {h:hZ} {t e ts:Nat}
theorem Js:∀(l:aY) (b:ByteArray),l.foldl ByteArray.push b=⟨(b.data.toList++l).toArray⟩
 |[],b=>k9
 |x::l,b=>by
  rw[zC,Js l (b.push x)];simp[ByteArray.push]
theorem Wz(q:C.Ok)(L:∃i,C.T.get t=dB i/\i.df=.slice e)(J:∃i,C.T.get ts=dB i/\i.df=.str)(E:∃i,C.T.get e=dB i/\i.df=.int .u8){s:Sl}{l:aY}{p:aB}(u:Seq h p s 1 aD l){K:ByteArray->hZ->Prop}(y:K ⟨l.toArray⟩ h):
  aA C.P (convert t ts (.slice s.ptr s.len s.cap)) (.one (.sc .str)) h K:=by
 obtain⟨N,D,z⟩:=J;obtain⟨M,F,H⟩:=L;obtain⟨i3,a3,B⟩:=E;have G:C.P.underlying ts=dB .string:=by have:=q.df D;rw[z]at this;exact xv this
 have I:C.P.underlying t=dB (.slice e):=by have:=q.df F;rw[H]at this;exact kC this
 have u3:C.P.underlying e=dB (.int .u8):=by have:=q.df a3;rw[B]at this;exact Iu this
 unfold aA convert;refine af.bind (af.always (aV I) ?_);refine af.bind (af.always (aV G) ?_);refine af.bind (af.always (aV u3) ?_);unfold Conv.bytesToString;have g:=iN (P:=C.P) (f:=aD) (k:=1) (K:=λcs h'=>cs=(l.flatMap aD).toArray/\h'=h) (λ_=>rfl) u ⟨k0,k0⟩;cases hp:s.ptr with
 |none=>
  have:l=[]:=by
   cases l with
   |nil=>rfl
   |cons x r=>obtain⟨b,o,w,_⟩:=u.elem 0 x k9;rw[hp]at w;cases w
  subst this;exact af.pure' ⟨⟨#[]⟩,k0,y⟩
 |some a=>
  rw[hp]at g;dsimp only;have d:af C.P (loadCells a s.len) h λcs h'=>cs=(l.flatMap aD).toArray/\h'=h:=by
   have:wy 1 s.len (.slice (dB a) s.len s.cap)=loadCells a s.len:=by unfold wy;simp
   rw[<-this];exact g
  refine af.bind (d.mono ?_);rintro _ _ ⟨rfl,rfl⟩;have j:∀(l:aY) (b:ByteArray),aL C.P (forIn (m:=Sem) (l.flatMap aD) b λc r=>match c with
    |xb xj n=>do pure (ForInStep.yield (r.push (yy n.toNat)))
    |_=>do let r<-stuck "bytesToString: byte expected";pure r) (l.foldl ByteArray.push b):=λl=>by
   induction l with
   |nil=>intro b;exact .pure
   |cons x l ih=>
    intro b;have A:(x::l).flatMap aD=Value.int .u8 x.toNat::l.flatMap aD:=rfl;rw[A,List.forIn_cons];have e2:b.push (yy ((x.toNat:Int)).toNat)=b.push x:=by rw[qn];congr 1;apply yI.1;simp
    refine aL.bind (v:=ForInStep.yield (b.push x)) (by dsimp only;rw[e2];exact .pure) ?_;exact ih _
  refine af.bind (af.always (v:=l.foldl ByteArray.push ByteArray.empty) ?_ ?_)
  ·rw[List.forIn_toArray];exact j l _
  ·refine af.pure' ⟨_,k0,?_⟩;rw[Js];exact y
end
end Go.Vc
namespace Wl
section
variable {α:Type} (le:α->α->Bool)
def jb(a b:α):Bool:=le a b&&le b a
def cH(l l':List α):Prop:=∀x,l.filter (jb le x)=l'.filter (jb le x)
def Sd(l:List α):Prop:=l.Pairwise λa b=>le a b=eR
structure Ord:Prop where
 trans:∀a b c,le a b=eR->le b c=eR->le a c=eR
 total:∀a b,(le a b||le b a)=eR
variable {le}
theorem Ord.Gp(o:Ord le){a b:α}(h:¬le a b=eR):le b a=eR:=by
 have:=o.total a b;cases h1:le a b with
 |true=>exact absurd h1 h
 |false=>rw[h1]at this;simpa using this
theorem Ord.refl(o:Ord le)(a:α):le a a=eR:=by have:=o.total a a;simpa using this
theorem cH.refl(l:List α):cH le l l:=λ_=>rfl
theorem cH.trans{l1 l2 a:List α}(h:cH le l1 l2)(k:cH le l2 a):cH le l1 a:=λx=>(h x).trans (k x)
theorem cH.symm{l1 l2:List α}(h:cH le l1 l2):cH le l2 l1:=λx=>(h x).symm
theorem cH.app{a b c d:List α}(h:cH le a b)(k:cH le c d):cH le (a++c) (b++d):=λx=>by
 rw[zl,zl,h x,k x]
theorem cH.mem(o:Ord le){l l':List α}(h:cH le l l'){y:α}(b:y∈l'):y∈l:=by have a:y∈l'.filter (jb le y):=qH.2 ⟨b,o6⟩;rw[<-h y]at a;exact(qH.1 a).1
theorem cH.ZF(o:Ord le){u v:List α}(h:∀x∈u,∀y∈v,¬le x y=eR):cH le (u++v) (v++u):=λz=>by
 rw[zl,zl];by_cases e:u.filter (jb le z)=[]
 ·rw[e];simp
 ·by_cases f:v.filter (jb le z)=[]
  ·rw[f];simp
  ·exfalso;obtain⟨x,i⟩:=vi _ e;obtain⟨y,g⟩:=vi _ f;obtain⟨c,a⟩:=qH.1 i;obtain⟨d,b⟩:=qH.1 g;unfold jb at a b;simp only[qz]at a b;exact h x c y d (o.trans _ _ _ a.2 b.1)
theorem cH.Sf(o:Ord le){l:List α}(h:cH le [] l):l=[]:=by
 cases l with
 |nil=>rfl
 |cons a l=>exact absurd (cH.mem o h (qI ..)) k9
theorem Pd(o:Ord le):∀(l l':List α),Sd le l->Sd le l'->cH le l l'->l=l'
 |[],l',_,_,h=>(cH.Sf o h).symm
 |a::l,[],_,_,h=>absurd (cH.Sf o h.symm) k9
 |a::l,b::l',s,s',h=>by
  have c:a=b:=by
   have g:le a b=eR:=by
    have:=cH.mem o h (y:=b) (qI ..);rcases qV.1 this with e|e
    ·rw[e];exact o.refl _
    ·exact(zD.1 s).1 _ e
   have f:le b a=eR:=by
    have:=cH.mem o h.symm (y:=a) (qI ..);rcases qV.1 this with e|e
    ·rw[e];exact o.refl _
    ·exact(zD.1 s').1 _ e
   have h3:=h a;have d:jb le a a=eR:=o6
   have e2:jb le a b=eR:=by unfold jb;rw[g,f];rfl
   rw[yW d,yW e2]at h3;injection h3
  subst c;rw[Pd o l l' (zD.1 s).2 (zD.1 s').2 λx=>by
   have h3:=h x;rw[zp,zp]at h3;split at h3
   ·injection h3
   ·exact h3]
theorem Gq(o:Ord le)(l:List α):Sd le (l.mergeSort le)/\cH le l (l.mergeSort le):=by
 refine⟨yo o.trans o.total l,λx=>?_⟩;have g:(l.filter (jb le x)).Pairwise λa b=>le a b=eR:=by rw[List.pairwise_filter];refine List.Pairwise.imp ?_ (List.pairwise_of_forall (l:=l) (R:=λ_ _=>True) λ_ _=>trivial);intro a b _ d e;unfold jb at d e;simp only[qz]at d e;exact o.trans _ _ _ d.2 e.1
 have f:=List.sublist_mergeSort o.trans o.total g List.filter_sublist;have c:=f.filter (jb le x);rw[List.filter_filter]at c;simp only[Bool.and_self]at c;exact c.eq_of_length ((ye l le).symm.filter _).length_eq
theorem aeL(o:Ord le){l l':List α}(s:Sd le l')(h:cH le l l'):l'=l.mergeSort le:=by obtain⟨b,a⟩:=Gq o l;exact Pd o _ _ s b (h.symm.trans a)
theorem Sd.app(o:Ord le){u v:List α}(a:Sd le u)(b:Sd le v)(h:∀x∈u,∀y∈v,le x y=eR):Sd le (u++v):=wW.2 ⟨a,b,h⟩
theorem Sd.left{u v:List α}(h:Sd le (u++v)):Sd le u:=(wW.1 h).1
theorem Sd.right{u v:List α}(h:Sd le (u++v)):Sd le v:=(wW.1 h).2.1
theorem Sd.IF{u v:List α}(h:Sd le (u++v)):∀x∈u,∀y∈v,le x y=eR:=(wW.1 h).2.2
theorem Sd.at_(o:Ord le){l:List α}(h:Sd le l){i j:Nat}(a:i<=j)(b:j<j9 l):le (l[i]'(by omega)) l[j]=eR:=by
 by_cases e:i=j
 ·subst e;exact o.refl _
 ·exact zd.1 h i j k4 b k4
theorem ZG(o:Ord le){l1 l2 a b f g:List α}(n:Sd le (l1++l2))(k:Sd le (a++b))(h:∀x∈l1,∀y∈b,le x y=eR)(e:∀x∈l2,∀y∈a,¬le x y=eR)
  (i:cH le (l1++a) f) (p:Sd le f) (j:cH le (l2++b) g) (l:Sd le g):Sd le (f++g)/\cH le ((l1++l2)++(a++b)) (f++g):=by
 constructor
 ·refine Sd.app o p l λx d y c=>?_;rcases qA.1 (cH.mem o i d)with d|d<;>rcases qA.1 (cH.mem o j c)with c|c
  ·exact n.IF x d y c
  ·exact h x d y c
  ·exact o.Gp (e y c x d)
  ·exact k.IF x d y c
 ·have m:cH le ((l1++l2)++(a++b)) ((l1++a)++(l2++b)):=by rw[show(l1++l2)++(a++b)=l1++((l2++a)++b)by simp,show(l1++a)++(l2++b)=l1++((a++l2)++b)by simp];exact(cH.refl _).app ((cH.ZF o e).app (cH.refl _))
  exact m.trans (i.app j)
end
section
variable {α:Type} {le:α->α->Bool}
theorem xx(o:Ord le):∀{l l':List α},cH le l l'->j9 l=j9 l'
 |[],l',h=>by rw[cH.Sf o h]
 |a::l,l',h=>by
  have r:=cH.mem o h.symm (y:=a) (qI ..);obtain⟨u,v,s⟩:=List.append_of_mem r;have q:∃(u:List α) (b:α) (v:List α),l'=u++b::v/\(∀x∈u,jb le a x=eS)/\jb le a b=eR:=by
   have k:l'.filter (jb le a)≠[]:=λD=>by
    have:a∈l'.filter (jb le a):=qH.2 ⟨r,o6⟩;rw[D]at this;cases this
   clear s u v r h
   induction l' with
   |nil=>exact absurd k0 k
   |cons c l' ih=>
    by_cases n:jb le a c=eR
    ·exact⟨[],c,l',k0,k9,n⟩
    ·rw[List.filter_cons_of_neg n]at k;obtain⟨u,b,v,e,f,g⟩:=ih k;refine⟨c::u,b,v,A3,λx i=>?_,g⟩;rcases qV.1 i with rfl|i
     ·simpa using n
     ·exact f x i
  obtain⟨u,b,v,rfl,z,F⟩:=q;have B:jb le a a=eR:=o6
  have m:=h a;have p:u.filter (jb le a)=[]:=wB.2 λx i=>by rw[z x i];simp
  rw[yW B,zl,p,z8,yW F]at m;have t:a=b:=by injection m
  subst t;have E:cH le l (u++v):=λx=>by
   have i:=h x;rw[zp,zl,zp]at i;rw[zl];by_cases d:jb le x a=eR
   ·rw[j1 d,j1 d]at i;have w:u.filter (jb le x)=[]:=wB.2 λy A j=>by
     have:=z y A;unfold jb at this d j;simp only[qz]at d j;rw[o.trans _ _ _ d.2 j.1,o.trans _ _ _ j.2 d.1]at this;cases this
    rw[w,z8]at i⊢;injection i
   ·rw[j3 d,j3 d]at i;exact i
  rw[zm,xx o E];simp;omega
end
end Wl
namespace Go.Vc
open Go
theorem LC{P:Program}{id:FuncId}(G:∀(fO off cap:Nat) (i:au) (w:World),Sort.Holds (Value.int .i64) w fO off i.toArray->j9 i<=9223372036854775807->j9 i<=cap->
   Calls P id #[.slice (dB ⟨fO,off,eH⟩) i.length cap] w λe r=>e=.returned (.slice (dB ⟨fO,off,eH⟩) (Lib.compact i).length cap)/\∃q,r=Sort.putRow (Value.int .i64) (Sort.ahead w q) fO off (Lib.compact i++qg (j9 i-j9 (Lib.compact i)) 0).toArray)
  (B:∀(a:aQ) (cap:Nat) (w:World),Calls P id #[.slice a 0 cap] w λe r=>e=.returned (.slice a 0 cap)/\r=w)
  {e:TypeId} {s:Sl} {l:au} {h:hZ} (t:Own h e s 1 aq l) (F:j9 l<2^40):
  ab P id #[.slice s.ptr s.len s.cap] h λv h'=>v=.slice s.ptr (Lib.compact l).length s.cap/\Own h' e ⟨s.ptr,j9 (Lib.compact l),s.cap⟩ 1 aq (Lib.compact l)/\aX (λb=>¬s.on b) h h':=by
 intro w m;have c:=t.len;have A:=t.cap;rcases t.head with⟨h1,h2,h3⟩|⟨b,rest,h1,h2,h3,h4⟩
 ·subst h3;have y:Lib.compact ([]:au)=[]:=rfl;rw[c,h1];refine(B eH s.cap w).mono ?_;rintro D r ⟨rfl,rfl⟩;refine⟨_,k0,dl.refl _,by rw[y];rfl,by rw[y];exact⟨k0,.inl ⟨k0,by simpa using h2,k0⟩⟩,by rw[<-m];exact aX.refl _ _⟩
 ·rw[h1,c];have u:w.heap[b]?=dB (.cells (l.flatMap aq++rest).toArray e (0,0)):=by rw[m];exact h2
  refine(G b 0 s.cap l w (OZ u) k4 k4).mono ?_;rintro D r ⟨rfl,n,rfl⟩;have o:=lt_of_block u;have H:=Lib.compact_length_le l;obtain⟨l',g⟩:∃l',l'=Lib.compact l++qg (j9 l-j9 (Lib.compact l)) 0:=⟨_,rfl⟩
  rw[<-g];have p:j9 l'=j9 l:=by rw[g];simp;omega
  have f:∀k,k<h.size->(Sort.putRow (Value.int .i64) (Sort.ahead w n) b 0 l'.toArray).heap[k]?=if b=k then dB (.cells (l'.flatMap aq++rest).toArray e (0,0))else h[k]?:=by
   intro k z;simp only[Sort.putRow,Sort.mapBlock,Sort.ahead,wu];by_cases d:b=k
   ·subst d;rw[j1 k0,j1 k0,u,qY,Sort.onCells,RU _ _ _ p]
   ·rw[j3 d,j3 d,m]
  rw[m]at o;have x:Own (Sort.putRow (Value.int .i64) (Sort.ahead w n) b 0 l'.toArray).heap e s 1 aq l':=⟨by rw[p];exact c,.inr ⟨b,rest,h1,by rw[f b o,j1 rfl],h3,h4⟩⟩
  have j:=x.cut (λ_=>rfl) (Lib.compact l).length k4;rw[g,vR]at j;refine⟨_,k0,⟨k0,k0,k0,by simp[Sort.putRow,Sort.mapBlock,Sort.ahead]⟩,k0,by rw[h1]at j;rw[g];exact j,by simp[Sort.putRow,Sort.mapBlock,Sort.ahead,m],?_⟩;intro k z E;rw[f k z,j3 λd=>E ⟨0,by rw[h1,d]⟩]
end Go.Vc
namespace Wl
open Go
theorem xQ(a:au)(u:a.Pairwise (·<=·)):∀m,m<=j9 a->(Lib.compactUpTo a.toArray m).Pairwise (·<·)/\(∀x,x∈Lib.compactUpTo a.toArray m↔∃j,j<m/\a[j]?=dB x)
 |0,_=>⟨by simp[Lib.compactUpTo],λx=>by simp[Lib.compactUpTo]⟩
 |m+1,hm=>by
  obtain⟨v,q⟩:=xQ a u m k4;have c:m<j9 a:=k4
  have s:a.toArray[m]! =a[m]:=oj
  rw[Lib.compactUpTo_succ,s];have t:∀j (f:j<m),a[j]'(by omega)<=a[m]:=λj f=>zd.1 u j m k4 c f;by_cases i:Lib.keeps a.toArray m=eR
  ·rw[j1 i];have o:m=0∨a[m-1]'(by omega)<a[m]:=by
    by_cases l:m=0
    ·exact .inl l
    ·right;have h:a.toArray[m-1]! =a[m-1]'(by omega):=by simp[show m-1<j9 a by omega]
     have z:a[m]≠a[m-1]'(by omega):=λn=>by
      have:=Lib.keeps_neg (d:=a.toArray) (m:=m) k4 (by rw[s,h];exact n);rw[this]at i;cases i
     have:=t (m-1) k4;omega
   have k:∀x∈Lib.compactUpTo a.toArray m,x<a[m]:=λx p=>by
    obtain⟨j,f,g⟩:=(q x).1 p;rw[qd k4]at g;injection g with g
    rcases o with h0|h0
    ·omega
    ·have h3:a[j]'(by omega)<=a[m-1]'(by omega):=by
      by_cases b:j=m-1
      ·subst b;exact Int.le_refl _
      ·exact zd.1 u j (m-1) k4 k4 k4
     omega
   refine⟨wW.2 ⟨v,k9,λx p y w=>?_⟩,λx=>?_⟩
   ·rw[qB.1 w];exact k x p
   ·rw[qA,q,qB];constructor
    ·rintro(⟨j,f,e⟩|rfl)
     ·exact⟨j,k4,e⟩
     ·exact⟨m,k4,qd c⟩
    ·rintro⟨j,f,e⟩;by_cases b:j=m
     ·subst b;rw[qd c]at e;injection e with e;exact .inr e.symm
     ·exact .inl ⟨j,k4,e⟩
  ·rw[j3 i,qL];have l:m≠0:=λh0=>i (by subst h0;exact Lib.keeps_lt_one _ 0 k4);have r:a[m]=a[m-1]'(by omega):=by
    by_cases n:a[m]=a[m-1]'(by omega)
    ·exact n
    ·have h:a.toArray[m-1]! =a[m-1]'(by omega):=by simp[show m-1<j9 a by omega]
     exact absurd (Lib.keeps_pos (d:=a.toArray) (m:=m) (by rw[s,h];exact n)) i
   refine⟨v,λx=>?_⟩;rw[q];constructor
   ·rintro⟨j,f,e⟩;exact⟨j,k4,e⟩
   ·rintro⟨j,f,e⟩;by_cases b:j=m
    ·subst b;refine⟨j-1,k4,?_⟩;rw[qd c]at e;rw[qd k4,<-r];exact e
    ·exact⟨j,k4,e⟩
theorem Gr(l:au):(lu l).Pairwise (·<=·):=by have:=yo (le:=λx y:Int=>decide (x<=y)) (by intro a b c e d;simp at e d⊢;omega) (by intro a b;simp;omega) l;exact this.imp λh=>l6
theorem XB(l:au)(h:∀x∈l,0<=x/\x<64):Lib.compact (lu l)=cI l:=by
 obtain⟨f,c⟩:=xQ (lu l) (Gr l) (lu l).length (ql _);have m:∀x,x∈Lib.compact (lu l)↔x∈l:=λx=>by
  unfold Lib.compact;rw[c,<-Pb l x,List.mem_iff_getElem?];constructor
  ·rintro⟨j,_,e⟩;exact⟨j,e⟩
  ·rintro⟨j,e⟩;exact⟨j,(qm.1 e).1,e⟩
 have g:(cI l).Pairwise (·<·):=by unfold cI;refine List.Pairwise.filter _ ?_;rw[List.pairwise_map];exact List.pairwise_lt_range.imp λh=>k4
 have d:∀x,x∈cI l↔x∈l:=λx=>by
  unfold cI;rw[qH,qo];constructor
  ·rintro⟨_,c⟩;simpa using c
  ·intro i;obtain⟨a,b⟩:=h x i;exact⟨⟨x.toNat,qD.2 k4,k4⟩,by simpa using i⟩
 have k:(Lib.compact (lu l)).Perm (cI l):=(List.perm_ext_iff_of_nodup (f.imp λh=>k4) (g.imp λh=>k4)).2 λx=>(m x).trans (d x).symm;exact k.eq_of_pairwise (le:=(·<·)) (λa b _ _ f c=>k4) f g
def bI(o b t:Int):Int:=(128*o+16*b+t)%4294967296
def dH(m:aE)(r:cX):Bool:=jt r&&(decide (r.p=m.p)&&m.aG.any λx=>decide (x.object=r.object)&&(decide (r.block<(x.tries.length:Int))&&decide (r.seed=bI r.object r.block (x.tries.getD r.block.toNat 0))))
def rL(a b:cX):Bool:=decide (a.object<b.object∨(a.object=b.object/\(a.block<b.block∨(a.block=b.block/\a.id<=b.id))))
def nB(a b:cX):Bool:=decide (a.object=b.object/\a.block=b.block/\a.id=b.id)
def LD:cX:=⟨0,0,0,(0,0,0),0,[]⟩
def pK(l:List cX)(k:Nat):Bool:=decide (k=0)||!nB (l.getD k LD) (l.getD (k-1) LD)
def pL(l:List cX):List cX:=((qx l.length).filter (pK l)).map λi=>l.getD i LD
def jl(m:aE)(c:aY):Option cX:=match dJ c with|some r=>if dH m r then dB r else eH|none=>eH
def cS(m:aE)(l:cC):List cX:=pL ((l.filterMap (jl m)).mergeSort rL)
theorem agU:Ord rL:=⟨λa b c e d=>by
 unfold rL at*;rw[decide_eq_true_eq]at*;omega,λa b=>by
 unfold rL;rw[z7,decide_eq_true_eq,decide_eq_true_eq];omega⟩
theorem XC(m:aE)(l:cC)(i:Nat)(a:i<j9 l):(l.take (i+1)).filterMap (jl m)=(l.take i).filterMap (jl m)++(jl m l[i]).toList:=by
 have:l.take (i+1)=l.take i++[l[i]]:=by rw[List.take_add_one,qd a];rfl
 rw[this,List.filterMap_append];cases hg:jl m l[i]with
 |none=>simp[hg]
 |some r=>simp[hg]
end Wl
namespace Go.Vc
open Go
section
variable {B:aB} {α:Type} {C:Ctx} {h0 h:hZ} {As:List HP} {e t k by_:Nat} {s:Sl} {f:α->ba} {l:List α} {z:ba}
theorem ES(z:ba)(n:Nat):(yn z.toArray n).toList.length=n*j9 z:=by simp[yn]
theorem Qt{z:ba}(d:∀v∈z,v.oneCell'=eR)(n:Nat):∀v∈(yn z.toArray n).toList,v.oneCell'=eR:=by
 intro v c;simp only[yn,vH,qo,Array.mem_toList_iff,Array.mem_range]at c;obtain⟨i,b,rfl⟩:=c;simp only[w8]at b⊢;have h0:0<j9 z:=by
  rcases Nat.eq_zero_or_pos z.length with h|h
  ·rw[h]at b;simp at b
  ·exact h
 have a:=yt i h0;rw[getElem!_pos z.toArray _ l7];exact d _ k9
theorem Own.te(A:C.Ok)(g:Own h e s k f l)(y:ce C.toCG t e k z by_)(n:∀x,j9 (f x)=k)(B:j9 z=k)(d:∀v∈z,v.oneCell'=eR)(j:Nat)(w:j<=j9 l){ty:Nat}{K:hZ->Prop}
  (r:∀h',Own h' e ⟨s.ptr,j,s.cap⟩ k f (l.take j)->aX (λb=>¬s.on b) h h'->K h'):
  af C.P (yS #[t] ty #[.slice (if s.cap=j then s.ptr else s.ptr.map (·.add (j*k))) (s.len-j) (s.cap-j)]) h λ_ h'=>K h':=by
 have S:=g.len;have c:=g.cut n j w;unfold yS;refine af.bind (af.always (aV (y.under A)) ?_);by_cases i:j=j9 l
 ·have F:s.len-j=0:=k4
  rw[F];generalize (if s.cap=j then s.ptr else s.ptr.map (·.add (j*k)))=q;cases q with
  |none=>exact af.pure' (r h c (aX.refl _ _))
  |some a=>exact af.pure' (r h c (aX.refl _ _))
 ·rcases g.head with⟨h1,h2,h3⟩|⟨b,rest,h1,h2,h3,h4⟩
  ·subst h3;simp at w i;omega
  ·have o:s.cap≠j:=k4
   rw[j3 o,h1];obtain⟨m,I⟩:∃m,s.len-j=m+1:=⟨s.len-j-1,k4⟩
   rw[I];obtain⟨R,O,N,Q,M,U,D,T⟩:=y.ex;obtain⟨G,H,L⟩:=sH A.toOk M;refine af.bind (af.always H ?_);have u:G.cells=z.toArray:=by apply yq;rw[L,D]
   rw[u];refine af.bind ?_;have E:((⟨b,0,eH⟩:hU).add (j*k))=⟨b,j*k,eH⟩:=by simp[add_eq]
   show af C.P (storeCells ((⟨b,0,eH⟩:hU).add (j*k)) (yn z.toArray (m+1)).toList) h _;rw[E];have p:j9 (l.drop j)=m+1:=k8
   refine fU (e:=e) (pre:=(l.take j).flatMap f) (old:=(l.drop j).flatMap f) (post:=rest) ?_ ?_ ?_ (Qt d _) ?_
   ·rw[<-zj,qJ];exact h2
   ·rw[ez n,p,ES,B]
   ·rw[ez n,qZ,yu k4];omega
   ·refine af.pure' (r _ ⟨k8,.inr ⟨b,(yn z.toArray (m+1)).toList++rest,h1,?_,?_,k7⟩⟩ ?_)
    ·rw[jq h2,j1 rfl];simp
    ·rw[qy,ES,B,h3,<-Nat.add_mul];dsimp only;congr 1;omega
    ·exact aX.kr h2 λJ=>J ⟨0,h1⟩
theorem aa.te(r:C.Ok)(H:aa B h0 h As)(i:Nat)(m:As[i]?=dB (al e s k f l))(p:ce C.toCG t e k z by_)(o:∀x,j9 (f x)=k)(w:j9 z=k)(a:∀v∈z,v.oneCell'=eR)(j:Nat)(n:j<=j9 l){ty:Nat}{K:hZ->Prop}
  (u:∀h',aa B h0 h' (As.set i (al e ⟨s.ptr,j,s.cap⟩ k f (l.take j)))->K h'):
  af C.P (yS #[t] ty #[.slice (if s.cap=j then s.ptr else s.ptr.map (·.add (j*k))) (s.len-j) (s.cap-j)]) h λ_ h'=>K h':=
 (H.own i m).te r p o w a j n λh' x y=>u h' (H.step i m λq g _=>⟨y.mono λb _ c d=>c (g.2 b d),x,λb c=>⟨x.lt c,.inl (g.2 b c)⟩⟩)
end
end Go.Vc
namespace Wl
open Go
theorem Rp:∀x y:aY,(Op.bytesLess x y||x==y)=!Op.bytesLess y x
 |[],[]=>rfl
 |[],_::_=>rfl
 |_::_,[]=>by simp[Op.bytesLess]
 |a::x,b::y=>by
  have f:=Rp x y;have e:a<b∨a=b∨b<a:=by
   rcases w9 a.toNat b.toNat with h|h|h
   ·exact .inl (zV.2 h)
   ·exact .inr (.inl (yI.1 h))
   ·exact .inr (.inr (zV.2 h))
  rcases e with h|rfl|h
  ·have c:¬b<a:=λh'=>by have:=zV.1 h;have:=zV.1 h';omega
   have d:b≠a:=λh'=>by subst h';exact c h
   simp[Op.bytesLess,h,c,d]
  ·have c:¬a<a:=λh'=>by have:=zV.1 h';omega
   simp only[Op.bytesLess,c,decide_false,Bool.false_or,beq_self_eq_true,zQ];rw[<-f];congr 1;simp
  ·have c:¬a<b:=λh'=>by have:=zV.1 h;have:=zV.1 h';omega
   have d:a≠b:=λh'=>by subst h';exact c h
   simp[Op.bytesLess,h,c,d]
theorem IG:∀x y z:aY,Op.bytesLess x y=eR->Op.bytesLess y z=eR->Op.bytesLess x z=eR
 |x,[],_,h1,_=>by cases x<;>simp[Op.bytesLess]at h1
 |_,b::y,[],_,h2=>by simp[Op.bytesLess]at h2
 |[],_::_,_::_,_,_=>rfl
 |a::x,b::y,c::z,h1,h2=>by
  simp only[Op.bytesLess,z7,decide_eq_true_eq,qz,beq_iff_eq]at h1 h2⊢;rcases h1 with h1|⟨rfl,h1⟩
  ·rcases h2 with h2|⟨rfl,h2⟩
   ·exact .inl (zV.2 (by have:=zV.1 h1;have:=zV.1 h2;omega))
   ·exact .inl h1
  ·rcases h2 with h2|⟨rfl,h2⟩
   ·exact .inl h2
   ·exact .inr ⟨k0,IG x y z h1 h2⟩
theorem ZH(x:aY):Op.bytesLess x x=eS:=by
 have:=Rp x x;cases h:Op.bytesLess x x with
 |false=>rfl
 |true=>rw[h]at this;simp at this
def jY(a b:ByteArray):Bool:=!ft b a
theorem LF(a b:ByteArray):jY a b=eR↔ft a b=eR∨a.toList=b.toList:=by unfold jY ft;rw[<-Rp,z7,beq_iff_eq]
theorem Gs(a b c:ByteArray)(e:jY a b=eR)(d:jY b c=eR):jY a c=eR:=by
 rw[LF]at e d⊢;unfold ft at*;rcases e with e|e
 ·rcases d with d|d
  ·exact .inl (IG _ _ _ e d)
  ·rw[<-d];exact .inl e
 ·rw[e];exact d
theorem Gt(a b:ByteArray):(jY a b||jY b a)=eR:=by
 unfold jY;cases h:ft b a with
 |false=>rfl
 |true=>
  have:ft a b=eS:=by
   cases h2:ft a b with
   |false=>rfl
   |true=>
    have:=IG _ _ _ h h2;rw[ZH]at this;cases this
  rw[this];rfl
def sO(a b:bK):Bool:=jY a.name b.name
def dw(m:aE)(x:bK):aE:={m with seq:=m.seq+1,next:=m.next+1,aG:=(m.aG++[x]).mergeSort sO}
open Classical
theorem lU(a:UInt8):a^^^a=0:=UInt8.xor_self
theorem sk(a b:UInt8):(a^^^b)^^^b=a:=by rw[UInt8.xor_assoc,lU,zU]
theorem cN{c:UInt8}{a t:Row}(h:j9 a=j9 t)(j:Nat):aN (cY c a t) j=aN t j^^^Gf.mul c (aN a j):=by
 simp only[aN,cY,qe,wH];by_cases b:j<j9 a
 ·rw[qd b,qd k4];rfl
 ·rw[qQ k4,qQ k4];simp[Gf.mul_zero]
theorem Bn(c:UInt8)(a:Row)(j:Nat):aN (scaleB c a) j=Gf.mul c (aN a j):=by
 simp only[aN,scaleB,qe,qR];cases a[j]? with
 |none=>simp[Gf.mul_zero]
 |some x=>rfl
def aK(n:Nat):Row:=qg n 0
theorem cz(n j:Nat):aN (aK n) j=0:=by simp only[aN,aK,qe,List.getElem?_replicate];split<;>rfl
theorem eZ{n:Nat}{a b:Row}(e:j9 a=n)(f:j9 b=n)(h:∀j,j<n->aN a j=aN b j):a=b:=by apply wC k4;intro j d c;have:=h j k4;simpa[aN,qe,qd d,qd c]using this
inductive Span (n:Nat) (m:aM):Row->Prop
 |zero:Span n m (aK n)
 |add (c:UInt8) (r v:Row):r∈m->Span n m v->Span n m (cY c r v)
section
variable {n:Nat} {m m':aM}
theorem Span.len(a:aT n m){v:Row}(h:Span n m v):j9 v=n:=by
 induction h with
 |zero=>simp[aK]
 |add c r v hr _ ih=>rw[bX (by rw[a r hr,ih])];exact ih
theorem Span.comb(a:aT n m){u v:Row}(e:Span n m u)(b:Span n m v)(c:UInt8):Span n m (cY c u v):=by
 induction e with
 |zero=>
  have:cY c (aK n) v=v:=eZ (n:=n) (by rw[bX (by simp[aK,b.len a])];exact b.len a) (b.len a) λj _=>by
   rw[cN (by simp[aK,b.len a]),cz,Gf.mul_zero,zU]
  rw[this];exact b
 |add d r w hr hw ih=>
  have l1:=b.len a;have l2:=hw.len a;have f:=a r hr;have:cY c (cY d r w) v=cY (Gf.mul c d) r (cY c w v):=eZ (n:=n) (by rw[bX m4];exact l1) (by rw[bX m4,bX];exact l1) λj _=>by
   rw[cN m4,cN k4,cN m4,cN k4,Gf.kv,Gf.mul_assoc]
   ac_rfl
  rw[this];exact .add _ _ _ hr ih
theorem Span.row(b:aT n m){r:Row}(a:r∈m):Span n m r:=by
 have:=Span.add 1 r _ a (.zero (n:=n) (m:=m));have e:cY 1 r (aK n)=r:=eZ (n:=n) (by rw[bX (by simp[aK,b r a])];simp[aK]) (b r a) λj _=>by
  rw[cN (by simp[aK,b r a]),cz,Gf.one_mul,wm]
 rwa [e]at this
theorem Span.sub(b:aT n m)(h:∀r∈m',Span n m r){v:Row}(a:Span n m' v):Span n m v:=by
 induction a with
 |zero=>exact .zero
 |add c r v hr _ ih=>exact(h r hr).comb b ih c
theorem Span.mono(h:∀r∈m',r∈m){v:Row}(a:Span n m' v):Span n m v:=by
 induction a with
 |zero=>exact .zero
 |add c r v hr _ ih=>exact .add c r v (h r hr) ih
theorem Span.lin(d:aT n m)(φ:Row->UInt8)(f:φ (aK n)=0)(g:∀c a t,j9 a=n->j9 t=n->φ (cY c a t)=φ t^^^Gf.mul c (φ a))(e:∀r∈m,φ r=0){v:Row}(b:Span n m v):φ v=0:=by
 induction b with
 |zero=>exact f
 |add c r v hr' b ih=>rw[g c r v (d r hr') (b.len d),ih,e r hr',Gf.mul_zero,zU]
end
def Cb(S:Row->Prop)(j:Nat):Prop:=∃v,S v/\(∀i,i<j->aN v i=0)/\aN v j≠0
noncomputable def leads(S:Row->Prop)(n:Nat):Nat:=(qx n).countP λj=>decide (Cb S j)
structure Way (n:Nat) (m:aM) (c top:Nat) (rows:aM):Prop where
 even:aT n rows
 len:j9 rows=j9 m
 tle:top<=j9 rows
 span:∀v,Span n rows v↔Span n m v
 cnt:top=leads (Span n m) c
 piv:∃p:Nat->Nat,(∀i,i<top->p i<c)/\(∀i,i<top->∀k,k<j9 rows->aN (aC rows k) (p i)=if k=i then 1 else 0)/\(∀i,i<top->∀j,j<p i->aN (aC rows i) j=0)/\(∀i j,i<j->j<top->p i<p j)
 low:∀k,top<=k->k<j9 rows->∀j,j<c->aN (aC rows k) j=0
theorem mem_row{m:aM}{i:Nat}(h:i<j9 m:=by omega):aC m i∈m:=by rw[bv h];exact qh h
theorem fk{m:aM}{r:Row}(h:r∈m):∃i,i<j9 m/\r=aC m i:=by obtain⟨i,a,rfl⟩:=qK h;exact⟨i,a,(bv a).symm⟩
theorem lF{m:aM}{i j:Nat}{r:Row}(a:i<j9 m:=by omega):aC (m.set i r) j=if i=j then r else aC m j:=by
 simp only[aC,qe,zb];by_cases h:i=j
 ·subst h;simp[a]
 ·simp[h]
theorem xR{m:aM}{i j k:Nat}(c:i<j9 m)(d:j<j9 m):aC (jB m i j) k=if k=j then aC m i else if k=i then aC m j else aC m k:=by
 rw[jB,lF p6,lF c];by_cases b:j=k
 ·rw[j1 b,j1 b.symm]
 ·rw[j3 b,j3 (show¬k=j fromλh=>b h.symm)];by_cases a:i=k
  ·rw[j1 a,j1 a.symm]
  ·rw[j3 a,j3 (show¬k=i fromλh=>a h.symm)]
theorem DS{m:aM}{t c k:Nat}(a:t<j9 m):aC (ki t c m) k=if t=k then scaleB (Gf.inv (aN (aC m t) c)) (aC m t)else aC m k:=by rw[ki,lF a]
section
variable {n:Nat} {m:aM}
theorem ZI(l:aT n m){i j:Nat}(a:i<j9 m)(b:j<j9 m)(v:Row):Span n (jB m i j) v↔Span n m v:=by
 refine⟨Span.mono λr d=>?_,Span.mono λr d=>?_⟩
 ·obtain⟨k,c,rfl⟩:=fk d;rw[lT]at c;rw[xR a b];split
  ·exact mem_row a
  ·split
   ·exact mem_row b
   ·exact mem_row c
 ·obtain⟨k,c,rfl⟩:=fk d;have e:∀x,x<j9 m->aC (jB m i j) x∈jB m i j:=λx h=>mem_row (by rw[lT];exact h);by_cases f:k=i
  ·subst f;have:=e j b;rw[xR a b,j1 rfl]at this;exact this
  ·by_cases g:k=j
   ·subst g;have:=e i a;rw[xR a b]at this;by_cases h3:i=k
    ·exact absurd h3.symm f
    ·rw[j3 h3,j1 rfl]at this;exact this
   ·have:=e k c;rw[xR a b,j3 g,j3 f]at this;exact this
theorem ZJ(g:aT n m){t c:Nat}(d:t<j9 m)(i:aN (aC m t) c≠0)(v:Row):Span n (ki t c m) v↔Span n m v:=by
 have a:=Bi g (c:=c) d;have f:=cy g d;have s:∀(x:UInt8) (r:Row),j9 r=n->scaleB x r=cY x r (aK n):=λx r b=>eZ (n:=n) (by rw[oU,b]) (by rw[bX A4];simp[aK]) λj _=>by
  rw[Bn,cN A4,cz,wm]
 refine⟨Span.sub g λr b=>?_,Span.sub a λr b=>?_⟩
 ·obtain⟨k,h,rfl⟩:=fk b;rw[oJ]at h;rw[DS d];split
  ·rw[s _ _ f];exact .add _ _ _ (mem_row d) .zero
  ·exact Span.row g (mem_row h)
 ·obtain⟨k,h,rfl⟩:=fk b;have e:∀x,x<j9 m->Span n (ki t c m) (aC (ki t c m) x):=λx p=>Span.row a (mem_row (by rw[oJ];exact p));by_cases o:t=k
  ·subst o;have:=e t d;rw[DS d,j1 rfl]at this;have l:=this.comb a .zero (aN (aC m t) c);have q:cY (aN (aC m t) c) (scaleB (Gf.inv (aN (aC m t) c)) (aC m t)) (aK n)=aC m t:=eZ (n:=n) (by rw[bX (by simp[aK,oU,f])];simp[aK]) f λj _=>by
    rw[cN (by simp[aK,oU,f]),cz,wm,Bn,<-Gf.mul_assoc,Gf.NQ i,Gf.one_mul]
   rw[q]at l;exact l
  ·have:=e k h;rw[DS d,j3 o]at this;exact this
theorem ZK(d:aT n m){t c:Nat}(g:t<j9 m)(v:Row):Span n (fj t c m m.length) v↔Span n m v:=by
 have b:=Bj d (c:=c) (k:=j9 m) g;have s:=cy d g;refine⟨Span.sub d λr i=>?_,Span.sub b λr i=>?_⟩
 ·obtain⟨k,a,rfl⟩:=fk i;rw[oK]at a;rw[sj a];split
  ·exact .add _ _ _ (mem_row g) (Span.row d (mem_row a))
  ·exact Span.row d (mem_row a)
 ·obtain⟨k,a,rfl⟩:=fk i;have e:∀x,x<j9 m->Span n (fj t c m m.length) (aC (fj t c m m.length) x):=λx p=>Span.row b (mem_row (by rw[oK];exact p));have h:=e t g;rw[sj g,j3 k9]at h;by_cases o:k=t
  ·subst o;exact h
  ·have l:=e k a;rw[sj a,j1 ⟨a,o⟩]at l;have h3:=h.comb b l (aN (aC m k) c);have f:=cy d a;have q:cY (aN (aC m k) c) (aC m t) (cY (aN (aC m k) c) (aC m t) (aC m k))=aC m k:=eZ (n:=n) (by rw[bX m4,bX];exact f) f λj _=>by
    rw[cN m4,cN k4,sk]
   rw[q]at h3;exact h3
def bU(f g:Nat->UInt8):Nat->UInt8
 |0=>0
 |k+1=>bU f g k^^^Gf.mul (f k) (g k)
theorem fR(f g:Nat->UInt8):∀k,(∀i,i<k->f i=0)->bU f g k=0
 |0,_=>rfl
 |k+1,h=>by rw[bU,fR f g k λi a=>h i k4,h k k4,Gf.zero_mul];rfl
theorem IH(f g:Nat->UInt8)(x:Nat):∀k,x<k->(∀i,i<k->f i=if x=i then 1 else 0)->bU f g k=g x
 |0,hx,_=>k4
 |k+1,hx,h=>by
  rw[bU];by_cases a:x=k
  ·subst a;rw[fR f g x λi b=>by rw[h i k4,j3 k4],h x k4,j1 k0,Gf.one_mul,wm]
  ·rw[IH f g x k k4 λi b=>h i k4,h k k4,j3 a,Gf.zero_mul,zU]
theorem II(b a g:Nat->UInt8)(c:UInt8):∀k,bU (λi=>b i^^^Gf.mul c (a i)) g k=bU b g k^^^Gf.mul c (bU a g k)
 |0=>by simp[bU,Gf.mul_zero]
 |k+1=>by
  rw[bU,bU,bU,II b a g c k,Gf.kv,Gf.Ww,Gf.mul_assoc]
  ac_rfl
theorem LG(S:Row->Prop)(c:Nat):leads S (c+1)=leads S c+if Cb S c then 1 else 0:=by simp only[leads,zR,List.countP_append,List.countP_cons,List.countP_nil];by_cases h:Cb S c<;>simp[h]
theorem ZL(c:aT n m):Way n m 0 0 m:=⟨c,k0,k4,λ_=>Iff.rfl,by simp[leads],⟨λ_=>0,λi a=>k4,λi a=>k4,λi a=>k4,λi j _ b=>k4⟩,λk _ _ j b=>k4⟩
theorem acN(hm:aT n m){c b:Nat}{rows:aM}(w:Way n m c b rows)(hc:c<n):Way n m (c+1) (jC (b,rows) c).1 (jC (b,rows) c).2:=by
 obtain⟨F,Z,ah,X,L,⟨p,P,p2,p3,p4⟩,g⟩:=w;have hS:∀v,Span n rows v↔Span n m v:=X;have T:Span n rows=Span n m:=funext λv=>propext (hS v);unfold jC;dsimp only;cases hb:ji rows b c with
 |none=>
  have U:=UH hb;dsimp only;have ar:¬Cb (Span n m) c:=by
   rw[<-T];rintro⟨v,hv,hz,ap⟩;apply ap;have hφ:=Span.lin F (λv=>aN v c^^^bU (λi=>aN v (p i)) (λi=>aN (aC rows i) c) b) (by
     simp only[cz];rw[fR _ _ _ λi _=>rfl];rfl) (λx a t ha ht=>by
     simp only[cN (show a.length=j9 t by omega)];rw[II,Gf.kv];ac_rfl) (λr hr=>by
     obtain⟨k,H,rfl⟩:=fk hr;by_cases N:k<b
     ·rw[IH _ _ k b N λi E=>by rw[p2 i E k H]];exact lU _
     ·rw[U k k4 H,fR _ _ _ λi E=>by rw[p2 i E k H,j3 k4]];rfl) hv
   rw[fR _ _ _ λi E=>hz _ (P i E),zU]at hφ;exact hφ
  refine⟨F,Z,ah,X,by rw[LG,j3 ar,L];rfl,⟨p,λi E=>by have:=P i E;omega,p2,p3,p4⟩,λk u A j d=>?_⟩;rcases zu.1 d with h|rfl
  ·exact g k u A j h
  ·exact U k u A
 |some at_=>
  have hh:=sN hb;obtain⟨h1,W,h3⟩:=hh;dsimp only;have q:b<j9 rows:=k4
  obtain⟨f,y⟩:∃f,f=jB rows b at_:=⟨_,rfl⟩
  have l1:j9 f=j9 rows:=by rw[y,lT]
  have Y:aT n f:=by rw[y];exact Gl F q W
  have q1:∀k,aC f k=if k=at_ then aC rows b else if k=b then aC rows at_ else aC rows k:=λk=>by rw[y,xR q W]
  have S:aC f b=aC rows at_:=by
   rw[q1];by_cases h:b=at_
   ·rw[j1 h,h]
   ·rw[j3 h,j1 rfl]
  have K:aN (aC f b) c≠0:=by rw[S];exact h3
  obtain⟨s,B⟩:∃s,s=ki b c f:=⟨_,rfl⟩
  have l2:j9 s=j9 rows:=by rw[B,oJ,l1]
  have z:aT n s:=by rw[B];exact Bi Y k4
  have q2:∀k,aC s k=if b=k then scaleB (Gf.inv (aN (aC f b) c)) (aC f b)else aC f k:=λk=>by rw[B,DS k4]
  have ad:∀j,aN (aC f b) j=0->aN (aC s b) j=0:=λj d=>by rw[q2,j1 k0,Bn,d,Gf.mul_zero]
  have l:aN (aC s b) c=1:=by rw[q2,j1 k0,Bn,Gf.mul_comm,Gf.NQ K]
  obtain⟨M,o⟩:∃M,M=fj b c s rows.length:=⟨_,rfl⟩
  have l3:j9 M=j9 rows:=by rw[o,oK,l2]
  have q3:∀k,k<j9 rows->∀j,aN (aC M k) j=if k=b then aN (aC s b) j else aN (aC f k) j^^^Gf.mul (aN (aC f k) c) (aN (aC s b) j):=λk H j=>by
   rw[o,sj k4];by_cases h:k=b
   ·rw[j3 k4,j1 h,h]
   ·have e:=q2 k;rw[j3 λhh=>h hh.symm]at e;rw[j1 ⟨H,h⟩,j3 h,cN (by rw[cy z,cy z]),e]
  have V:∀j,j<c->aN (aC s b) j=0:=λj d=>ad j (by rw[S];exact g at_ h1 W j d);have keep:∀k,k<j9 rows->∀j,j<c->aN (aC M k) j=if k=b then 0 else aN (aC f k) j:=λk H j d=>by
   rw[q3 k H,V j d,Gf.mul_zero,zU]
  have J:∀k,k<b->aC f k=aC rows k:=λk H=>by rw[q1,j3 k4,j3 k4]
  have I:∀k,b<=k->k<j9 rows->∀j,j<c->aN (aC f k) j=0:=λk u A j d=>by
   rw[q1];split
   ·exact g b (ql _) q j d
   ·split
    ·exact g at_ h1 W j d
    ·exact g k u A j d
  have D:∀v,Span n M v↔Span n m v:=λv=>by
   rw[o,show rows.length=j9 s by omega,ZK z k4,B,ZJ Y k4 K,y,ZI F q W,hS]
  have Q:Cb (Span n m) c:=⟨aC M b,(D _).1 (Span.row (by rw[o];exact Bj z k4) (mem_row)),λj d=>by rw[keep b q j d,j1 rfl],by rw[q3 b q,j1 k0,l];decide⟩
  have R:fj b c (ki b c (jB rows b at_)) rows.length=M:=by rw[o,B,y]
  rw[R];refine⟨by rw[o];exact Bj z k4,k4,k4,D,by rw[LG,j1 Q,L],⟨λi=>if i<b then p i else c,λi E=>?_,λi E k H=>?_,λi E j d=>?_,λi j am d=>?_⟩,λk u A j d=>?_⟩
  ·dsimp only;split
   ·have:=P i p9;omega
   ·omega
  ·dsimp only;by_cases hit:i<b
   ·rw[j1 hit,keep k k4 _ (P i hit)];by_cases N:k<b
    ·rw[j3 k4,J k N];exact p2 i hit k k4
    ·rw[j3 (show¬k=i by omega)];split
     ·rfl
     ·exact I k k4 k4 _ (P i hit)
   ·have O:i=b:=k4
    subst O;rw[j3 hit,q3 k k4];by_cases G:k=i
    ·rw[j1 G,j1 G];exact l
    ·rw[j3 G,j3 G,l,Gf.mul_one];exact lU _
  ·dsimp only at d;by_cases hit:i<b
   ·rw[j1 hit]at d;have:=P i hit;rw[keep i k4 j k4,j3 k4,J i hit];exact p3 i hit j d
   ·have O:i=b:=k4
    subst O;rw[j3 hit]at d;rw[keep i k4 j d,j1 rfl]
  ·dsimp only;rw[j1 (show i<b by omega)];split
   ·exact p4 i j am p9
   ·exact P i k4
  ·rcases zu.1 d with h|rfl
   ·rw[keep k k4 j h,j3 k4];exact I k k4 k4 j h
   ·rw[q3 k k4,j3 k4,l,Gf.mul_one];exact lU _
theorem IJ(a:aT n m):∀c,c<=n->Way n m c (bG m c).1 (bG m c).2
 |0,_=>ZL a
 |c+1,h=>by rw[bG];exact acN a (IJ a c k4) k4
theorem kF:∀c,bG [] c=(0,[])
 |0=>rfl
 |c+1=>by rw[bG,kF c];rfl
theorem mh(a:aT n m):ca m=leads (Span n m) n:=by
 rw[<-(IJ a n (ql _)).cnt,ca];cases m with
 |nil=>rw[kF,kF]
 |cons x t=>rw[eU,bv k9];rw[show((x::t)[0]).length=n from a _ k9]
end
section
variable {n:Nat} {m m':aM}
theorem XD{S a:Row->Prop}(h:∀v,S v->a v)(n:Nat):leads S n<=leads a n:=by refine List.countP_mono_left λj _ b=>?_;simp only[decide_eq_true_eq]at b⊢;obtain⟨v,d,c⟩:=b;exact⟨v,h v d,c⟩
theorem lG(a:aT n m):ca m<=n:=by rw[mh a];have:=List.countP_le_length (p:=λj=>decide (Cb (Span n m) j)) (l:=qx n);simpa[leads]using this
theorem Gu(b:aT n m)(a:aT n m')(h:∀r∈m,r∈m'):ca m<=ca m':=by rw[mh b,mh a];exact XD (λv=>Span.mono h) n
theorem count_one{P Q:Nat->Bool}(l:List Nat)(d:l.Nodup)(i:∀a∈l,P a=eR->Q a=eR)(e:∀a∈l,∀b∈l,Q a=eR->P a=eS->Q b=eR->P b=eS->a=b):l.countP Q<=l.countP P+1:=by
 induction l with
 |nil=>simp
 |cons x t ih=>
  rw[List.nodup_cons]at d;have f:=ih d.2 (λa c=>i a oj) λa c b h=>e a oj b rb;simp only[List.countP_cons];cases hQ:Q x with
  |false=>
   have:(if P x=eR then 1 else 0)>=0:=k4
   simp;omega
  |true=>
   cases hP:P x with
   |true=>simp;omega
   |false=>
    have:t.countP Q<=t.countP P:=by
     refine List.countP_mono_left λa c g=>?_;cases hpa:P a with
     |true=>rfl
     |false=>
      have:=e x k9 a oj hQ hP g hpa;subst this;exact absurd c d.1
    simp;omega
theorem Pe(i:aT n m){r:Row}(b:j9 r=n){v:Row}(o:Span n (m++[r]) v):∃(c:UInt8) (u:Row),Span n m u/\v=cY c r u:=by
 have k:aT n (m++[r]):=λx g=>by
  rcases qA.1 g with h|h
  ·exact i x h
  ·rw[qB.1 h];exact b
 induction o with
 |zero=>exact⟨0,aK n,.zero,(eZ (n:=n) (by rw[bX A4];simp[aK]) mn λj _=>by rw[cN A4,cz,Gf.zero_mul];rfl).symm⟩
 |add d x w g hw ih=>
  obtain⟨c,u,e,rfl⟩:=ih;have a:=e.len i;rcases qA.1 g with h|h
  ·have l:=i x h;refine⟨c,cY d x u,.add d x u h e,eZ (n:=n) (by rw[bX m4,bX];exact a) (by rw[bX m4,bX];exact a) λj _=>?_⟩;rw[cN m4,cN k4,cN m4,cN k4]
   ac_rfl
  ·have f:=qB.1 h;subst f;refine⟨c^^^d,u,e,eZ (n:=n) (by rw[bX m4,bX];exact a) (by rw[bX];exact a) λj _=>?_⟩;rw[cN m4,cN k4,cN k4,Gf.Ww]
   ac_rfl
theorem nf(c:aT n m){r:Row}(a:j9 r=n):aT n (m++[r]):=λx b=>by
 rcases qA.1 b with h|h
 ·exact c x h
 ·rw[qB.1 h];exact a
theorem ZM(f:aT n m){r:Row}(F:j9 r=n):ca m<=ca (m++[r])/\ca (m++[r])<=ca m+1:=by
 have k:=nf f F;refine⟨Gu f k λx A=>by simp[A],?_⟩;rw[mh f,mh k];refine count_one _ List.nodup_range (λa _ I=>?_) (λa _ b _ t p E q=>?_)
 ·simp only[decide_eq_true_eq]at I⊢;obtain⟨v,K,J⟩:=I;exact⟨v,Span.mono (λx A=>by simp[A]) K,J⟩
 ·simp only[decide_eq_true_eq,decide_eq_false_iff_not]at t p E q;have l:∀a b,Cb (Span n (m++[r])) a->¬Cb (Span n m) a->Cb (Span n (m++[r])) b->¬Cb (Span n m) b->¬a<b:=by
   rintro a b ⟨v,L,N,B⟩ p ⟨w,M,g,o⟩ q D;obtain⟨c,u,H,rfl⟩:=Pe f F L;obtain⟨d,s,h,rfl⟩:=Pe f F M;have l1:=H.len f;have l2:=h.len f;have O:d≠0:=by
    rintro rfl;apply q;refine⟨s,h,λi G=>?_,?_⟩
    ·have:=g i G;rw[cN k4,Gf.zero_mul,zU]at this;exact this
    ·rw[cN k4,Gf.zero_mul,zU]at o;exact o
   apply p;refine⟨cY (Gf.mul c (Gf.inv d)) s u,h.comb f H _,?_⟩;have e:∀j,aN (cY (Gf.mul c (Gf.inv d)) s u) j=aN (cY c r u) j^^^Gf.mul (Gf.mul c (Gf.inv d)) (aN (cY d r s) j):=λj=>by
    rw[cN k4,cN k4,cN k4,Gf.kv,<-Gf.mul_assoc (Gf.mul c (Gf.inv d)) d,Gf.mul_assoc c (Gf.inv d) d,Gf.mul_comm (Gf.inv d) d,Gf.NQ O,Gf.mul_one];have:∀x y z:UInt8,x^^^y=x^^^z^^^(y^^^z):=λx y z=>by
     have:x^^^z^^^(y^^^z)=x^^^y^^^(z^^^z):=by ac_rfl
     rw[this,lU,zU]
    exact this _ _ _
   refine⟨λi G=>?_,?_⟩
   ·rw[e,N i G,g i k4,Gf.mul_zero];rfl
   ·rw[e,g a D,Gf.mul_zero,zU];exact B
  have K:=l a b t p E q;have J:=l b a E q t p;omega
theorem pM(m:aM)(h:aT n m):ca m<=j9 m:=by
 have a:∀k,k<=j9 m->ca (m.take k)<=k:=by
  intro k
  induction k with
  |zero=>intro _;simp[ca,eU,aC,bG]
  |succ k ih=>
   intro f;have c:aT n (m.take k):=λx b=>h x (zI b);have e:=ih k4;rw[zG k4];have d:=(ZM c (h _ (qh (show k<j9 m by omega)))).2;omega
 have:=a m.length (ql _)
 rwa [qi (ql _)]at this
end
def nC(p:Int×Int×Int)(seed:Int)(ids:au):Nat:=ca (dR p seed ids)
def eI(p:Int×Int×Int)(seed:Int)(ids:au):Bool:=bH p&&((nC p seed ids:Int)==bD p)
def fg(p:Int×Int×Int):au:=upto (max 0 (min p.1 16)).toNat
theorem oN{p:Int×Int×Int}(h:bH p=eR):bD p=p.1+p.2.1:=by rw[bD,j1 h]
theorem jL(p:Int×Int×Int)(seed:Int)(ids:au):aT (bD p).toNat (dR p seed ids):=by
 intro r a;unfold dR at a;split at a
 ·rename_i b;have:=(bZ p).1 b;rcases qA.1 a with h|h
  ·obtain⟨x,_,rfl⟩:=qo.1 h;rw[xO,oN b];omega
  ·obtain⟨x,_,rfl⟩:=qo.1 h;exact RY _ _ _
 ·cases a
theorem acO(p:Int×Int×Int)(seed:Int)(ids:au):j9 (dR p seed ids)<=4+j9 ids:=by
 unfold dR;split
 ·rename_i a;have:=(bZ p).1 a;have b:=List.length_filter_le bW ids;simp only[qy,bw,qw,zt];omega
 ·simp
theorem LH(K H:Nat):aT (K+H) (bw K H):=λr a=>by
 obtain⟨x,_,rfl⟩:=qo.1 a;exact xO _ _ _
theorem acP(p:Int×Int×Int)(seed:Int)(ids:au):(nC p seed ids:Int)<=bD p:=by
 have h:=lG (jL p seed ids);have:0<=bD p:=by
  unfold bD;split
  ·rename_i a;have:=(bZ p).1 a;omega
  ·omega
 rw[nC];omega
def fe(a b:aM):aM:=zh (·++·) a b
def lc(n:Nat)(m:aM):aM:=m.map (List.take n)
theorem Kr{r:Row}{n j:Nat}(h:j<n):aN (r.take n) j=aN r j:=by simp only[aN,qe,y5];rw[j1 h]
theorem Sg(r:Row)(n j:Nat):aN (r.drop n) j=aN r (n+j):=by simp only[aN,qe,wz]
theorem xy(n:Nat)(m:aM)(i:Nat):aC (lc n m) i=(aC m i).take n:=by
 simp only[aC,lc,qe,qR];cases m[i]? with
 |none=>simp
 |some r=>rfl
theorem NR(n:Nat)(m:aM):j9 (lc n m)=j9 m:=by simp[lc]
theorem XE{n a bt:Nat}(m:aM)(h:bt<n):ji (lc n m) a bt=ji m a bt:=by unfold ji;rw[NR];congr 1;funext i;rw[xy,Kr h]
theorem NS(n:Nat)(m:aM)(i:Nat)(r:Row):lc n (m.set i r)=(lc n m).set i (r.take n):=by simp[lc,List.map_set]
theorem acQ(n:Nat)(m:aM)(i j:Nat):lc n (jB m i j)=jB (lc n m) i j:=by rw[jB,NS,NS,jB,xy,xy]
theorem ZN(n:Nat)(c:UInt8)(r:Row):(scaleB c r).take n=scaleB c (r.take n):=by simp[scaleB,List.map_take]
theorem afI(n:Nat)(c:UInt8)(a t:Row):(cY c a t).take n=cY c (a.take n) (t.take n):=by simp[cY,List.take_zipWith]
theorem acR{n bt:Nat}(h:bt<n)(t:Nat)(m:aM):lc n (ki t bt m)=ki t bt (lc n m):=by rw[ki,NS,ZN,ki,xy,Kr h]
theorem acS{n bt:Nat}(h:bt<n)(t k:Nat)(m:aM):lc n (fj t bt m k)=fj t bt (lc n m) k:=by
 apply zP;intro i;simp only[lc,fj,qR,ve];cases m[i]? with
 |none=>rfl
 |some r=>
  simp only[qY];congr 1;have:=xy n m t;rw[lc]at this;rw[this,Kr h];split
  ·exact afI _ _ _ _
  ·rfl
theorem acT{n bt:Nat}(h:bt<n)(s:Nat×aM):((jC s bt).1,lc n (jC s bt).2)=jC (s.1,lc n s.2) bt:=by
 unfold jC;dsimp only;rw[XE _ h];cases ji s.2 s.1 bt with
 |none=>rfl
 |some i=>dsimp only;rw[acS h,acR h,acQ,NR]
theorem LI(n:Nat)(m:aM):∀c,c<=n->((bG m c).1,lc n (bG m c).2)=bG (lc n m) c
 |0,_=>rfl
 |c+1,h=>by
  have a:=LI n m c k4;rw[bG,bG,acT (show c<n by omega),a]
theorem mJ{a b:aM}(h:j9 a=j9 b):j9 (fe a b)=j9 a:=by simp[fe,h]
theorem IK{a b:aM}(h:j9 a=j9 b){i:Nat}(c:i<j9 a):aC (fe a b) i=aC a i++aC b i:=by rw[bv (by rw[mJ h];exact c),bv c,bv k4];simp[fe]
theorem ng{n w:Nat}{a b:aM}(h:j9 a=j9 b)(e:aT n a)(f:aT w b):aT (n+w) (fe a b):=λr d=>by
 obtain⟨i,c,rfl⟩:=fk d;rw[mJ h]at c;rw[IK h c,qy,cy e c,cy f]
theorem afJ{n:Nat}{a b:aM}(h:j9 a=j9 b)(d:aT n a):lc n (fe a b)=a:=by apply wC (by rw[NR,mJ h]);intro i e c;have:=xy n (fe a b) i;rw[bv e,IK h c,List.take_left' (cy d c),bv c]at this;exact this
theorem acU{n:Nat}{a:aM}(b:aT n a):(bG a n).1=ca a:=by
 rw[ca];cases a with
 |nil=>rw[kF,kF]
 |cons x t=>rw[eU,bv k9];rw[show((x::t)[0]).length=n from b _ k9]
theorem Ks{n:Nat}{a b:aM}(h:j9 a=j9 b)(c:aT n a):(bG (fe a b) n).1=ca a:=by have:=congrArg qM (LI n (fe a b) n (ql _));rw[afJ h c]at this;rw[<-acU c];exact this
def sl(w:Nat)(r:Row)(X:aM):Nat->Row
 |0=>aK w
 |k+1=>cY (aN r k) (aC X k) (sl w r X k)
theorem iO{n w:Nat}{X:aM}(a:aT w X)(c:j9 X=n)(r:Row):∀k,k<=n->j9 (sl w r X k)=w
 |0,_=>by simp[sl,aK]
 |k+1,h=>by
  have b:=iO a c r k k4;rw[sl,bX (by rw[cy a,b])];exact b
theorem ia{n w:Nat}{X:aM}(a:aT w X)(b:j9 X=n)(r:Row)(j:Nat):∀k,k<=n->aN (sl w r X k) j=bU (λi=>aN r i) (λi=>aN (aC X i) j) k
 |0,_=>by rw[sl,cz];rfl
 |k+1,h=>by
  have c:=ia a b r j k k4;rw[sl,cN (by rw[cy a,iO a b r k k4]),c];rfl
def fE(n w:Nat)(a b X:aM):Prop:=j9 X=n/\aT w X/\∀i,i<j9 a->sl w (aC a i) X n=aC b i
theorem acV{m a:aM}(d:j9 m=j9 a)(h:∀i,i<j9 m->aC m i=aC a i):m=a:=by
 apply wC d;intro i b c;have:=h i b
 rwa [bv b,bv c]at this
def xS(n:Nat)(X:aM)(k:Nat)(v:Row):UInt8:=aN v (n+k)^^^bU (λi=>aN v i) (λi=>aN (aC X i) k) n
theorem fV{f f' g g':Nat->UInt8}:∀k,(∀i,i<k->f i=f' i)->(∀i,i<k->g i=g' i)->bU f g k=bU f' g' k
 |0,_,_=>rfl
 |k+1,h1,h2=>by rw[bU,bU,fV k (λi a=>h1 i k4) λi a=>h2 i k4,h1 k k4,h2 k k4]
theorem WA(n:Nat)(X:aM)(k:Nat)(c:UInt8)(a t:Row)(h:j9 a=j9 t:=by omega):xS n X k (cY c a t)=xS n X k t^^^Gf.mul c (xS n X k a):=by unfold xS;rw[cN h];have:bU (λi=>aN (cY c a t) i) (λi=>aN (aC X i) k) n=bU (λi=>aN t i^^^Gf.mul c (aN a i)) (λi=>aN (aC X i) k) n:=fV n (λi _=>cN h i) λ_ _=>rfl;rw[this,II,Gf.kv];ac_rfl
theorem WB{a b:Row}{n:Nat}(c:j9 a=n)(k:Nat):aN (a++b) (n+k)=aN b k:=by simp only[aN,qe];rw[qj k4,c,zr]
theorem Sh{a b:Row}{n j:Nat}(d:j9 a=n)(c:j<n):aN (a++b) j=aN a j:=by simp only[aN,qe];rw[qp k4]
theorem pN{a b:UInt8}:a^^^b=0↔a=b:=by
 constructor
 ·intro h;have:=congrArg (·^^^b) h;simp only[wm]at this
  rwa [sk]at this
 ·rintro rfl;exact lU _
theorem LJ{n w:Nat}{a b X:aM}(h:j9 a=j9 b)(f:aT n a)(o:aT w b)(l:j9 X=n)(g:aT w X):fE n w a b X↔∀k,k<w->∀v,Span (n+w) (fe a b) v->xS n X k v=0:=by
 have e:=ng h f o;constructor
 ·intro x k p v q;refine Span.lin e (xS n X k) ?_ (λc a t z y=>WA n X k c a t) (λr u=>?_) q
  ·unfold xS;rw[cz,fR _ _ n λi _=>cz _ _];rfl
  ·obtain⟨i,d,rfl⟩:=fk u;rw[mJ h]at d;rw[IK h d];unfold xS;rw[WB (cy f d),<-x.2.2 i d,ia g l _ k n (ql _),pN];exact fV n (λj m=>(Sh (cy f d) m).symm) λ_ _=>rfl
 ·intro s;refine⟨l,g,λi d=>eZ (n:=w) (iO g l _ n (ql _)) (cy o) λk p=>?_⟩;have:=s k p _ (Span.row e (mem_row (show i<j9 (fe a b) by rw[mJ h];exact d)));rw[IK h d]at this;unfold xS at this;rw[WB (cy f d),pN]at this;rw[this,ia g l _ k n (ql _)];exact fV n (λj m=>(Sh (cy f d) m).symm) λ_ _=>rfl
theorem agV{n:Nat}{p:Nat->Nat}(d:∀i,i<n->p i<n)(b:∀i j,i<j->j<n->p i<p j):∀i,i<n->p i=i:=by
 have c:∀i,i<n->i<=p i:=by
  intro i
  induction i with
  |zero=>intro _;omega
  |succ i ih=>intro a;have:=ih k4;have:=b i (i+1) k4 a;omega
 have up:∀k i,i+k+1=n->p i<=i:=by
  intro k
  induction k with
  |zero=>intro i a;have:=d i k4;omega
  |succ k ih=>intro i a;have:=ih (i+1) k4;have:=b i (i+1) k4 k4;omega
 intro i a;have:=c i a;have:=up (n-1-i) i k4;omega
def gc(n:Nat)(a b:aM):aM:=(((bG (fe a b) n).2).take n).map (List.drop n)
def ly(n:Nat)(a b:aM):Prop:=∀r∈((bG (fe a b) n).2).drop n,r=aK r.length
section
variable {n w:Nat} {a b:aM}
theorem xz(h:j9 a=j9 b)(f:aT n a)(i:aT w b)(j:ca a=n):j9 (gc n a b)=n/\aT w (gc n a b):=by have c:=ng h f i;have e:=gZ c n;have h3:=pM a f;refine⟨by rw[gc,qw,qZ,e.2,mJ h];omega,λr d=>?_⟩;obtain⟨x,g,rfl⟩:=qo.1 d;rw[ze,e.1 x (zI g)];omega
theorem WC(h:j9 a=j9 b)(e:aT n a)(d:ca a=n){i:Nat}(c:i<n):aC (gc n a b) i=(aC (bG (fe a b) n).2 i).drop n:=by
 simp only[aC,gc,qe,qR,y5];rw[j1 c]
 cases(bG (fe a b) n).2[i]? with
 |none=>simp
 |some r=>rfl
theorem Si(h:j9 a=j9 b)(e:aT n a)(o:aT w b)(q:ca a=n):
  (∀v,Span (n+w) (bG (fe a b) n).2 v↔Span (n+w) (fe a b) v)/\(bG (fe a b) n).2.length=j9 a/\(∀i,i<n->∀k,k<j9 a->aN (aC (bG (fe a b) n).2 k) i=if k=i then 1 else 0):=by
 have c:=ng h e o;have W:=IJ c n k4;have r:(bG (fe a b) n).1=n:=by rw[Ks h e,q]
 obtain⟨p,f,g,l,d⟩:=W.piv;rw[r]at f g l d;have hid:=agV f d;have m:(bG (fe a b) n).2.length=j9 a:=by rw[W.len,mJ h]
 refine⟨W.span,m,λi j k s=>?_⟩;have:=g i j k k4
 rwa [hid i j]at this
theorem Sj{X:aM}{r:Row}{i k:Nat}(b:i<n)(a:∀j,j<n->aN r j=if i=j then 1 else 0):xS n X k r=aN r (n+k)^^^aN (aC X i) k:=by unfold xS;rw[IH _ _ i n b λj c=>a j c]
theorem WD{X:aM}{r:Row}{k:Nat}(a:∀j,j<n->aN r j=0):xS n X k r=aN r (n+k):=by unfold xS;rw[fR _ _ n a,zU]
theorem mi(h:j9 a=j9 b)(l:aT n a)(p:aT w b)(x:ca a=n){X:aM}(g:fE n w a b X):X=gc n a b/\ly n a b:=by
 have s:=ng h l p;have u:=gZ s n;obtain⟨m,D,v⟩:=Si h l p x;have B:=pM a l;have y:=(LJ h l p g.1 g.2.1).1 g;obtain⟨z,s2⟩:=xz h l p x;constructor
 ·refine acV (by rw[g.1,z]) λi d=>eZ (n:=w) (cy g.2.1 d) (cy s2 (by rw[z];rw[g.1]at d;exact d)) λk A=>?_;rw[g.1]at d;have h3:=y k A _ ((m _).1 (Span.row u.1 (mem_row (show i<(bG (fe a b) n).2.length by omega))));rw[Sj d λj o=>v j o i k4]at h3;rw[WC h l x d,Sg];exact(pN.1 h3).symm
 ·intro r t;obtain⟨i,d,rfl⟩:=qK t;rw[ze]at d;rw[we];have f:n+i<(bG (fe a b) n).2.length:=k4
  have e:=bv f;have c:=cy u.1 f;rw[<-e,c];refine eZ (n:=n+w) c mn λj o=>?_;rw[cz];by_cases q:j<n
  ·rw[v j q (n+i) k4,j3 k4]
  ·obtain⟨k,rfl⟩:∃k,j=n+k:=⟨j-n,k4⟩
   have h3:=y k k4 _ ((m _).1 (Span.row u.1 (mem_row f)))
   rwa [WD λj o=>by rw[v j o (n+i) k4,j3 k4]]at h3
theorem pO(h:j9 a=j9 b)(e:aT n a)(g:aT w b)(q:ca a=n)(y:ly n a b):fE n w a b (gc n a b):=by
 have l:=ng h e g;have s:=gZ l n;obtain⟨o,E,u⟩:=Si h e g q;have A:=pM a e;obtain⟨D,s2⟩:=xz h e g q;refine(LJ h e g D s2).2 λk G v z=>?_;refine Span.lin s.1 (xS n (gc n a b) k) ?_ (λc x t F s=>WA n _ k c x t) (λr p=>?_) ((o v).2 z)
 ·unfold xS;rw[cz,fR _ _ n λi _=>cz _ _];rfl
 ·obtain⟨i,B,rfl⟩:=fk p;by_cases f:i<n
  ·rw[Sj f λj m=>u j m i k4,WC h e q f,Sg];exact lU _
  ·rw[WD λj m=>by rw[u j m i k4,j3 k4]];have:aC (bG (fe a b) n).2 i∈(bG (fe a b) n).2.drop n:=by
    rw[bv B];obtain⟨d,rfl⟩:∃d,i=n+d:=⟨i-n,k4⟩
    rw[<-we (h:=by rw[ze];omega)];exact qh _
   rw[y _ this,cz]
theorem UJ(h:j9 a=j9 b)(f:aT n a)(g:aT w b)(i:j9 a=n):ly n a b:=by have c:=ng h f g;have e:=gZ c n;intro r d;rw[zi (by rw[e.2,mJ h];omega)]at d;cases d
end
def Sk(l:au):Prop:=∀a b,a<j9 l->b<j9 l->lE l a=lE l b->a=b
theorem IL{l:au}{i:Nat}(h:i<j9 l):lE l i=l[i]:=by rw[lE,qe,qd h];rfl
theorem acW{l:au}{i j k:Nat}(c:i<j9 l)(d:j<j9 l):lE (sM l i j) k=if k=j then lE l i else if k=i then lE l j else lE l k:=by
 simp only[lE,sM,qe,zb,zF];by_cases a:j=k
 ·subst a;simp[d]
 ·by_cases b:i=k
  ·subst b;simp[a,c];omega
  ·simp[a,b];omega
theorem swap_inj{l:au}{i j:Nat}(p:i<j9 l)(g:j<j9 l)(h:Sk l):Sk (sM l i j):=by
 intro a b m o n;rw[RW]at m o;have d:∀k,k<j9 l->∃σ,σ<j9 l/\lE (sM l i j) k=lE l σ/\(σ=if k=j then i else if k=i then j else k):=λk u=>by
  rw[acW p g];by_cases f:k=j
  ·rw[j1 f,j1 f];exact⟨i,p,k0,k0⟩
  ·rw[j3 f,j3 f];by_cases e:k=i
   ·rw[j1 e,j1 e];exact⟨j,g,k0,k0⟩
   ·rw[j3 e,j3 e];exact⟨k,u,k0,k0⟩
 obtain⟨s,v,q,r⟩:=d a m;obtain⟨t,w,e2,c⟩:=d b o;rw[q,e2]at n;have:=h s t v w n;subst this;rw[r]at c;split at c<;>split at c<;>(try split at c)<;>(try split at c)<;>omega
theorem ZO{l:au}(h:Sk l):l.Nodup:=by rw[List.nodup_iff_pairwise_ne,zd];intro i j a b c d;have:=h i j a b (by rw[IL a,IL b];exact d);omega
theorem acX(n:Nat):Sk (upto n):=by intro a b c e d;rw[hJ]at c e;rw[IL (by rw[hJ];exact c),IL (by rw[hJ];exact e)]at d;simp[upto]at d;omega
theorem Sm(n:Nat)(s:Int):∀k,k<=n->n<=64->Sk (gG n s (upto n) k).2
 |0,_,_=>acX n
 |k+1,hk,hn=>by
  have a:=xM n s (upto n) k;rw[hJ]at a;have:=xL (gG n s (upto n) k).1 ((n-k:Nat):Int);exact swap_inj k4 k4 (Sm n s k k4 hn)
theorem XF(s:Int)(n k:Nat)(b:k<=n)(a:n<=64):(IB s n k).Nodup:=by have h:=(ZO (Sm n s k b a)).sublist (List.take_sublist k _);exact(ye _ _).nodup_iff.2 h
theorem DT{n:Nat}(b:1<=n)(a:n<=20)(seed id:Int):(dt n seed id).Nodup:=XF _ _ _ (xN _ n b a) k4
theorem UK(n:Nat)(seed id:Int):(dt n seed id).Pairwise (·<=·):=by have:=yo (le:=λx y:Int=>decide (x<=y)) (by intro a b c;simp;omega) (by intro a b;simp;omega) ((gG n (ER (ER (Gk seed id))) (upto n) (IE (ER (Gk seed id)) n)).2.take (IE (ER (Gk seed id)) n));exact this.imp k9
theorem NT{r:Row}{i j:Nat}{x:UInt8}(a:i<j9 r):aN (r.set i x) j=if j=i then x else aN r j:=by
 simp only[aN,qe,zb];by_cases h:i=j
 ·subst h;simp[a]
 ·simp[h];intro e;exact absurd e.symm h
theorem Pf(n:Nat)(l:au)(c:Int):gh n (l++[c])=(gh n l).set c.toNat 1:=by rw[gh,wv];rfl
theorem DU{n:Nat}:∀(l:au) (_:∀x∈l,0<=x/\x<(n:Int)) (j:Nat),aN (gh n l) j=if(j:Int)∈l then 1 else 0:=by
 intro l;have d:∀k,k<=j9 l->(∀x∈l,0<=x/\x<(n:Int))->∀j:Nat,aN (gh n (l.take k)) j=if(j:Int)∈l.take k then 1 else 0:=by
  intro k
  induction k with
  |zero=>intro _ _ j;simp[gh];exact cz n j
  |succ k ih=>
   intro g b j;have f:=b _ (qh (show k<j9 l by omega));rw[zG k4,Pf,NT (by rw[si];omega),ih k4 b];have a:(j:Int)∈l.take k++[l[k]]↔(j:Int)∈l.take k∨(j:Int)=l[k]:=by rw[qA,qB]
   by_cases h:j=l[k].toNat
   ·rw[j1 h,j1 (a.2 (.inr k4))]
   ·rw[j3 h];by_cases c:(j:Int)∈l.take k
    ·rw[j1 c,j1 (a.2 (.inl c))]
    ·rw[j3 c,j3 λe=>(a.1 e).elim c λh3=>h k4]
 intro b j;have:=d l.length (ql _) b j
 rwa [qi (ql _)]at this
theorem Kt{f f' g:Nat->UInt8}{c:Nat}(a:f c=0)(b:∀i,f' i=if i=c then 1 else f i):∀k,bU f' g k=bU f g k^^^if c<k then g c else 0
 |0=>by simp[bU]
 |k+1=>by
  rw[bU,bU,Kt a b k,b k];by_cases d:k=c
  ·subst d;rw[j1 k0,j3 k4,j1 k4,Gf.one_mul,a,Gf.zero_mul]
  ·rw[j3 d];by_cases h:c<k
   ·rw[j1 h,j1 k4];ac_rfl
   ·rw[j3 h,j3 k4];simp
def fS(w:Nat)(X:aM)(l:au):Row:=l.foldl (λs c=>cY 1 (aC X c.toNat) s) (aK w)
theorem DV(w:Nat)(X:aM)(l:au)(c:Int):fS w X (l++[c])=cY 1 (aC X c.toNat) (fS w X l):=by rw[fS,wv];rfl
theorem pP{n w:Nat}{X:aM}(b:aT w X)(d:j9 X=n){l:au}(a:∀x∈l,0<=x/\x<(n:Int)):∀k,k<=j9 l->j9 (fS w X (l.take k))=w:=by
 intro k
 induction k with
 |zero=>intro _;simp[fS,aK]
 |succ k ih=>
  intro e;have c:=a _ (qh (show k<j9 l by omega));rw[zG k4,DV,bX (by rw[cy b,ih k4])];exact ih k4
theorem WE{n w:Nat}{X:aM}(b:aT w X)(c:j9 X=n){l:au}(a:∀x∈l,0<=x/\x<(n:Int)):j9 (fS w X l)=w:=by
 have:=pP b c a l.length (ql _)
 rwa [qi (ql _)]at this
theorem afK{n w:Nat}{X:aM}(a:aT w X)(b:j9 X=n){l:au}(d:∀x∈l,0<=x/\x<(n:Int))(q:l.Nodup):fS w X l=sl w (gh n l) X n:=by
 have h:∀k,k<=j9 l->fS w X (l.take k)=sl w (gh n (l.take k)) X n:=by
  intro k
  induction k with
  |zero=>
   intro _;refine eZ (n:=w) (by simp[fS,aK]) (iO a b _ n (ql _)) λj _=>?_;rw[ia a b _ j n (ql _),fR _ _ n λi _=>by simp only[vz,gh,wM];exact cz n i];simp only[vz,fS,wM];exact cz w j
  |succ k ih=>
   intro r;have p:=d _ (qh (show k<j9 l by omega));have o:=pP a b d k k4;rw[zG k4,DV,Pf,ih k4];refine eZ (n:=w) ?_ (iO a b _ n (ql _)) λj _=>?_
   ·rw[bX (by rw[cy a,iO a b _ n (ql _)])];exact iO a b _ n (ql _)
   ·rw[cN (by rw[cy a,iO a b _ n (ql _)]),ia a b _ j n (ql _),ia a b _ j n (ql _)];have g:l[k]∉l.take k:=λm=>by
     have e:l=l.take k++l[k]::l.drop (k+1):=by rw[<-qP k4,qJ]
     rw[e,List.nodup_append]at q;exact q.2.2 _ m _ qI k0
    have h0:aN (gh n (l.take k)) l[k].toNat=0:=by
     rw[DU _ λx p=>d x (zI p),j3];intro m;apply g;have:((l[k].toNat:Nat):Int)=l[k]:=k4
     rwa [this]at m
    rw[Kt (f:=λi=>aN (gh n (l.take k)) i) (c:=l[k].toNat) h0 (λi=>NT (by rw[si];omega)) n,j1 k4,Gf.one_mul]
 have:=h l.length (ql _)
 rwa [qi (ql _)]at this
open Go Go.Vc
def jZ(K H w:Nat)(d:Row):aM:=qg H (aK w)++(qx K).map (Gc d w)
def dn(p:Int×Int×Int)(seed:Int)(d:Row):aM:=gc (bD p).toNat (dR p seed (fg p)) (jZ p.1.toNat p.2.1.toNat p.2.2.toNat d)
structure cu (p:Int×Int×Int) (seed:Int) (d:Row) (K H w n:Nat):Prop where
 may:bH p=eR
 full:eI p seed (fg p)=eR
 k:p.1=K
 h:p.2.1=H
 s:p.2.2=w
 n:n=K+H
 k1:1<=K
 k2:K<=16
 h1:1<=H
 h2:H<=4
 w1:1<=w
 w2:w<=24
 len:j9 d=K*w
theorem XG{p:Int×Int×Int}{seed:Int}{d:Row}(b:bH p=eR)(e:eI p seed (fg p)=eR)(a:(j9 d:Int)=p.1*p.2.2):∃K H w n,cu p seed d K H w n:=by
 have:=(bZ p).1 b;refine⟨p.1.toNat,p.2.1.toNat,p.2.2.toNat,p.1.toNat+p.2.1.toNat,b,e,k4,k4,k4,k0,k4,k4,k4,k4,k4,k4,?_⟩;have c:p.1=(p.1.toNat:Int):=k4
 have e2:p.2.2=(p.2.2.toNat:Int):=k4
 rw[c,e2,<-Int.natCast_mul]at a;exact Int.ofNat.inj a
section
variable {p:Int×Int×Int} {seed:Int} {d:Row} {K H w n:Nat}
theorem cu.cZ(B:cu p seed d K H w n):bD p=n:=by rw[oN B.may,B.k,B.h,B.n];rfl
theorem cu.pQ(B:cu p seed d K H w n):(bD p).toNat=n:=by rw[B.cZ];rfl
theorem XH(a:p.1=(K:Int))(h:K<=16):fg p=upto K:=by rw[fg];congr 1;omega
theorem UL(h:K<=16):(upto K).filter bW=upto K:=by rw[List.filter_eq_self];intro x b;simp[upto]at b;obtain⟨a,c,rfl⟩:=b;simp[bW];omega
theorem cu.RO(B:cu p seed d K H w n):dR p seed (fg p)=bw K H++(qx K).map λi:Nat=>oH n seed (i:Int):=by rw[dR,j1 B.may,XH B.k B.k2,UL B.k2,B.k,B.h,B.pQ,qn,qn,upto,List.map_map];rfl
theorem cu.Gv(B:cu p seed d K H w n):j9 (dR p seed (fg p))=n:=by rw[B.RO,qy,qw,zt,bw,qw,zt,B.n];omega
theorem cu.IM(B:cu p seed d K H w n):aT n (dR p seed (fg p)):=by
 have:=jL p seed (fg p)
 rwa [B.pQ]at this
theorem cu.NU(B:cu p seed d K H w n):ca (dR p seed (fg p))=n:=by have h:=B.full;rw[eI,B.may,B.cZ,nC]at h;simp at h;exact Int.ofNat.inj h
theorem Gw(K H w:Nat)(d:Row):j9 (jZ K H w d)=K+H:=by simp[jZ];omega
theorem uS(c:j9 d=K*w):aT w (jZ K H w d):=λr b=>by
 rcases qA.1 b with h|h
 ·rw[(List.mem_replicate.1 h).2];simp[aK]
 ·obtain⟨i,a,rfl⟩:=qo.1 h;rw[qD]at a;exact afC (by rw[c];exact zo w a)
theorem ZP{i:Nat}(a:i<H):aC (jZ K H w d) i=aK w:=by rw[aC,jZ,qe,qp l7];simp[a]
theorem XI{i:Nat}(a:i<K):aC (jZ K H w d) (H+i)=Gc d w i:=by rw[aC,jZ,qe,qj k9];simp[a]
theorem cu.ET(B:cu p seed d K H w n):dn p seed d=gc n (dR p seed (fg p)) (jZ K H w d):=by rw[dn,B.pQ,B.k,B.h,B.s];rfl
theorem cu.lens(B:cu p seed d K H w n):j9 (dR p seed (fg p))=j9 (jZ K H w d):=by rw[B.Gv,Gw,B.n]
theorem cu.oc(B:cu p seed d K H w n):j9 (dn p seed d)=n/\aT w (dn p seed d):=by rw[B.ET];exact xz B.lens B.IM (uS B.len) B.NU
theorem cu.fE(B:cu p seed d K H w n):fE n w (dR p seed (fg p)) (jZ K H w d) (dn p seed d):=by rw[B.ET];exact pO B.lens B.IM (uS B.len) B.NU (UJ B.lens B.IM (uS B.len) B.Gv)
theorem cu.agW(B:cu p seed d K H w n){i:Nat}(a:i<H):aC (dR p seed (fg p)) i=mf K H i:=by rw[B.RO,aC,qe,qp (by simpa[bw]using a)];simp[bw,a]
theorem cu.afL(B:cu p seed d K H w n){i:Nat}(a:i<K):aC (dR p seed (fg p)) (H+i)=oH n seed (i:Int):=by rw[B.RO,aC,qe,qj (by simp[bw])];simp[bw,a]
theorem cu.low(B:cu p seed d K H w n){i:Nat}(a:i<H):sl w (mf K H i) (dn p seed d) n=aK w:=by
 have:=B.fE.2.2 i (by rw[B.Gv,B.n];omega)
 rwa [B.agW a,ZP a]at this
theorem cu.high(B:cu p seed d K H w n){i:Nat}(a:i<K):sl w (oH n seed (i:Int)) (dn p seed d) n=Gc d w i:=by
 have:=B.fE.2.2 (H+i) (by rw[B.Gv,B.n];omega)
 rwa [B.afL a,XI a]at this
theorem cu.n1(B:cu p seed d K H w n):1<=n:=by have:=B.n;have:=B.k1;omega
theorem cu.n2(B:cu p seed d K H w n):n<=20:=by have:=B.n;have:=B.k2;have:=B.h2;omega
theorem cu.sym(B:cu p seed d K H w n)(id:Int):fS w (dn p seed d) (dt n seed id)=sl w (oH n seed id) (dn p seed d) n:=
 afK B.oc.2 B.oc.1 (λ_ a=>nc B.n1 B.n2 a) (DT B.n1 B.n2 seed id)
theorem cu.acY(B:cu p seed d K H w n){i:Nat}(a:i<K):fS w (dn p seed d) (dt n seed (i:Int))=Gc d w i:=by rw[B.sym,B.high a]
theorem cu.ZQ(B:cu p seed d K H w n)(id:Int):j9 (fS w (dn p seed d) (dt n seed id))=w:=
 WE B.oc.2 B.oc.1 λ_ a=>nc B.n1 B.n2 a
end
end Wl
namespace Go.Vc
open Go
theorem UM{α:Type}{c k:Nat}{f:α->ba}:∀{rs:List Sl} {ll:List (List α)} (b:List Sl) (a:List (List α)),j9 rs=j9 ll->bA c k f (rs++b) (ll++a)=bA c k f rs ll++bA c k f b a:=by intro rs ll b a h;unfold bA;exact yx h
theorem aa.acZ{B:aB}{a h:hZ}{X:HP}:∀{L M:List HP},aa B a h (L++X::M)->aa B a h (L++M):=λ{L M} H=>by
 have:=H.del L.length
 rwa [List.eraseIdx_append_of_length_le (ql _),zc,List.eraseIdx_cons_zero]at this
section
variable {α:Type} {C:Ctx} {B:aB} {h0 h h':hZ} {As:List HP} {e e2 k t t2 by_:Nat} {s s2:Sl} {f:α->ba} {ll l2:List (List α)}
theorem aa.afM(D:C.Ok)(H:aa B h0 h (dh e s e2 k f ll::dh e s2 e2 k f l2::As))(y:ce C.toCG t e 1 [.slice eH 0 0] 24)(A:∃i e2,C.T.get t2=dB i/\i.df=.slice e2)(F:j9 ll+j9 l2<=2^32){ty:Nat}{K:Sl->hZ->Prop}
  (E:∀d h',aa B h0 h' (dh e d e2 k f (ll++l2)::As)->K d h'):
  aA C.P (qu #[t,t2] ty #[.slice s.ptr s.len s.cap,.slice s2.ptr s2.len s2.cap]) (.one (.sc .slc)) h K:=by
 obtain⟨rs,n,o⟩:=H.Iz;obtain⟨c,j⟩:∃c,c=bA e2 k f rs ll:=⟨_,rfl⟩
 rw[<-j]at o;have v:aa B h0 h (dh e s2 e2 k f l2::(As++(al e s 1 bo rs::c))):=o.front;obtain⟨a,l,q⟩:=v.Iz;obtain⟨L2,g⟩:∃L2,L2=bA e2 k f a l2:=⟨_,rfl⟩
 rw[<-g]at q;have r:=q.front;rw[qt]at r;have z:=r.front;have p:aa B h0 h (al e s 1 bo rs::(c++(al e s2 1 bo a::(L2++As)))):=by
  have x:(al e s 1 bo rs::c++(al e s2 1 bo a::L2))++As=al e s 1 bo rs::(c++(al e s2 1 bo a::(L2++As))):=k9
  rw[<-x];exact z
 have w:Seq h (λb=>b<h.size) s2 1 bo a:=p.seq (j9 c+1) (by rw[qE,qj (ql _),zc];rfl) λ_=>rfl;refine p.append D 0 k0 y A k0 k6 (λ_=>rfl) w jx k4 λd h' m=>E d h' ?_;have m:aa B h0 h' ((al e d 1 bo (rs++a)::c)++(al e s2 1 bo a::(L2++As))):=m;have G:=aa.acZ m;refine aa.Gh (rs:=rs++a) (by simp[n,l]) ?_;rw[UM a l2 n,<-j,<-g];have u:(al e d 1 bo (rs++a)::(c++L2))++As=(al e d 1 bo (rs++a)::c)++(L2++As):=k9
 rw[u];exact G
end
end Go.Vc
