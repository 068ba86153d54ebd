/- Part of the proofs that the laws of this seat answer true whatever the input reads, and leave it as it was; no condition. -/
import Derived.Test.YtdhamoojccmbdaaGreatDoorVcA
set_option linter.unusedVariables false
set_option linter.unusedSimpArgs false
open Nat renaming add_assoc -> yp, add_sub_cancel_left -> zn, add_zero -> w9, le_refl -> ql, le_trans -> q9, lt_of_lt_of_le -> qV, lt_trichotomy -> yg, min_eq_left -> w6, mod_eq_of_lt -> vb, mod_lt -> yJ, mul_le_mul -> we, mul_le_mul_right -> zr, sub_self -> zj, succ_mul -> zJ, zero_add -> zR
open Array renaming ext' -> yj, ext_getElem? -> yu, getElem?_eq_some_iff -> y0, getElem?_modify -> wv, getElem?_setIfInBounds -> wb, mapM_eq_mapM_toList -> ve, range -> vP
open List renaming all_eq_true -> qM, append_assoc -> qp, append_nil -> qQ, cons_append -> zx, drop_drop -> zy, drop_eq_getElem_cons -> qW, drop_of_length_le -> zg, eq_nil_of_length_eq_zero -> qX, ext_getElem? -> zK, flatMap_append -> zc, flatMap_cons -> zl, foldl_cons -> zD, getD_eq_getElem?_getD -> qe, getElem?_append_left -> qn, getElem?_append_right -> qj, getElem?_cons_succ -> qy, getElem?_cons_zero -> wy, getElem?_drop -> wB, getElem?_eq_getElem -> qd, getElem?_eq_none -> zf, getElem?_eq_some_iff -> qm, getElem?_map -> qP, getElem?_set -> q8, getElem?_set_ne -> z7, getElem?_set_self -> zA, getElem?_take -> vo, getElem?_toArray -> zG, getElem?_zipWith -> wO, getElem_mem -> qg, length -> y6, length_append -> qw, length_cons -> zb, length_drop -> q7, length_map -> qx, length_set -> zH, length_take -> qZ, mem_cons -> za, mem_flatMap -> zo, mem_singleton -> qH, pairwise_iff_getElem -> zd, replicate -> qh, replicate_append_replicate -> yK, replicate_succ -> yL, set_comm -> vh, set_eq_take_append_cons_drop -> yA, set_set -> vd, size_toArray -> wZ, take_append_drop -> qE, take_length -> qR, take_of_length_le -> qi, take_succ_eq_append_getElem -> zu, zipWith -> zm, zipWith_append -> yM
open Go.Value renaming int -> vX
open Go.IntKind renaming i64 -> xh, u8 -> xi, wrap -> qc
open Go.Builtin renaming append_ -> qt, copy_ -> wX, firstCells -> wA, nextslicecap -> y5, zeroCells -> yf
open Bool renaming false_eq_true -> ze, not_false -> wY, true_and -> zU
open Go.Instr renaming alloc -> qK, box -> qL, build -> vI, buildSlice -> qq, fill -> wu, makeSlice -> qD, storeAt -> qf
open Int renaming tmod_lt_of_pos -> vn, toNat_natCast -> qo
open Option renaming map_some -> qN, some -> zL
open UInt8 renaming ofNat -> yq, ofNat_toNat -> yG, toNat_lt -> wP
set_option maxRecDepth 100000
namespace Go.Vc
open Go
section
variable {A B:Prop}
theorem ak{p:Prop}[Decidable p](b:p->A)(a:¬p->B):Br (decide p) A B:=by
 by_cases h:p
 ·rw[decide_eq_true h];exact b h
 ·rw[decide_eq_false h];exact a h
theorem cw{a b:Int}(d:a=b->A)(c:a≠b->B):Br (a==b) A B:=by
 by_cases h:a=b
 ·rw[beq_iff_eq.2 h];exact d h
 ·rw[beq_eq_false_iff_ne.2 h];exact c h
theorem ci{a b:Int}(d:a≠b->A)(c:a=b->B):Br (a !=b) A B:=by
 by_cases h:a=b
 ·rw[show(a !=b)=false by simp[h]];exact c h
 ·rw[show(a !=b)=true by simp[h]];exact d h
theorem bs{b:Bool}(c:b=true->A)(a:b=false->B):Br b A B:=by
 cases b
 ·exact a rfl
 ·exact c rfl
theorem bi{b:Bool}(c:b=false->A)(a:b=true->B):Br (!b) A B:=by
 cases b
 ·exact c rfl
 ·exact a rfl
theorem NV{b:Bool}(h:b=true)(a:A):Br b A B:=by subst h;exact a
theorem DO{b:Bool}(h:b=false)(a:B):Br b A B:=by subst h;exact a
end
theorem aX{σ:Type}{rest:σ->Heap->Prop}{B:(σ->Heap->Prop)->Prop}(h:B rest):bf rest B:=⟨rest,fun _ _ x=>x,h⟩
theorem co{σ:Type}{rest:σ->Heap->Prop}{B:(σ->Heap->Prop)->Prop}(R:σ->Heap->Prop)(a:B R)(b:∀s h,R s h->rest s h):bf rest B:=⟨R,b,a⟩
theorem aw{σ:Type}{B:σ->(σ->Heap->Prop)->Heap->Prop}{s:σ}{h:Heap}{τ:Type}(V:τ->σ)(I:τ->Heap->Prop)(μ:τ->Nat)(t0:τ)(c:s=V t0)(b:I t0 h)
  (d:∀t h,I t h->B (V t) (fun e h'=>∃a,e=V a/\I a h'/\μ a<μ t) h):aM B s h:=⟨τ,V,I,μ,t0,c,b,d⟩
abbrev aA:=Nat->Prop
def aU(p:aA)(h h':Heap):Prop:=h.size<=h'.size/\∀b,b<h.size->p b->h'[b]?=h[b]?
def Sl.on(s:Sl)(b:Nat):Prop:=∃o,s.ptr=some ⟨b,o,none⟩
section
variable {p q:aA} {h h' h'':Heap}
theorem aU.refl(p:aA)(h:Heap):aU p h h:=⟨ql _,fun _ _ _=>rfl⟩
theorem aU.trans(a:aU p h h')(b:aU p h' h''):aU p h h'':=⟨q9 a.1 b.1,fun k c d=>(b.2 k (qV c a.1) d).trans (a.2 k c d)⟩
theorem aU.then(a:aU p h h')(b:aU q h' h'')(e:∀k,k<h.size->p k->q k):aU p h h'':=⟨q9 a.1 b.1,fun k c d=>(b.2 k (qV c a.1) (e k c d)).trans (a.2 k c d)⟩
theorem aU.mono(a:aU p h h')(d:∀b,b<h.size->q b->p b):aU q h h':=⟨a.1,fun k c e=>a.2 k c (d k c e)⟩
theorem aU.push(p:aA)(h:Heap)(o:Obj):aU p h (h.push o):=⟨by simp,fun b a _=>by rw[Array.getElem?_push,if_neg (by omega)]⟩
theorem uA{a:Addr}{v:Value}(b:cellOf h a=some v):a.block<h.size:=by
 unfold cellOf at b;cases hb:h[a.block]? with
 |none=>rw[hb]at b;cases b
 |some o=>exact(y0.1 hb).1
theorem lt_of_block{b:Nat}{o:Obj}(a:h[b]?=some o):b<h.size:=(y0.1 a).1
theorem aU.cell(a:aU p h h'){x:Addr}{v:Value}(c:p x.block)(b:cellOf h x=some v):cellOf h' x=some v:=by
 have:=a.2 _ (uA b) c;unfold cellOf at*;rw[this];exact b
theorem aU.block(a:aU p h h'){b:Nat}{o:Obj}(d:p b)(c:h[b]?=some o):h'[b]?=some o:=by rw[a.2 b (lt_of_block c) d];exact c
theorem aU.cells(a:aU p h h'){x:Addr}(b:p x.block):∀{vs:List Value} {i:Nat},aj h x i vs->aj h' x i vs
 |[],_,_=>trivial
 |v::r,i,hc=>⟨a.cell (by unfold Addr.add;split<;>exact b) hc.1,aU.cells a b hc.2⟩
end
theorem add_eq(b o n:Nat):(⟨b,o,none⟩:Addr).add n=⟨b,o+n,none⟩:=by
 unfold Addr.add;split
 ·rename_i h;subst h;rfl
 ·rfl
theorem add_zero(a:Addr):a.add 0=a:=rfl
theorem DP{h:Heap}{b o:Nat}{c:Array Value}{e:TypeId}{f:Nat×Nat}(a:h[b]?=some (.cells c e f)):cellOf h ⟨b,o,none⟩=c[o]?:=by
 unfold cellOf;rw[a];rfl
theorem acS{h:Heap}{b o:Nat}{c:Array Value}{e:TypeId}(a:h[b]?=some (.cells c e (0,0))):XK h ⟨b,o,none⟩=false:=by
 unfold XK;rw[a];simp
structure Seq {α:Type} (h:Heap) (p:aA) (s:Sl) (k:Nat) (f:α->List Value) (l:List α):Prop where
 len:s.len=l.length
 elem:∀i x,l[i]?=some x->∃b o,s.ptr=some ⟨b,o,none⟩/\p b/\aj h ⟨b,o+i*k,none⟩ 0 (f x)
section
variable {α:Type} {h h':Heap} {p q:aA} {s:Sl} {k:Nat} {f:α->List Value} {l:List α}
theorem Seq.ai(c:Seq h p s k f l)(e:aU p h h'):Seq h' p s k f l:=⟨c.len,fun i x d=>by
 obtain⟨b,o,g,a,h3⟩:=c.elem i x d;exact⟨b,o,g,a,e.cells a h3⟩⟩
theorem Seq.mono(a:Seq h p s k f l)(d:∀b,p b->q b):Seq h q s k f l:=⟨a.len,fun i x c=>by
 obtain⟨b,o,g,e,h3⟩:=a.elem i x c;exact⟨b,o,g,d b e,h3⟩⟩
theorem Seq.nil(h:Heap)(p:aA)(c:Nat)(a:Option Addr)(k:Nat)(f:α->List Value):Seq h p ⟨a,0,c⟩ k f []:=⟨rfl,fun i x b=>by simp at b⟩
theorem Seq.bz{X:Type}{g:X->Value}(c:Seq h p s 1 f l){i:Int}(n:Nat)(d:i=n)(m:n<l.length)(x:X)(j:f l[n]=[g x]){K:X->Prop}(e:K x):
  ∃a:Addr,(s.ptr=some a/\0<=i/\i<((s.len:Nat):Int))/\∃x:X,cellOf h (a.add (i.toNat*1))=some (g x)/\K x:=by
 subst d;obtain⟨b,o,k,_,h3⟩:=c.elem n l[n] (qd m);refine⟨_,⟨k,by omega,by rw[c.len];omega⟩,x,?_,e⟩;rw[j]at h3;have:=h3.1;rw[add_eq,w9]at this;rw[add_eq];simpa using this
theorem Seq.dI{X:Type}{g:X->List Value}(c:Seq h p s k f l){i:Int}(n:Nat)(d:i=n)(q:n<l.length)(x:X)(j:f l[n]=g x){K:X->Prop}(e:K x):
  ∃a:Addr,(s.ptr=some a/\0<=i/\i<((s.len:Nat):Int))/\∃x:X,aj h (a.add (i.toNat*k)) 0 (g x)/\K x:=by
 subst d;obtain⟨b,o,m,_,h3⟩:=c.elem n l[n] (qd q);refine⟨_,⟨m,by omega,by rw[c.len];omega⟩,x,?_,e⟩;rw[add_eq];rw[j]at h3;simpa using h3
end
def aD(n:Int):List Value:=[vX xh n]
def aB(n:UInt8):List Value:=[vX xi n.toNat]
def ey(b:Bool):List Value:=[.bool b]
def bQ(s:Sl):List Value:=[.slice s.ptr s.len s.cap]
structure gO {α:Type} (h:Heap) (p:aA) (s:Sl) (k:Nat) (f:α->List Value) (ll:List (List α)) (rs:List Sl):Prop where
 top:Seq h p s 1 bQ rs
 len:rs.length=ll.length
 row:∀(i:Nat) (r:Sl) (l:List α),rs[i]?=some r->ll[i]?=some l->Seq h p r k f l
section
variable {α:Type} {h h':Heap} {p q:aA} {s:Sl} {k:Nat} {f:α->List Value} {ll:List (List α)} {rs:List Sl}
theorem gO.ai(a:gO h p s k f ll rs)(b:aU p h h'):gO h' p s k f ll rs:=⟨a.top.ai b,a.len,fun i r l d c=>(a.row i r l d c).ai b⟩
theorem gO.mono(a:gO h p s k f ll rs)(c:∀b,p b->q b):gO h q s k f ll rs:=⟨a.top.mono c,a.len,fun i r l e d=>(a.row i r l e d).mono c⟩
theorem gO.Sr(a:gO h p s k f ll rs):s.len=ll.length:=by rw[a.top.len,a.len]
theorem gO.get(c:gO h p s k f ll rs){i:Int}(n:Nat)(g:i=n)(e:n<ll.length){K:Sl->Prop}(j:∀r,Seq h p r k f ll[n]->rs[n]?=some r->K r):
  ∃a:Addr,(s.ptr=some a/\0<=i/\i<((s.len:Nat):Int))/\∃x:Sl,cellOf h (a.add (i.toNat*1))=some (.slice x.ptr x.len x.cap)/\K x:=by
 have b:n<rs.length:=by rw[c.len];exact e
 have d:rs[n]?=some rs[n]:=qd b;exact c.top.bz n g b rs[n] rfl (j _ (c.row n _ _ d (qd e)) d)
end
structure Own {α:Type} (h:Heap) (e:TypeId) (s:Sl) (k:Nat) (f:α->List Value) (l:List α):Prop where
 len:s.len=l.length
 head:(s.ptr=none/\s.cap=0/\l=[])∨∃b rest,s.ptr=some ⟨b,0,none⟩/\h[b]?=some (.cells (l.flatMap f++rest).toArray e (0,0))/\rest.length=(s.cap-s.len)*k/\s.len<=s.cap
theorem dg{α:Type}{k:Nat}{f:α->List Value}(a:∀x,(f x).length=k):∀(l:List α),(l.flatMap f).length=l.length*k
 |[]=>by simp
 |x::r=>by rw[zl,qw,a,dg a r,zb,zJ];omega
theorem Kh{α:Type}{k:Nat}{f:α->List Value}(a:∀x,(f x).length=k):∀(l:List α) (i:Nat) (x:α),l[i]?=some x->∃pre post,l.flatMap f=pre++f x++post/\pre.length=i*k
 |y::r,0,x,h=>by simp at h;subst h;exact⟨[],r.flatMap f,by simp,by simp⟩
 |y::r,i+1,x,h=>by
  obtain⟨pre,post,c,b⟩:=Kh a r i x (by simpa using h);exact⟨f y++pre,post,by simp[c],by rw[qw,a,b,zJ];omega⟩
theorem BI{h:Heap}{b o:Nat}{e:TypeId}{fr:Nat×Nat}:∀{vs pre post:List Value} {i:Nat},h[b]?=some (.cells (pre++vs++post).toArray e fr)->pre.length=o+i->aj h ⟨b,o,none⟩ i vs
 |[],_,_,_,_,_=>trivial
 |v::r,pre,post,i,hb,hl=>by
  refine⟨?_,BI (pre:=pre++[v]) (post:=post) (by simpa using hb) (by simp;omega)⟩;rw[add_eq,DP hb,<-hl];simp
def iG(h:Heap)(b:Nat)(o:Obj):Heap:=h.setIfInBounds b o
theorem hJ{h:Heap}{b c:Nat}{o x:Obj}(a:h[b]?=some x):(iG h b o)[c]?=if b=c then some o else h[c]?:=by
 unfold iG;rw[wb];split
 ·rename_i e;subst e;rw[if_pos (lt_of_block a)]
 ·rfl
theorem aaf{h:Heap}{b o:Nat}{c:Array Value}{e:TypeId}{f:Nat×Nat}{v:Value}(a:h[b]?=some (.cells c e f)):XL h ⟨b,o,none⟩ v=iG h b (.cells (c.setIfInBounds o v) e f):=by
 apply yu;intro i;rw[hJ a];simp only[XL,wv];split
 ·rename_i d;subst d;rw[a];rfl
 ·rfl
theorem aag(h:Heap)(b:Nat)(o a:Obj):iG (iG h b o) b a=iG h b a:=by
 unfold iG;simp
theorem aU.iG{p:aA}{h:Heap}{b:Nat}{o x:Obj}(d:h[b]?=some x)(f:¬p b):aU p h (iG h b o):=⟨by simp[Go.Vc.iG],fun c _ a=>by
 rw[hJ d,if_neg (fun e=>f (by rw[e];exact a))]⟩
theorem eP{P:Program}{b o:Nat}{e:TypeId}{K:Unit->Heap->Prop}:∀{vs pre old post:List Value} {i:Nat} {h:Heap},h[b]?=some (.cells (pre++old++post).toArray e (0,0))->old.length=vs.length->pre.length=o+i->
  (∀v∈vs,v.oneCell'=true)->K () (iG h b (.cells (pre++vs++post).toArray e (0,0)))->ac P (storeCells ⟨b,o,none⟩ vs i) h K
 |[],pre,old,post,i,h,hb,hl,hp,hv,hk=>by
  have:old=[]:=qX (by simpa using hl);subst this;refine ac.pure' ?_;have f:iG h b (.cells (pre++[]++post).toArray e (0,0))=h:=by
   apply yu;intro c;rw[hJ hb];split
   ·rename_i d;subst d;exact hb.symm
   ·rfl
  rw[f]at hk;exact hk
 |v::r,pre,old,post,i,h,hb,hl,hp,hv,hk=>by
  cases old with
  |nil=>simp at hl
  |cons u old=>
   simp only[storeCells];refine ac.bind ?_;rw[add_eq];have d:cellOf h ⟨b,o+i,none⟩=some u:=by rw[DP hb,<-hp];simp
   refine ac.agp (hv v (by simp)) d (acS hb) ?_;rw[aaf hb];have a:(pre++(u::old)++post).toArray.setIfInBounds (o+i) v=((pre++[v])++old++post).toArray:=by
    rw[<-hp];apply yj;simp
   rw[a];refine eP (e:=e) (pre:=pre++[v]) (old:=old) (post:=post) ?_ (by simpa using hl) (by simp;omega) (fun x g=>hv x (by simp[g])) ?_
   ·rw[hJ hb,if_pos rfl]
   ·rw[aag];simpa using hk
theorem NW{P:Program}{h:Heap}{a:Addr}{vs:List Value}{n:Nat}{K:Array Value->Heap->Prop}(e:vs.length=n)(d:aj h a 0 vs)(c:K vs.toArray h):ac P (loadCells a n) h K:=fun w b=>by
 subst b;refine⟨vs.toArray,w,?_,cQ.refl w,c⟩;have:=run_loadCells (P:=P) (w:=w) (a:=a) vs 0 #[] d;rw[e]at this;unfold loadCells;rw[this];simp
section
variable {α:Type} {h h':Heap} {p:aA} {e:TypeId} {s:Sl} {k:Nat} {f:α->List Value} {l:List α}
theorem Own.lt(c:Own h e s k f l){b:Nat}(a:s.on b):b<h.size:=by
 rcases c.head with⟨h1,_,_⟩|⟨b',rest,h1,h2,_,_⟩
 ·obtain⟨o,h0⟩:=a;rw[h1]at h0;cases h0
 ·obtain⟨o,h0⟩:=a;rw[h1]at h0;cases h0;exact lt_of_block h2
theorem Own.ai(c:Own h e s k f l)(d:aU p h h')(a:∀b,s.on b->p b):Own h' e s k f l:=⟨c.len,by
 rcases c.head with h1|⟨b,rest,h1,h2,h3,h4⟩
 ·exact .inl h1
 ·exact .inr ⟨b,rest,h1,d.block (a b ⟨0,h1⟩) h2,h3,h4⟩⟩
theorem Own.seq(d:Own h e s k f l)(g:∀x,(f x).length=k)(a:∀b,s.on b->p b):Seq h p s k f l:=⟨d.len,fun i x c=>by
 rcases d.head with⟨_,_,h1⟩|⟨b,rest,h1,h2,h3,h4⟩
 ·subst h1;simp at c
 ·obtain⟨pre,post,j,m⟩:=Kh g l i x c;refine⟨b,0,h1,a b ⟨0,h1⟩,BI (e:=e) (fr:=(0,0)) (pre:=pre) (post:=post++rest) ?_ (by omega)⟩;rw[h2,j];simp⟩
theorem Own.nil(h:Heap)(e:TypeId)(k:Nat)(f:α->List Value):Own h e ⟨none,0,0⟩ k f []:=⟨rfl,.inl ⟨rfl,rfl,rfl⟩⟩
theorem Own.cap(a:Own h e s k f l):s.len<=s.cap:=by
 rcases a.head with⟨h1,h2,h3⟩|⟨b,rest,h1,h2,h3,h4⟩
 ·have:=a.len;rw[h3]at this;simp at this;omega
 ·exact h4
end
theorem ac.always{α:Type}{P:Program}{s:Sem α}{v:α}{h:Heap}{K:α->Heap->Prop}(b:aI P s v)(c:K v h):ac P s h K:=fun w a=>⟨v,w,b w,cQ.refl w,by rw[a];exact c⟩
structure bN (C:CB) (t e k:Nat) (z:List Value) (by_:Nat):Prop where
 ex:∃i j,C.T.get t=some i/\i.cG=.slice e/\C.T.get e=some j/\j.size=k/\j.zero=z/\j.bytes=by_
section
variable {C:Ctx} {t e k:Nat} {z:List Value} {by_:Nat}
theorem bN.under(d:bN C.toCB t e k z by_)(a:C.Ok):C.P.underlying t=some (.slice e):=by
 obtain⟨i,j,c,b,_⟩:=d.ex;have:=a.cG c;rw[b]at this;exact jd this
theorem bN.size(d:bN C.toCB t e k z by_)(a:C.Ok):aI C.P (sizeOf e) k:=by
 obtain⟨i,j,_,_,c,b,_⟩:=d.ex;rw[<-b];exact dH a.toOk c
theorem bN.info(c:bN C.toCB t e k z by_)(d:C.Ok):∃f,C.P.info? e=some f/\f.size=k/\f.bytes=by_/\∃a,f.zero=some a/\a.cells=z.toArray:=by
 obtain⟨i,j,_,_,m,l,h3,h⟩:=c.ex;obtain⟨f,b,n,o,a,g,p⟩:=d.info m;exact⟨f,b,n.trans l,o.trans h,a,g,by apply yj;rw[p,h3]⟩
end
def ir(z:List Value):Nat->List Value
 |0=>[]
 |n+1=>z++ir z n
theorem ow(z:List Value):∀n,(ir z n).length=n*z.length
 |0=>by simp[ir]
 |n+1=>by rw[ir,qw,ow z n,zJ];omega
theorem Ss(z:List Value):∀(n i:Nat),i<n*z.length->(ir z n)[i]?=z[i%z.length]?
 |0,i,h=>by simp at h
 |n+1,i,h=>by
  have a:0<z.length:=Nat.pos_of_ne_zero fun e=>by rw[e]at h;simp at h
  rw[ir];by_cases b:i<z.length
  ·rw[qn b,vb b]
  ·rw[qj (by omega),Ss z n (i-z.length) (by rw[zJ]at h;omega)];congr 1
   conv=>rhs;rw[show i=(i-z.length)+z.length by omega,Nat.add_mod_right]
theorem Su(z:List Value)(n m:Nat)(c:m=n*z.length):((vP m).map (fun i=>z.toArray[i%z.toArray.size]!))=(ir z n).toArray:=by
 apply yu;intro i;subst c;simp only[Array.getElem?_map,Array.getElem?_range,zG];by_cases b:i<n*z.length
 ·rw[Ss z n i b];have a:0<z.length:=Nat.pos_of_ne_zero fun e=>by rw[e]at b;simp at b
  have:=yJ i a;simp[b,this]
 ·rw[zf (by rw[ow];omega)];simp[b]
theorem Gr(z:List Value)(n:Nat):yf z.toArray n=(ir z n).toArray:=Su z n _ (by simp)
theorem Xb(a:Nat):∀(r c:Nat),Builtin.growBy a r c<=(c+768)*2^r
 |0,c=>by simp[Builtin.growBy]
 |r+1,c=>by
  unfold Builtin.growBy;split
  ·exact q9 (Nat.le_add_right c 768) (Nat.le_mul_of_pos_right _ (Nat.two_pow_pos _))
  ·refine q9 (Xb a r _) ?_;rw[Nat.pow_succ,Nat.mul_comm (2^r) 2,<-Nat.mul_assoc];exact zr _ (by omega)
theorem ahF(o n:Nat)(h:o<n):(o+768)*2^4<=16*n+16*768:=by omega
theorem Xc(a b:Nat)(h:b<a):y5 a b<=16*a+16*768:=by
 unfold y5;split
 ·omega
 ·split
  ·omega
  ·exact q9 (Xb a 4 b) (ahF _ _ h)
section
variable {C:Ctx} {t t2 e k:Nat} {z:List Value} {by_:Nat} {α:Type} {h:Heap} {p:aA} {s v:Sl} {f:α->List Value} {l l2:List α}
theorem gb{P:Program}{K:Array Value->Heap->Prop}(w:∀x,(f x).length=k)(g:Seq h p v k f l)(q:K (l.flatMap f).toArray h):
  ac P (wA k v.len (.slice v.ptr v.len v.cap)) h K:=by
 cases hp:v.ptr with
 |none=>
  have:l=[]:=by
   cases l with
   |nil=>rfl
   |cons x r=>obtain⟨b,o,c,_⟩:=g.elem 0 x (by simp);rw[hp]at c;cases c
  subst this;exact ac.pure' q
 |some a=>
  refine NW (by rw[dg w,<-g.len]) ?_ q;cases l with
  |nil=>trivial
  |cons s r0=>
   obtain⟨b,o,c,_,_⟩:=g.elem 0 s (by simp);rw[hp]at c;cases c;have j:∀(r:List α) (n:Nat),(∀i x,r[i]?=some x->aj h ⟨b,o+(n+i)*k,none⟩ 0 (f x))->aj h ⟨b,o,none⟩ (n*k) (r.flatMap f):=by
    intro r
    induction r with
    |nil=>intro n _;trivial
    |cons x r ih=>
     intro n t;have h0:=t 0 x (by simp);have e:=ih (n+1) (fun i y z=>by have:=t (i+1) y (by simpa using z);rw[show n+1+i=n+(i+1)by omega];exact this);rw[zl];have app:∀(us vs:List Value) (i:Nat),aj h ⟨b,o,none⟩ i us->aj h ⟨b,o,none⟩ (i+us.length) vs->aj h ⟨b,o,none⟩ i (us++vs):=by
      intro us
      induction us with
      |nil=>intro vs i _ e;simpa using e
      |cons u us ih=>intro vs i c e;exact⟨c.1,ih vs (i+1) c.2 (by rw[show i+1+us.length=i+(us.length+1)by omega];exact e)⟩
     refine app _ _ _ ?_ (by rw[w,<-zJ];exact e);have d:∀(us:List Value) (i m:Nat),aj h ⟨b,o+m,none⟩ i us->aj h ⟨b,o,none⟩ (m+i) us:=by
      intro us
      induction us with
      |nil=>intros;trivial
      |cons u us ih=>
       intro i m c;refine⟨?_,ih (i+1) m c.2⟩;have:=c.1;rw[add_eq]at this⊢;rw[<-yp];exact this
     have:=d (f x) 0 ((n+0)*k) h0;simpa using this
   have:=j (s::r0) 0 (fun i x A=>by
    obtain⟨B,D,c,_,h3⟩:=g.elem i x A;rw[hp]at c;cases c;simpa using h3)
   simpa using this
theorem XT(A:C.Ok)(M:bN C.toCB t e k z by_)(Y:∃i e2,C.T.get t2=some i/\i.cG=.slice e2)(hz:z.length=k)(F:0<by_/\by_<=128)(m:∀x,(f x).length=k)
  (w:Own h e s k f l) (O:Seq h p v k f l2) (n:∀x,∀c∈f x,c.oneCell'=true) (ab:l.length+l2.length<=2^32) {ty:Nat} {K:Sl->Heap->Prop}
  (D:∀N h',Own h' e N k f (l++l2)->aU (fun b=>¬s.on b) h h'->(∀b,N.on b->s.on b∨h.size<=b)->K N h'):
  av C.P (qt #[t,t2] ty #[.slice s.ptr s.len s.cap,.slice v.ptr v.len v.cap]) (.one (.sc .slc)) h K:=by
 obtain⟨i2,e2,X,g2⟩:=Y;have H:C.P.underlying t2=some (.slice e2):=by have:=A.cG X;rw[g2]at this;exact jd this
 obtain⟨I,y,x2,x3,V,x4,x5⟩:=M.info A;unfold av qt;simp only[zG,wy,qy];refine ac.bind (ac.always (aG (M.under A)) ?_);refine ac.bind (ac.always (M.size A) ?_);refine ac.bind (ac.always (aG H) ?_);refine ac.bind (ac.pure' ?_);simp only[ze,if_false,wY,if_true];refine ac.bind (ac.pure' ?_);have r:=w.len;have J:=O.len;by_cases g:s.len+v.len<=s.cap
 ·rw[if_pos g];refine ac.bind (gb m O ?_);rcases w.head with⟨p1,p2,p3⟩|⟨b,rest,p1,p2,p3,p4⟩
  ·rw[p1];have B:l2=[]:=qX (by omega);subst B;refine ac.pure' ⟨⟨none,s.len+v.len,s.cap⟩,rfl,D _ _ ⟨?_,.inl ⟨rfl,p2,by simp[p3]⟩⟩ (aU.refl _ _) ?_⟩
   ·simp;omega
   ·rintro S ⟨o,d⟩;cases d
  ·rw[p1];refine ac.bind ?_;rw[add_eq,zR];have j:=dg m l;have a:=dg m l2;have L:(l2.flatMap f).length<=rest.length:=by
    rw[a,p3];exact zr k (by omega)
   refine eP (e:=e) (pre:=l.flatMap f) (old:=rest.take (l2.flatMap f).length) (post:=rest.drop (l2.flatMap f).length) ?_ ?_ ?_ ?_ ?_
   ·rw[qp,qE];exact p2
   ·rw[qZ];exact w6 L
   ·rw[j,r];omega
   ·intro c Z;obtain⟨x,_,G⟩:=zo.1 Z;exact n x c G
   ·refine ac.pure' ⟨⟨some ⟨b,0,none⟩,s.len+v.len,s.cap⟩,rfl,D _ _ ⟨?_,.inr ⟨b,rest.drop (l2.flatMap f).length,rfl,?_,?_,g⟩⟩ ?_ ?_⟩
    ·simp;omega
    ·rw[hJ p2,if_pos rfl];simp
    ·rw[q7,p3,a,<-Nat.sub_mul];show(s.cap-s.len-l2.length)*k=(s.cap-(s.len+v.len))*k;congr 1;omega
    ·exact aU.iG p2 (fun hn=>hn ⟨0,p1⟩)
    ·rintro S ⟨o,d⟩;cases d;exact .inl ⟨0,p1⟩
 ·rw[if_neg g];have q:Seq h (fun _=>True) s k f l:=w.seq m (fun _ _=>trivial);have R:=w.cap;refine ac.bind (ac.always (cK y) ?_);rw[if_neg (fun hh=>by rcases hh.2 with h|h<;>first|exact h|(rw[x3]at h;omega))];refine ac.bind (ac.always (cK y) ?_);have U:=Xc (s.len+v.len) s.cap (by omega);rw[if_neg (by
   have:y5 (s.len+v.len) s.cap*I.bytes<=(16*2^32+16*768)*128:=we (by omega) (by rw[x3];exact F.2);omega)]
  refine ac.bind (ac.NR ⟨fun W=>(by cases W),fun _ nn=>?_⟩);refine ac.bind (ac.always (cK y) ?_);refine ac.bind (ac.Kd ?_);refine ac.bind (gb m q ?_);refine ac.bind (gb m O ?_);have E:aI C.P (zeroValue e) V:=(cK y).bind (by rw[x4];exact .pure);refine ac.bind (ac.always E ?_);rw[x5,Gr];unfold newRow;refine ac.bind (ac.bind (ac.oG (ac.pure' (ac.pure' ?_))));generalize Q:Question.cut (Question.appendCap (s.len+v.len) s.cap e) nn=cc;have u:s.len+v.len<=cc:=by rw[<-Q];simp only[Question.cut];omega
  refine⟨⟨some ⟨h.size,0,none⟩,s.len+v.len,cc⟩,rfl,D _ _ ⟨?_,.inr ⟨h.size,ir z (cc-(s.len+v.len)),rfl,?_,?_,u⟩⟩ (aU.push _ _ _) ?_⟩
  ·simp;omega
  ·simp
  ·rw[ow,hz]
  ·rintro S ⟨o,d⟩;cases d;exact .inr (ql _)
end
structure cy (h:Heap) (a:Addr) (e:TypeId) (cs:List Value):Prop where
 off:a.off=0
 spot:a.spot=none
 fp:h[a.block]?=some (.cells cs.toArray e (0,0))
section
variable {h h':Heap} {a:Addr} {e:TypeId} {cs:List Value} {p:aA}
theorem cy.addr(c:cy h a e cs):a=⟨a.block,0,none⟩:=by
 obtain⟨b,o,s⟩:=a;have:=c.off;have:=c.spot
 simp_all
theorem cy.ai(b:cy h a e cs)(d:aU p h h')(c:p a.block):cy h' a e cs:=⟨b.off,b.spot,d.block c b.fp⟩
theorem cy.lt(b:cy h a e cs):a.block<h.size:=lt_of_block b.fp
theorem cy.cell(b:cy h a e cs){j:Nat}{v:Value}(c:cs[j]?=some v):cellOf h (a.add j)=some v:=by
 rw[b.addr,add_eq,DP b.fp];simpa using c
theorem cy.cell0(c:cy h a e cs){v:Value}(b:cs[0]?=some v):cellOf h a=some v:=c.cell (j:=0) b
theorem cy.cells(c:cy h a e cs)(j:Nat)(vs:List Value)(d:(cs.drop j).take vs.length=vs):aj h (a.add j) 0 vs:=by
 rw[c.addr,add_eq,zR];have b:vs.length<=(cs.drop j).length:=by
  have:=congrArg y6 d;rw[qZ]at this;omega
 rcases Nat.lt_or_ge cs.length j with hj|hj
 ·rw[q7]at b;have:vs=[]:=qX (by omega);subst this;trivial
 ·refine BI (e:=e) (fr:=(0,0)) (pre:=cs.take j) (post:=(cs.drop j).drop vs.length) ?_ (by simp;omega);have:cs.take j++vs++(cs.drop j).drop vs.length=cs:=by
   conv=>lhs;rw[qp];arg 2;arg 1;rw[<-d]
   rw[qE,qE]
  rw[this];exact c.fp
theorem cy.aO(c:cy h a e cs)(vs:List Value)(b:cs.take vs.length=vs):aj h a 0 vs:=c.cells 0 vs b
end
section
variable {C:Ctx} {t:Nat} {i:TI} {h:Heap}
theorem AT(f:C.Ok)(d:C.T.get t=some i){K:Addr->Heap->Prop}(e:∀a h',a.block=h.size->cy h' a t i.zero->aU (fun _=>True) h h'->h'.size=h.size+1->K a h'):
  aQ C.P (qK t true (.tuple #[])) h K:=by
 obtain⟨z,c,b⟩:=sF f.toOk d;unfold aQ qK;refine ac.bind (ac.always c ?_);refine ac.bind (ac.bind (ac.bind (ac.oG (ac.pure' (ac.pure' (ac.pure' ?_))))));refine⟨⟨h.size,0,none⟩,rfl,e _ _ rfl ⟨rfl,rfl,?_⟩ (aU.push _ _ _) (by simp)⟩;rw[<-b];simp
theorem Xd{v:Value}{P:Program}{K:Addr->Heap->Prop}(b:∀a h',a.block=h.size->cy h' a t v.cells.toList->aU (fun _=>True) h h'->h'.size=h.size+1->K a h'):
  aQ P (qL t v) h K:=by
 unfold aQ qL;refine ac.bind (ac.bind (ac.bind (ac.oG (ac.pure' (ac.pure' (ac.pure' ?_))))));refine⟨⟨h.size,0,none⟩,rfl,b _ _ rfl ⟨rfl,rfl,?_⟩ (aU.push _ _ _) (by simp)⟩;simp
theorem run_store(m:C.Ok){a:Addr}{e:TypeId}{b:List Value}(c:cy h a e b)(j:C.T.get t=some i)(off:Nat){v:Value}(vs:List Value)(o:v.cells=vs.toArray)(f:i.size=vs.length)
  (d:vs.all (·.oneCell')=true) (g:off+vs.length<=b.length) {K:Unit->Heap->Prop}
  (k:∀h',cy h' a e (b.take off++vs++b.drop (off+vs.length))->aU (·≠a.block) h h'->h'.size=h.size->K () h'):
  ac C.P (qf t (.pointer (some (a.add off))) v) h K:=by
 have l:=c.addr;unfold qf;refine ac.bind (ac.pure' ?_);unfold storeVar;refine ac.bind (ac.always (dH m.toOk j) ?_);rw[o,f];simp only[wZ,ne_eq,not_true,if_false];rw[l,add_eq,zR];refine eP (e:=e) (pre:=b.take off) (old:=(b.drop off).take vs.length) (post:=b.drop (off+vs.length)) ?_ ?_ ?_ ?_ ?_
 ·have:b.take off++(b.drop off).take vs.length++b.drop (off+vs.length)=b:=by
   rw[<-zy,qp,qE,qE]
  rw[this];exact c.fp
 ·simp;omega
 ·simp;omega
 ·intro x n;have:=qM.1 d x n;exact this
 ·refine k _ ⟨c.off,c.spot,?_⟩ (aU.iG c.fp (by simp)) (by simp[iG]);rw[hJ c.fp,if_pos rfl]
theorem DQ(j:C.Ok){a:Addr}{e:TypeId}{d:List Value}(k:cy h a e d)(g:C.T.get t=some i){v:Value}(vs:List Value)(l:v.cells=vs.toArray)(c:i.size=vs.length)
  (b:vs.all (·.oneCell')=true) (f:vs.length<=d.length) {K:Unit->Heap->Prop}
  (m:∀h',cy h' a e (vs++d.drop vs.length)->aU (·≠a.block) h h'->h'.size=h.size->K () h'):
  ac C.P (qf t (.pointer (some a)) v) h K:=
 run_store j k g 0 vs l c b (by omega) (fun h' x y z=>m h' (by simpa using x) y z)
end
section
variable {C:Ctx} {t e k:Nat} {z:List Value} {by_:Nat} {α:Type} {h:Heap} {p:aA} {s v:Sl} {f:α->List Value} {l l2:List α}
theorem Gs{b:α}(a:f b=z):∀n,ir z n=(qh n b).flatMap f
 |0=>rfl
 |n+1=>by rw[ir,yL,zl,a,Gs a n]
theorem wrap_small(x:Int)(c:-9223372036854775808<=x)(b:x<=9223372036854775807):qc xh x=x:=by
 show(if(true&&decide (x%2^64>=2^63))=true then x%2^64-2^64 else x%2^64)=x;by_cases a:x%2^64>=2^63
 ·rw[if_pos (by rw[zU];exact decide_eq_true a)];omega
 ·rw[if_neg (by rw[zU];exact fun h=>a (of_decide_eq_true h))];omega
theorem run_make(y:C.Ok)(s:bN C.toCB t e k z by_)(p:0<by_/\by_<=128)(r:α)(B:f r=z)(d:z.length=k){J L:IntKind}{n c:Int}(m b:Nat)(M:n=m)(G:c=b)(u:m<=b)(w:b<=2^32)
  {K:Sl->Heap->Prop} (F:∀j h',Own h' e j k f (qh m r)->j.ptr=some ⟨h.size,0,none⟩->j.cap=b->aU (fun _=>True) h h'->h'.size=h.size+1->K j h'):
  av C.P (qD t (.int J n) (.int L c)) (.one (.sc .slc)) h K:=by
 subst M;subst G;obtain⟨q,A,x2,x3,D,N,I⟩:=s.info y;unfold av qD;refine ac.bind (ac.always (aG (s.under y)) ?_);refine ac.bind (ac.pure' ?_);refine ac.bind (ac.pure' ?_);refine ac.bind (ac.always (cK A) ?_);have E:qc xh (m:Int)=m:=wrap_small _ (by omega) (by omega);have H:qc xh (b:Int)=b:=wrap_small _ (by omega) (by omega);have O:¬((q.bytes:Int)*(b:Int)>2^48):=by
  rw[x3];have:by_*b<=128*2^32:=we p.2 w;have:((by_:Int)*(b:Int))<=((128*2^32:Nat):Int):=by exact_mod_cast this
  omega
 simp only[E,H];rw[if_neg (by simp;omega)];refine ac.bind (ac.Kd ?_);refine ac.bind (ac.always (s.size y) ?_);have l:aI C.P (zeroValue e) D:=(cK A).bind (by rw[N];exact .pure);have fin:∀g:Array Value,(b*k≠0->g=z.toArray)->ac C.P (do
   let a<-newRow e ((vP (b*k)).map (g[·%g.size]!))
   pure (Value.slice (some a) m b)) h (fun v h'=>∃x:(Rt.one (.sc .slc)).den,v=(Rt.one (.sc .slc)).enc x/\K x h'):=by
  intro g o;have i:((vP (b*k)).map (g[·%g.size]!))=(ir z b).toArray:=by
   by_cases h0:b*k=0
   ·rw[h0];have:ir z b=[]:=qX (by rw[ow,d,h0]);rw[this];simp
   ·rw[o h0];exact Su z b _ (by rw[d])
  rw[i];refine ac.bind (ac.bind (ac.oG (ac.pure' (ac.pure' ?_))));refine⟨⟨some ⟨h.size,0,none⟩,m,b⟩,rfl,F _ _ ⟨by simp,.inr ⟨h.size,ir z (b-m),rfl,?_,?_,u⟩⟩ rfl rfl (aU.push _ _ _) (by simp)⟩
  ·have:ir z b=(qh m r).flatMap f++ir z (b-m):=by
    rw[Gs B,Gs B,<-zc,yK];congr 2;omega
   rw[this];simp
  ·rw[ow,d]
 simp only[qo];by_cases h0:b*k=0
 ·rw[if_pos h0];exact ac.bind (ac.pure' (fin _ (fun h=>absurd h0 h)))
 ·rw[if_neg h0];refine ac.bind (ac.always l ?_);exact ac.bind (ac.pure' (fin _ (fun _=>I)))
theorem NX(q:C.Ok)(o:bN C.toCB t e k z by_)(d:z.length=k){n:Nat}{parts:Array (Nat×Value)}(l:List α)(B:l.length=n)(A:n*k<=2^20)
  (b:wu (fun i=>some (i*k,k)) (ir z n).toArray parts.toList=some (l.flatMap f).toArray) {K:Sl->Heap->Prop}
  (s:∀p h',Own h' e p k f l->p.ptr=some ⟨h.size,0,none⟩->aU (fun _=>True) h h'->h'.size=h.size+1->K p h'):
  av C.P (qq t n parts) (.one (.sc .slc)) h K:=by
 obtain⟨y,w,x2,x3,r,D,u⟩:=o.info q;unfold av qq;refine ac.bind (ac.always (aG (o.under q)) ?_);refine ac.bind (ac.always (o.size q) ?_);rw[if_neg (by omega)];have j:aI C.P (zeroValue e) r:=(cK w).bind (by rw[D];exact .pure);have fin:∀c:Array Value,(n*k≠0->c=z.toArray)->ac C.P (do
   let some cells:=wu (fun i=>some (i*k,k)) ((vP (n*k)).map (c[·%c.size]!)) parts.toList
    |stuck "buildSlice: a part of the wrong size"
   pure (Value.slice (some (<-newRow e cells)) n n)) h (fun v h'=>∃x:(Rt.one (.sc .slc)).den,v=(Rt.one (.sc .slc)).enc x/\K x h'):=by
  intro c m;have g:((vP (n*k)).map (c[·%c.size]!))=(ir z n).toArray:=by
   by_cases h0:n*k=0
   ·rw[h0];have:ir z n=[]:=qX (by rw[ow,d,h0]);rw[this];simp
   ·rw[m h0];exact Su z n _ (by rw[d])
  rw[g,b];refine ac.bind (ac.bind (ac.oG (ac.pure' (ac.pure' ?_))));refine⟨⟨some ⟨h.size,0,none⟩,n,n⟩,rfl,s _ _ ⟨B.symm,.inr ⟨h.size,[],rfl,by simp,by simp,ql _⟩⟩ rfl (aU.push _ _ _) (by simp)⟩
 by_cases h0:n*k=0
 ·rw[if_pos h0];exact ac.bind (ac.pure' (fin _ (fun h=>absurd h0 h)))
 ·rw[if_neg h0];refine ac.bind (ac.always j ?_);exact ac.bind (ac.pure' (fin _ (fun _=>u)))
theorem Own.set{i:TI}(E:C.Ok)(q:Own h e s k f l)(p:∀x,(f x).length=k)(z:C.T.get t=some i){x:Int}(n:Nat)(F:x=n)(v:n<l.length){m:Value}(y:α)(G:m.cells=(f y).toArray)(r:i.size=k)
  (j:(f y).all (·.oneCell')=true) {K:Heap->Prop} (A:∀h',Own h' e s k f (l.set n y)->aU (fun b=>¬s.on b) h h'->h'.size=h.size->K h'):
  ∃a:Addr,(s.ptr=some a/\0<=x/\x<((s.len:Nat):Int))/\ac C.P (qf t (.pointer (some (a.add (x.toNat*k)))) m) h fun _ h'=>K h':=by
 subst F;rcases q.head with⟨_,_,h3⟩|⟨b,rest,h1,h2,h3,h4⟩
 ·subst h3;simp at v
 ·refine⟨_,⟨h1,by omega,by rw[q.len];omega⟩,?_⟩;unfold qf;refine ac.bind (ac.pure' ?_);unfold storeVar;refine ac.bind (ac.always (dH E.toOk z) ?_);rw[G,r];have u:=p y;simp only[wZ,u,ne_eq,not_true,if_false];rw[add_eq,zR,qo];have d:l=l.take n++l[n]::l.drop (n+1):=by rw[<-qW v,qE]
  have o:l.set n y=l.take n++y::l.drop (n+1):=yA.trans (if_pos v);have g:((l.take n).flatMap f).length=n*k:=by rw[dg p,qZ,w6 (by omega)]
  refine eP (e:=e) (pre:=(l.take n).flatMap f) (old:=f l[n]) (post:=(l.drop (n+1)).flatMap f++rest) ?_ ?_ ?_ ?_ ?_
  ·have:l.flatMap f++rest=(l.take n).flatMap f++f l[n]++((l.drop (n+1)).flatMap f++rest):=by
    have w:=congrArg (List.flatMap f) d;rw[zc,zl]at w;rw[w];simp
   rw[<-this];exact h2
  ·rw[p,p]
  ·rw[g];omega
  ·intro c B;have:=qM.1 j c B;exact this
  ·refine A _ ⟨by rw[zH];exact q.len,.inr ⟨b,rest,h1,?_,h3,h4⟩⟩ (aU.iG h2 (fun D=>D ⟨0,h1⟩)) (by simp[iG]);rw[hJ h2,if_pos rfl,o];simp
end
def grow(c:Nat->Nat)(n i:Nat):Nat->Nat:=fun b=>if b<n then c b else i
theorem fY{c:Nat->Nat}{n i b:Nat}(h:b<n):grow c n i b=c b:=if_pos h
theorem rT{c:Nat->Nat}{n i b:Nat}(h:n<=b):grow c n i b=i:=if_neg (by omega)
structure dt {α:Type} (h:Heap) (c:Nat->Nat) (i:Nat) (e:TypeId) (s:Sl) (k:Nat) (f:α->List Value) (l:List α):Prop where
 own:Own h e s k f l
 bp:∀b,s.on b->c b=i
structure kj (h:Heap) (c:Nat->Nat) (i:Nat) (a:Addr) (e:TypeId) (cs:List Value):Prop where
 box:cy h a e cs
 bp:c a.block=i
structure mE (h0 h:Heap) (c:Nat->Nat):Prop where
 ai:aU (fun b=>b<h0.size) h0 h
 bp:∀b,b<h0.size->c b=0
section
variable {α:Type} {h h' h0:Heap} {c:Nat->Nat} {i j n m:Nat} {e:TypeId} {s:Sl} {k:Nat} {f:α->List Value} {l:List α} {a:Addr} {cs:List Value}
theorem dt.keep(d:dt h c j e s k f l)(n:aU (fun b=>c b≠i) h h')(g:j≠i):dt h' (grow c h.size m) j e s k f l:=
 ⟨d.own.ai n fun b a=>by rw[d.bp b a];exact g,fun b a=>by rw[fY (d.own.lt a)];exact d.bp b a⟩
theorem kj.keep(d:kj h c j a e cs)(g:aU (fun b=>c b≠i) h h')(f:j≠i):kj h' (grow c h.size m) j a e cs:=
 ⟨d.box.ai g (by rw[d.bp];exact f),by rw[fY d.box.lt];exact d.bp⟩
theorem mE.keep(d:mE h0 h c)(f:aU (fun b=>c b≠i) h h')(e:i≠0):mE h0 h' (grow c h.size m):=
 ⟨d.ai.then f fun b a _=>by rw[d.bp b a];exact e.symm,fun b a=>by rw[fY (qV a d.ai.1)];exact d.bp b a⟩
theorem mE.refl(h:Heap):mE h h (fun _=>0):=⟨aU.refl _ _,fun _ _=>rfl⟩
theorem dt.seq(a:dt h c j e s k f l)(d:∀x,(f x).length=k):Seq h (fun b=>c b=j) s k f l:=a.own.seq d a.bp
theorem dt.XU(a:dt h c j e s k f l)(d:∀x,(f x).length=k):Seq h (fun b=>b<h.size) s k f l:=a.own.seq d fun _ g=>a.own.lt g
theorem dt.nil(h:Heap)(c:Nat->Nat)(i:Nat)(e:TypeId)(k:Nat)(f:α->List Value):dt h c i e ⟨none,0,0⟩ k f []:=⟨Own.nil h e k f,fun b a=>by obtain⟨o,d⟩:=a;cases d⟩
theorem aU.bp(a:aU (fun _=>True) h h')(c:Nat->Nat)(i:Nat):aU (fun b=>c b≠i) h h':=a.mono fun _ _ _=>trivial
end
section
variable {α:Type} {C:Ctx} {h h' h0:Heap} {c:Nat->Nat} {i:Nat} {e t t2:Nat} {s v:Sl} {k by_:Nat} {f:α->List Value} {l l2:List α} {a:Addr} {cs z:List Value} {p:aA} {ti:TI}
theorem uB(f:C.Ok)(_:mE h0 h c)(i:Nat)(d:C.T.get t=some ti){K:Addr->Heap->Prop}(e:∀a h',kj h' (grow c h.size i) i a t ti.zero->aU (fun b=>c b≠i) h h'->K a h'):
  aQ C.P (qK t true (.tuple #[])) h K:=
 AT f d fun a h' x y z _=>e a h' ⟨y,by rw[rT (by omega)]⟩ (z.bp c i)
theorem Sv(P:Program)(_:mE h0 h c)(i:Nat){v:Value}{K:Addr->Heap->Prop}(d:∀a h',kj h' (grow c h.size i) i a t v.cells.toList->aU (fun b=>c b≠i) h h'->K a h'):
  aQ P (qL t v) h K:=
 Xd fun a h' x y z _=>d a h' ⟨y,by rw[rT (by omega)]⟩ (z.bp c i)
theorem kj.store(o:C.Ok)(g:kj h c i a e cs)(l:C.T.get t=some ti)(off:Nat){v:Value}(vs:List Value)(p:v.cells=vs.toArray)(k:ti.size=vs.length)
  (d:vs.all (·.oneCell')=true) (f:off+vs.length<=cs.length) {K:Unit->Heap->Prop}
  (m:∀h',kj h' (grow c h.size i) i a e (cs.take off++vs++cs.drop (off+vs.length))->aU (fun b=>c b≠i) h h'->K () h'):
  ac C.P (qf t (.pointer (some (a.add off))) v) h K:=
 run_store o g.box l off vs p k d f fun h' x y z=>m h' ⟨x,by rw[fY g.box.lt];exact g.bp⟩ (y.mono fun b _ j n=>j (by rw[n];exact g.bp))
theorem kj.jS(l:C.Ok)(m:kj h c i a e cs)(j:C.T.get t=some ti){v:Value}(vs:List Value)(n:v.cells=vs.toArray)(f:ti.size=vs.length)
  (d:vs.all (·.oneCell')=true) (g:vs.length<=cs.length) {K:Unit->Heap->Prop}
  (k:∀h',kj h' (grow c h.size i) i a e (vs++cs.drop vs.length)->aU (fun b=>c b≠i) h h'->K () h'):
  ac C.P (qf t (.pointer (some a)) v) h K:=
 m.store l j 0 vs n f d (by omega) (fun h' x y=>k h' (by simpa using x) y)
theorem AU(D:C.Ok)(_:mE h0 h c)(i:Nat)(f:α->List Value)(u:bN C.toCB t e k z by_)(d:0<by_/\by_<=128)(j:α)(v:f j=z)(g:z.length=k){w A:IntKind}{n q:Int}(m:Nat)(E:n=m)(s:q=m)(l:m<=2^32)
  {K:Sl->Heap->Prop} (r:∀a h',dt h' (grow c h.size i) i e a k f (qh m j)->aU (fun b=>c b≠i) h h'->K a h'):
  av C.P (qD t (.int w n) (.int A q)) (.one (.sc .slc)) h K:=
 run_make D u d j v g m m E s (ql _) l fun a h' x y _ z _=>r a h' ⟨x,fun b B=>by obtain⟨o,p⟩:=B;rw[y]at p;cases p;rw[rT (ql _)]⟩ (z.bp c i)
theorem Ki(s:C.Ok)(_:mE h0 h c)(i:Nat)(f:α->List Value)(q:bN C.toCB t e k z by_)(g:z.length=k){n:Nat}{parts:Array (Nat×Value)}(l:List α)(u:l.length=n)(j:n*k<=2^20)
  (a:wu (fun i=>some (i*k,k)) (ir z n).toArray parts.toList=some (l.flatMap f).toArray) {K:Sl->Heap->Prop}
  (p:∀d h',dt h' (grow c h.size i) i e d k f l->aU (fun b=>c b≠i) h h'->K d h'):
  av C.P (qq t n parts) (.one (.sc .slc)) h K:=
 NX s q g l u j a fun d h' x y z _=>p d h' ⟨x,fun b r=>by obtain⟨o,m⟩:=r;rw[y]at m;cases m;rw[rT (ql _)]⟩ (z.bp c i)
theorem dt.append(D:C.Ok)(d:dt h c i e s k f l)(r:bN C.toCB t e k z by_)(j:∃i e2,C.T.get t2=some i/\i.cG=.slice e2)(A:z.length=k)(m:0<by_/\by_<=128)(u:∀x,(f x).length=k)
  (E:Seq h p v k f l2) (a:∀x,∀c∈f x,c.oneCell'=true) (o:l.length+l2.length<=2^32) {ty:Nat} {K:Sl->Heap->Prop}
  (q:∀g h',dt h' (grow c h.size i) i e g k f (l++l2)->aU (fun b=>c b≠i) h h'->K g h'):
  av C.P (qt #[t,t2] ty #[.slice s.ptr s.len s.cap,.slice v.ptr v.len v.cap]) (.one (.sc .slc)) h K:=
 XT D r j A m u d.own E a o fun g h' x y w=>q g h' ⟨x,fun b B=>by
  rcases w b B with w|w
  ·rw[fY (d.own.lt w)];exact d.bp b w
  ·exact rT w⟩ (y.mono fun b _ n j=>n (d.bp b j))
theorem dt.set(A:C.Ok)(j:dt h c i e s k f l)(v:∀x,(f x).length=k)(q:C.T.get t=some ti){x:Int}(n:Nat)(B:x=n)(E:n<l.length){g:Value}(y:α)(D:g.cells=(f y).toArray)(o:ti.size=k)
  (d:(f y).all (·.oneCell')=true) {K:Heap->Prop} (r:∀h',dt h' (grow c h.size i) i e s k f (l.set n y)->aU (fun b=>c b≠i) h h'->K h'):
  ∃a:Addr,(s.ptr=some a/\0<=x/\x<((s.len:Nat):Int))/\ac C.P (qf t (.pointer (some (a.add (x.toNat*k)))) g) h fun _ h'=>K h':=
 j.own.set A v q n B E y D o d fun h' z w _=>r h' ⟨z,fun b p=>by rw[fY (j.own.lt p)];exact j.bp b p⟩ (w.mono fun b _ m u=>m (j.bp b u))
end
section
variable {α:Type} {C:Ctx} {h h' h0:Heap} {c:Nat->Nat} {i j n m:Nat} {e t:Nat} {s v:Sl} {k by_:Nat} {f:α->List Value} {l l2:List α} {z:List Value} {p:aA}
theorem grow_grow{c:Nat->Nat}{n m i:Nat}(h:n<=m):grow (grow c n i) m i=grow c n i:=by
 funext b;unfold grow;split
 ·rfl
 ·rw[if_neg (by omega)]
theorem aU.step(a:aU (fun b=>c b≠i) h h'){d:Heap}(b:aU (fun b=>grow c h.size i b≠i) h' d):aU (fun b=>c b≠i) h d:=
 a.then b fun x e f=>by rw[fY e];exact f
theorem dt.push(H:C.Ok)(w:dt h c i e s k f l)(y:bN C.toCB t e k z by_)(F:z.length=k)(o:0<by_/\by_<=128)(E:∀x,(f x).length=k)
  (j:∀x,∀c∈f x,c.oneCell'=true) (x:α) {parts:Array (Nat×Value)} (a:wu (fun i=>some (i*k,k)) (ir z 1).toArray parts.toList=some ([x].flatMap f).toArray)
  (A:1*k<=2^20) (B:l.length+1<=2^32) {ty:Nat} {K:Sl->Heap->Prop}
  (I:∀n h',dt h' (grow c h.size i) i e n k f (l++[x])->aU (fun b=>c b≠i) h h'->K n h'):
  av C.P (qq t 1 parts) (.one (.sc .slc)) h fun v g=>av C.P (qt #[t,t] ty #[.slice s.ptr s.len s.cap,.slice v.ptr v.len v.cap]) (.one (.sc .slc)) g K:=by
 refine NX H y F [x] rfl A a fun v g O N u _=>?_;have D:aU (fun b=>c b≠i) h g:=u.bp c i;have q:dt g (grow c h.size i) i e s k f l:=⟨w.own.ai u fun _ _=>trivial,fun b G=>by rw[fY (w.own.lt G)];exact w.bp b G⟩
 have m:h.size<=g.size:=u.1;obtain⟨L,Q,M,x2,_⟩:=y.ex;refine q.append H y ⟨L,e,M,x2⟩ F o E (O.seq (p:=fun _=>True) E fun _ _=>trivial) j B fun n J d r=>?_;rw[grow_grow m]at d;exact I n J d (D.step r)
structure ail (h:Heap) (c:Nat->Nat) (top lo:Nat) (e:TypeId) (s:Sl) (k:Nat) (f:α->List Value) (ll:List (List α)) (rs:List Sl):Prop where
 own:dt h c top e s 1 bQ rs
 len:rs.length=ll.length
 row:∀(i:Nat) r l,rs[i]?=some r->ll[i]?=some l->Seq h (fun b=>b<h.size/\lo<=c b/\c b<lo+ll.length) r k f l
theorem nW:∀x,∀c∈bQ x,c.oneCell'=true:=by intro x c a;simp only[bQ,qH]at a;subst a;rfl
end
structure aim {α:Type} (h:Heap) (r:Nat) (g:α->Value) (kvs:List (Int×α)):Prop where
 ex:∃es clock,h[r]?=some (.map es clock)/\es.toList.map (fun e=>(e.key,e.val))=kvs.map (fun p=>(Value.int .i64 p.1,g p.2))
section
variable {α:Type} {P:Program} {h h':Heap} {r:Nat} {g:α->Value} {kvs:List (Int×α)}
end
theorem Sw(x n:Int)(b:0<n):x%n=if x.tmod n<0 then x.tmod n+n else x.tmod n:=by
 have d:=vn x b;have c:-n<x.tmod n:=Int.lt_tmod_of_pos x b;have e:=Int.tmod_add_mul_tdiv x n;have a:0<=(if x.tmod n<0 then x.tmod n+n else x.tmod n)/\(if x.tmod n<0 then x.tmod n+n else x.tmod n)<n:=by split<;>omega
 have e2:x=(if x.tmod n<0 then x.tmod n+n else x.tmod n)+n*(if x.tmod n<0 then x.tdiv n-1 else x.tdiv n):=by
  split
  ·rw[Int.mul_sub];omega
  ·omega
 conv=>lhs;rw[e2]
 rw[Int.add_mul_emod_self_left];exact Int.emod_eq_of_lt a.1 a.2
theorem aJ{α:Type}(l:List α)(k:Nat)(h:k<l.length):l.take (k+1)=l.take k++[l[k]]:=zu h
theorem jp:∀x,∀c∈aD x,c.oneCell'=true:=by intro x c a;simp only[aD,qH]at a;subst a;rfl
theorem gp:∀x,∀c∈aB x,c.oneCell'=true:=by intro x c a;simp only[aB,qH]at a;subst a;rfl
theorem up{h c d:Heap}(a:aU (fun b=>b<h.size) h c)(b:aU (fun b=>b<c.size) c d):aU (fun b=>b<h.size) h d:=
 a.then b fun _ e _=>qV e a.1
theorem any{h c:Heap}(a:aU (fun _=>True) h c):aU (fun b=>b<h.size) h c:=a.mono fun _ _ _=>trivial
theorem Seq.up{α:Type}{h h':Heap}{s:Sl}{k:Nat}{f:α->List Value}{l:List α}(d:Seq h (fun b=>b<h.size) s k f l)(a:aU (fun b=>b<h.size) h h'):Seq h' (fun b=>b<h'.size) s k f l:=
 (d.ai a).mono fun _ c=>qV c a.1
theorem gO.up{α:Type}{h h':Heap}{s:Sl}{k:Nat}{f:α->List Value}{l:List (List α)}{rs:List Sl}(d:gO h (fun b=>b<h.size) s k f l rs)(a:aU (fun b=>b<h.size) h h'):gO h' (fun b=>b<h'.size) s k f l rs:=
 (d.ai a).mono fun _ c=>qV c a.1
theorem Seq.drop{α:Type}{h:Heap}{p:aA}{s:Sl}{w:Nat}{f:α->List Value}{l:List α}(c:Seq h p s w f l)(k:Nat)(m:s.len<=s.cap):
  Seq h p ⟨if s.cap=k then s.ptr else s.ptr.map (·.add (k*w)),s.len-k,s.cap-k⟩ w f (l.drop k):=by
 have j:=c.len;refine⟨by simp[j],fun i x a=>?_⟩;rw[wB]at a;obtain⟨b,o,e,d,h3⟩:=c.elem _ x a;have g:=(qm.1 a).1;refine⟨b,o+k*w,?_,d,?_⟩
 ·dsimp only;rw[if_neg (by omega),e,qN,add_eq]
 ·rw[show o+k*w+i*w=o+(k+i)*w by rw[Nat.add_mul];omega];exact h3
theorem Seq.take{α:Type}{h:Heap}{p:aA}{s:Sl}{w:Nat}{f:α->List Value}{l:List α}(b:Seq h p s w f l)(k:Nat)(c:k<=l.length):
  Seq h p ⟨s.ptr,k,s.cap⟩ w f (l.take k):=by
 refine⟨by simp;omega,fun i x a=>?_⟩;rw[vo]at a;split at a
 ·exact b.elem i x a
 ·cases a
theorem getD_lt{α:Type}{l:List α}{d:α}{i:Nat}(h:i<l.length):l.getD i d=l[i]:=by rw[qe,qd h];rfl
structure HP where
 p:Heap->aA->Prop
 loc:∀{h h':Heap} {q:aA},p h q->aU q h h'->p h' q
 mono:∀{h:Heap} {q q':aA},p h q->(∀b,q b->q' b)->p h q'
def emp:HP:=⟨fun _ _=>True,fun _ _=>trivial,fun _ _=>trivial⟩
def an{α:Type}(e:TypeId)(s:Sl)(k:Nat)(f:α->List Value)(l:List α):HP:=
 ⟨fun h q=>Own h e s k f l/\∀b,s.on b->q b,fun a g=>⟨a.1.ai g a.2,a.2⟩,fun a c=>⟨a.1,fun b d=>c b (a.2 b d)⟩⟩
def aq(a:Addr)(e:TypeId)(c:List Value):HP:=
 ⟨fun h q=>cy h a e c/\q a.block,fun x d=>⟨x.1.ai d x.2,x.2⟩,fun x b=>⟨x.1,b _ x.2⟩⟩
def tW{α:Type}(s:Sl)(k:Nat)(f:α->List Value)(l:List α):HP:=
 ⟨fun h q=>Seq h q s k f l,fun a c=>a.ai c,fun a b=>a.mono b⟩
def fP{α:Type}(e:TypeId)(s:Sl)(k:Nat)(f:α->List Value)(m:List (List α)):HP:=
 ⟨fun h q=>∃(rs:List Sl) (j:aA),Own h e s 1 bQ rs/\(∀b,s.on b->q b/\¬j b)/\(∀b,j b->q b)/\rs.length=m.length/\∀(i:Nat) r l,rs[i]?=some r->m[i]?=some l->Seq h j r k f l,
  fun⟨rs,j,a,b,c,d,e⟩ hp=>⟨rs,j,a.ai hp fun x g=>(b x g).1,b,c,d,fun i r l o n=>(e i r l o n).ai (hp.mono fun x _ g=>c x g)⟩,
  fun⟨rs,j,a,b,c,d,e⟩ hq=>⟨rs,j,a,fun x g=>⟨hq x (b x g).1,(b x g).2⟩,fun x g=>hq x (c x g),d,e⟩⟩
structure aa (B:aA) (h0 h:Heap) (As:List HP):Prop where
 low:∀b,B b->b<h0.size
 ai:aU B h0 h
 ex:∃c:Nat->Nat,(∀b,B b->c b=0)/\∀(i:Nat) (A:HP),As[i]?=some A->A.p h (fun b=>b<h.size/\c b=i+1)
abbrev Sp(a h:Heap)(As:List HP):Prop:=aa (fun b=>b<a.size) a h As
section
variable {B:aA} {h0 h h':Heap} {As Bs:List HP} {A A2 D:HP} {c:Nat->Nat} {i j:Nat}
theorem Sp.refl(h:Heap):Sp h h []:=⟨fun _ h=>h,aU.refl _ _,fun _=>0,fun _ _=>rfl,fun i A a=>by simp at a⟩
theorem aa.at(H:aa B h0 h As)(i:Nat)(a:As[i]?=some A):A.p h (fun b=>b<h.size):=by
 obtain⟨c,_,e⟩:=H.ex;exact A.mono (e i A a) fun _ d=>d.1
theorem aa.fin(H:aa B h0 h As)(i:Nat)(d:As[i]?=some A):A.p h (fun b=>¬B b/\b<h.size):=by
 obtain⟨c,g,f⟩:=H.ex;exact A.mono (f i A d) fun b e=>⟨fun a=>by have:=g b a;omega,e.1⟩
theorem Sp.fresh(H:Sp h0 h As)(i:Nat)(a:As[i]?=some A):A.p h (fun b=>h0.size<=b/\b<h.size):=
 A.mono (aa.fin H i a) fun b c=>⟨by omega,c.2⟩
theorem aa.comp(H:aa B h0 h As)(R:Sp h h' Bs):aa B h0 h' (As++Bs):=by
 obtain⟨g,k,m,n,o⟩:=H;obtain⟨_,f,j,p,l⟩:=R;have c:=k.1;refine⟨g,k.then f fun b a _=>qV a c,fun b=>if b<h.size then m b else if j b=0 then 0 else As.length+j b,fun b a=>?_,fun i A d=>?_⟩
 ·dsimp only;rw[if_pos (qV (g b a) c)];exact n b a
 ·by_cases q:i<As.length
  ·rw[qn q]at d;refine A.mono (A.loc (o i A d) (f.mono fun b _ a=>a.1)) fun b a=>⟨qV a.1 f.1,?_⟩
   dsimp only;rw[if_pos a.1];exact a.2
  ·rw[qj (by omega)]at d;refine A.mono (l _ A d) fun b a=>⟨a.1,?_⟩
   have:¬b<h.size:=fun e=>by have:=p b e;omega
   dsimp only;rw[if_neg this,if_neg (by omega)];omega
theorem aa.up(H:aa B h0 h As)(R:aU (fun b=>b<h.size) h h'):aa B h0 h' As:=by
 have:=H.comp (Bs:=[]) ⟨fun _ h=>h,R,fun _=>0,fun _ _=>rfl,fun i A a=>by simp at a⟩;simpa using this
theorem Sp.one(R:aU (fun b=>b<h.size) h h')(d:A.p h' (fun b=>h.size<=b/\b<h'.size)):Sp h h' [A]:=by
 refine⟨fun _ h=>h,R,fun b=>if b<h.size then 0 else 1,fun b c=>if_pos c,fun i A2 a=>?_⟩;cases i with
 |succ i=>simp at a
 |zero=>
  simp at a;subst a;exact A.mono d fun b c=>⟨c.2,by dsimp only;rw[if_neg (by omega)]⟩
theorem Sp.zip(R:aU (fun b=>b<h.size) h h'):Sp h h' []:=aa.up (Sp.refl h) R
theorem aa.enter(q:aA)(c:Nat->Nat)(e:∀b,q b->b<h.size)(a:∀(i:Nat) (A:HP),As[i]?=some A->A.p h (fun b=>q b/\c b=i+1)):aa (fun b=>b<h.size/\¬q b) h h As:=by
 classical
 refine⟨fun b d=>d.1,aU.refl _ _,fun b=>if q b then c b else 0,fun b d=>if_neg d.2,fun i A f=>A.mono (a i A f) fun b d=>⟨e b d.1,?_⟩⟩;dsimp only;rw[if_pos d.1];exact d.2
theorem aa.aah(q:aA)(d:∀b,q b->b<h.size)(a:A.p h q):aa (fun b=>b<h.size/\¬q b) h h [A]:=
 .enter q (fun _=>1) d fun i A2 c=>by
  cases i with
  |succ i=>simp at c
  |zero=>simp at c;subst c;exact A.mono a fun b e=>⟨e,rfl⟩
theorem aa.DR(l:∀b,B b->b<h0.size)(f:aU B h0 h)(z:∀b,B b->c b=0)(a:∀(i:Nat) (A:HP),As[i]?=some A->A.p h (fun b=>b<h.size/\c b=i+1))
  (k:aU (fun b=>¬(b<h.size/\c b=i+1)) h h') (m:D.p h' (fun b=>b<h'.size/\((b<h.size/\c b=i+1)∨h.size<=b))):aa B h0 h' (As.set i D):=by
 refine⟨l,f.then k fun b _ d n=>by have:=z b d;omega,grow c h.size (i+1),fun b d=>?_,fun j A e=>?_⟩
 ·rw[fY (qV (l b d) f.1)];exact z b d
 ·rw[q8]at e;split at e
  ·rename_i g;subst g;split at e
   ·injection e with e
    subst e;refine D.mono m fun b d=>⟨d.1,?_⟩
    rcases d.2 with h1|h1
    ·rw[fY h1.1];exact h1.2
    ·exact rT h1
   ·cases e
  ·rename_i g;refine A.mono (A.loc (a j A e) (k.mono fun b _ d n=>by omega)) fun b d=>⟨qV d.1 k.1,?_⟩
   rw[fY d.1];exact d.2
theorem aa.step(H:aa B h0 h As)(i:Nat)(d:As[i]?=some A)(j:∀q:aA,A.p h q->(∀b,q b->b<h.size)->aU (fun b=>¬q b) h h'/\D.p h' (fun b=>b<h'.size/\(q b∨h.size<=b))):aa B h0 h' (As.set i D):=by
 obtain⟨k,p,c,z,a⟩:=H;obtain⟨g,f⟩:=j _ (a i A d) fun b e=>e.1;exact aa.DR k p z a g f
theorem aa.gq(H:aa B h0 h As)(i:Nat)(e:As[i]?=some A)(f:∀q:aA,A.p h q->D.p h q):aa B h0 h (As.set i D):=
 H.step i e fun q d a=>⟨aU.refl _ _,D.mono (f q d) fun b c=>⟨a b c,.inl c⟩⟩
theorem aa.merge(H:aa B h0 h As)(i j:Nat)(r:i≠j)(o:As[i]?=some A)(u:As[j]?=some A2)
  (t:∀m l:aA,(∀b,m b->¬l b)->A.p h m->A2.p h l->D.p h (fun b=>m b∨l b)):aa B h0 h ((As.set i D).set j emp):=by
 obtain⟨s,p,c,z,a⟩:=H;refine⟨s,p,fun b=>if c b=j+1 then i+1 else c b,fun b f=>?_,fun k n d=>?_⟩
 ·have:=z b f;dsimp only;rw[if_neg (by omega)];exact this
 ·rw[q8]at d;split at d
  ·split at d
   ·cases d;trivial
   ·cases d
  ·rename_i q;rw[q8]at d;split at d
   ·rename_i g;subst g;split at d
    ·injection d with d
     subst d;refine D.mono (t _ _ (fun b e v=>by omega) (a i A o) (a j A2 u)) fun b f=>?_;rcases f with e|e
     ·exact⟨e.1,by dsimp only;rw[if_neg (by omega)];exact e.2⟩
     ·exact⟨e.1,by dsimp only;rw[if_pos e.2]⟩
    ·cases d
   ·rename_i g;refine n.mono (a k n d) fun b f=>⟨f.1,?_⟩
    dsimp only;rw[if_neg (by omega)];exact f.2
theorem aa.pick(H:aa B h0 h As)(f:Nat->Nat)(k:∀i j,f i=f j->i=j)(l:∀(i:Nat) (A2:HP),Bs[i]?=some A2->As[f i]?=some A2):aa B h0 h Bs:=by
 obtain⟨n,p,c,z,a⟩:=H
 classical
 refine⟨n,p,fun b=>if e:∃i,c b=f i+1 then e.choose+1 else 0,fun b e=>?_,fun i A2 g=>?_⟩
 ·have:=z b e;dsimp only;rw[dif_neg];rintro⟨i,g⟩;omega
 ·refine A2.mono (a _ _ (l i A2 g)) fun b e=>⟨e.1,?_⟩
  have d:∃i,c b=f i+1:=⟨i,e.2⟩
  dsimp only;rw[dif_pos d];have o:=d.choose_spec;have m:=k d.choose i (by omega);rw[m]
theorem aa.take(H:aa B h0 h As)(n:Nat)(a:∀(i:Nat) (A2:HP),Bs[i]?=some A2->As[n+i]?=some A2):aa B h0 h Bs:=H.pick (fun i=>n+i) (fun _ _ h=>by omega) a
end
section
variable {B:aA} {α:Type} {C:Ctx} {h0 h h':Heap} {As:List HP} {i e t t2:Nat} {s v:Sl} {k by_:Nat} {f:α->List Value} {l l2:List α} {a:Addr} {cs z:List Value} {p:aA} {ti:TI}
theorem aa.own(H:aa B h0 h As)(i:Nat)(a:As[i]?=some (an e s k f l)):Own h e s k f l:=(H.at i a).1
theorem aa.seq(H:aa B h0 h As)(i:Nat)(a:As[i]?=some (an e s k f l))(c:∀x,(f x).length=k):Seq h (fun b=>b<h.size) s k f l:=(H.at i a).1.seq c (H.at i a).2
theorem aa.rd(H:aa B h0 h As)(i:Nat)(a:As[i]?=some (tW s k f l)):Seq h (fun b=>b<h.size) s k f l:=H.at i a
theorem aa.box(H:aa B h0 h As)(i:Nat)(b:As[i]?=some (aq a e cs)):cy h a e cs:=(H.at i b).1
theorem aa.oI(H:aa B h0 h As)(i:Nat)(q:As[i]?=some (an e s k f l)){β:Type}{n m:Nat}{g:β->List Value}{o:List β}(p:aU (fun b=>¬s.on b) h h')(r:Own h' n s m g o):aa B h0 h' (As.set i (an n s m g o)):=
 H.step i q fun _ d j=>⟨p.mono fun b _ a c=>a (d.2 b c),r,fun b a=>⟨qV (j b (d.2 b a)) p.1,.inl (d.2 b a)⟩⟩
theorem aa.CD(H:aa B h0 h As)(i:Nat)(k:As[i]?=some (aq a e cs)){c:List Value}(j:aU (fun b=>b≠a.block) h h')(m:cy h' a e c):aa B h0 h' (As.set i (aq a e c)):=
 H.step i k fun q f g=>⟨j.mono fun b _ l d=>l (by rw[d];exact f.2),m,⟨qV (g _ f.2) j.1,.inl f.2⟩⟩
theorem aa.freeze(H:aa B h0 h As)(i:Nat)(c:As[i]?=some (an e s k f l))(b:∀x,(f x).length=k):aa B h0 h (As.set i (tW s k f l)):=H.gq i c fun _ a=>a.1.seq b a.2
theorem aa.set(p:C.Ok)(H:aa B h0 h As)(i:Nat)(g:As[i]?=some (an e s k f l))(o:∀x,(f x).length=k)(j:C.T.get t=some ti){x:Int}(n:Nat)(q:x=n)(u:n<l.length){c:Value}(y:α)(r:c.cells=(f y).toArray)(d:ti.size=k)
  (b:(f y).all (·.oneCell')=true) {K:Heap->Prop} (m:∀h',aa B h0 h' (As.set i (an e s k f (l.set n y)))->K h'):
  ∃a:Addr,(s.ptr=some a/\0<=x/\x<((s.len:Nat):Int))/\ac C.P (qf t (.pointer (some (a.add (x.toNat*k)))) c) h fun _ h'=>K h':=
 (H.own i g).set p o j n q u y r d b fun h' z w _=>m h' (H.oI i g w z)
theorem aa.push(O:C.Ok)(H:aa B h0 h As)(i:Nat)(y:As[i]?=some (an e s k f l))(L:bN C.toCB t e k z by_)(N:z.length=k)(p:0<by_/\by_<=128)(M:∀x,(f x).length=k)
  (m:∀x,∀c∈f x,c.oneCell'=true) (x:α) {parts:Array (Nat×Value)} (g:wu (fun i=>some (i*k,k)) (ir z 1).toArray parts.toList=some ([x].flatMap f).toArray)
  (r:1*k<=2^20) (u:l.length+1<=2^32) {ty:Nat} {K:Sl->Heap->Prop}
  (A:∀o h',aa B h0 h' (As.set i (an e o k f (l++[x])))->K o h'):
  av C.P (qq t 1 parts) (.one (.sc .slc)) h fun v E=>av C.P (qt #[t,t] ty #[.slice s.ptr s.len s.cap,.slice v.ptr v.len v.cap]) (.one (.sc .slc)) E K:=by
 obtain⟨G,D,c,J,a⟩:=H;have w:=a i _ y;have I:dt h c (i+1) e s k f l:=⟨w.1,fun b j=>(w.2 b j).2⟩
 refine I.push O L N p M m x g r u fun o h' d q=>A o h' ?_;refine aa.DR G D J a (q.mono fun b j Q F=>Q ⟨j,F⟩) ⟨d.own,fun b j=>⟨d.own.lt j,?_⟩⟩;have:=d.bp b j;by_cases n:b<h.size
 ·rw[fY n]at this;exact .inl ⟨n,this⟩
 ·exact .inr (by omega)
theorem aa.append(N:C.Ok)(H:aa B h0 h As)(i:Nat)(w:As[i]?=some (an e s k f l))(J:bN C.toCB t e k z by_)(D:∃i e2,C.T.get t2=some i/\i.cG=.slice e2)(M:z.length=k)(o:0<by_/\by_<=128)(L:∀x,(f x).length=k)
  (O:Seq h p v k f l2) (j:∀x,∀c∈f x,c.oneCell'=true) (r:l.length+l2.length<=2^32) {ty:Nat} {K:Sl->Heap->Prop}
  (y:∀n h',aa B h0 h' (As.set i (an e n k f (l++l2)))->K n h'):
  av C.P (qt #[t,t2] ty #[.slice s.ptr s.len s.cap,.slice v.ptr v.len v.cap]) (.one (.sc .slc)) h K:=by
 obtain⟨F,A,c,I,a⟩:=H;have u:=a i _ w;have G:dt h c (i+1) e s k f l:=⟨u.1,fun b g=>(u.2 b g).2⟩
 refine G.append N J D M o L O j r fun n h' d q=>y n h' ?_;refine aa.DR F A I a (q.mono fun b g Q E=>Q ⟨g,E⟩) ⟨d.own,fun b g=>⟨d.own.lt g,?_⟩⟩;have:=d.bp b g;by_cases m:b<h.size
 ·rw[fY m]at this;exact .inl ⟨m,this⟩
 ·exact .inr (by omega)
theorem NY{h h':Heap}{n:Nat}(i:n=h.size)(d:Own h' e s k f l)(g:s.ptr=some ⟨n,0,none⟩)(c:aU (fun _=>True) h h'):Sp h h' [an e s k f l]:=
 .one (any c) ⟨d,fun b a=>⟨by obtain⟨o,a⟩:=a;rw[g]at a;cases a;omega,d.lt a⟩⟩
theorem aa.make(A:C.Ok)(H:aa B h0 h As)(f:α->List Value)(r:bN C.toCB t e k z by_)(c:0<by_/\by_<=128)(g:α)(s:f g=z)(d:z.length=k){u v:IntKind}{n l:Int}(m b:Nat)(D:n=m)(p:l=b)(i:m<=b)(j:b<=2^32)
  {K:Sl->Heap->Prop} (o:∀a h',a.len=m->a.cap=b->aa B h0 h' (As++[an e a k f (qh m g)])->K a h'):
  av C.P (qD t (.int u n) (.int v l)) (.one (.sc .slc)) h K:=
 run_make A r c g s d m b D p i j fun a h' x y w q _=>o a h' (by rw[x.len];simp) w (H.comp (NY rfl x y q))
theorem aa.lit(o:C.Ok)(H:aa B h0 h As)(f:α->List Value)(m:bN C.toCB t e k z by_)(c:z.length=k){n:Nat}{parts:Array (Nat×Value)}(l:List α)(p:l.length=n)(d:n*k<=2^20)
  (a:wu (fun i=>some (i*k,k)) (ir z n).toArray parts.toList=some (l.flatMap f).toArray) {K:Sl->Heap->Prop}
  (g:∀b h',aa B h0 h' (As++[an e b k f l])->K b h'):
  av C.P (qq t n parts) (.one (.sc .slc)) h K:=
 NX o m c l p d a fun b h' x y j _=>g b h' (H.comp (NY rfl x y j))
theorem NZ{h h':Heap}(d:a.block=h.size)(c:cy h' a e cs)(b:aU (fun _=>True) h h'):Sp h h' [aq a e cs]:=
 .one (any b) ⟨c,by omega,c.lt⟩
theorem aa.alloc(e:C.Ok)(H:aa B h0 h As)(c:C.T.get t=some ti){K:Addr->Heap->Prop}(d:∀a h',aa B h0 h' (As++[aq a t ti.zero])->K a h'):
  aQ C.P (qK t true (.tuple #[])) h K:=
 AT e c fun a h' x y b _=>d a h' (H.comp (NZ x y b))
theorem aa.boxed(H:aa B h0 h As){P:Program}{v:Value}{K:Addr->Heap->Prop}(c:∀a h',aa B h0 h' (As++[aq a t v.cells.toList])->K a h'):
  aQ P (qL t v) h K:=
 Xd fun a h' x y b _=>c a h' (H.comp (NZ x y b))
theorem aa.store(k:C.Ok)(H:aa B h0 h As)(i:Nat)(f:As[i]?=some (aq a e cs))(g:C.T.get t=some ti)(off:Nat){v:Value}(vs:List Value)(l:v.cells=vs.toArray)(d:ti.size=vs.length)
  (c:vs.all (·.oneCell')=true) (b:off+vs.length<=cs.length) {K:Unit->Heap->Prop}
  (j:∀h',aa B h0 h' (As.set i (aq a e (cs.take off++vs++cs.drop (off+vs.length))))->K () h'):
  ac C.P (qf t (.pointer (some (a.add off))) v) h K:=
 run_store k (H.box i f) g off vs l d c b fun h' x y _=>j h' (H.CD i f y x)
theorem aa.jS(k:C.Ok)(H:aa B h0 h As)(i:Nat)(f:As[i]?=some (aq a e cs))(g:C.T.get t=some ti){v:Value}(vs:List Value)(l:v.cells=vs.toArray)(c:ti.size=vs.length)
  (b:vs.all (·.oneCell')=true) (d:vs.length<=cs.length) {K:Unit->Heap->Prop}
  (j:∀h',aa B h0 h' (As.set i (aq a e (vs++cs.drop vs.length)))->K () h'):
  ac C.P (qf t (.pointer (some a)) v) h K:=
 H.store k i f g 0 vs l c b (by omega) (fun h' x=>j h' (by simpa using x))
theorem aa.nil(H:aa B h0 h As)(e k:Nat)(f:α->List Value):aa B h0 h (As++[an e ⟨none,0,0⟩ k f []]):=
 H.comp (.one (aU.refl _ _) ⟨Own.nil h e k f,fun b a=>by obtain⟨o,a⟩:=a;cases a⟩)
theorem aa.Lu(H:aa B h0 h As)(e k:Nat)(f:α->List Value):aa B h0 h (As++[fP e ⟨none,0,0⟩ k f []]):=
 H.comp (.one (aU.refl _ _) ⟨[],fun _=>False,Own.nil h e 1 bQ,fun b a=>(by obtain⟨o,a⟩:=a;cases a),fun _ a=>a.elim,rfl,fun i r l h=>by simp at h⟩)
theorem aa.wn(hC:C.Ok)(H:aa B h0 h As)(i j:Nat)(y:i≠j){M:List (List α)}{r:Sl}{x:List α}(S:As[i]?=some (fP e s k f M))(hj:As[j]?=some (tW r k f x))(he:bN C.toCB t e 1 [.slice none 0 0] 24)
  (ab:M.length+1<=2^32) {ty:Nat} {K:Sl->Heap->Prop} (Y:∀O h',aa B h0 h' ((As.set j emp).set i (fP e O k f (M++[x])))->K O h'):
  av C.P (qq t 1 #[(0,.slice r.ptr r.len r.cap)]) (.one (.sc .slc)) h fun v o=>av C.P (qt #[t,t] ty #[.slice s.ptr s.len s.cap,.slice v.ptr v.len v.cap]) (.one (.sc .slc)) o K:=by
 have H2:=H.merge i j y S hj (D:=⟨fun h q=>∃(rs:List Sl) (g:aA),Own h e s 1 bQ rs/\(∀b,s.on b->q b/\¬g b)/\(∀b,g b->q b)/\rs.length=M.length/\(∀(i:Nat) r l,rs[i]?=some r->M[i]?=some l->Seq h g r k f l)/\Seq h g r k f x,
  fun⟨rs,g,a,b,c,d,e,f⟩ hp=>⟨rs,g,a.ai hp fun x n=>(b x n).1,b,c,d,fun i r l o z=>(e i r l o z).ai (hp.mono fun x _ n=>c x n),f.ai (hp.mono fun x _ n=>c x n)⟩,
  fun⟨rs,g,a,b,c,d,e,f⟩ hq=>⟨rs,g,a,fun x n=>⟨hq x (b x n).1,(b x n).2⟩,fun x n=>hq x (c x n),d,e,f⟩⟩)
  (fun g q2 hd hA hB=>by
   obtain⟨rs,q3,a,b,c,d,e'⟩:=hA;refine⟨rs,fun b=>q3 b∨q2 b,a,fun x n=>⟨.inl (b x n).1,fun N=>N.elim (b x n).2 (hd x (b x n).1)⟩,fun x n=>n.elim (fun h=>.inl (c x h)) .inr,d,fun i r l o z=>(e' i r l o z).mono fun _ h=>.inl h,Seq.mono hB fun _ h=>.inr h⟩)
 have u:i<As.length:=(qm.1 S).1;obtain⟨lo,Z,c,zz,a⟩:=H2;have ha:=a i _ (by rw[z7 (Ne.symm y),zA u]);obtain⟨rs,g,a1,X,a3,a4,a5,V⟩:=ha;let U:Nat->Nat:=fun b=> @ite _ (g b) (Classical.propDecidable _) (As.length+2) (c b);have G:∀b,g b->b<h.size/\c b=i+1:=a3;have ho:dt h U (i+1) e s 1 bQ rs:=⟨a1,fun b m=>by
  have:=X b m;show @ite _ (g b) (Classical.propDecidable _) _ _=_;rw[if_neg this.2];exact this.1.2⟩
 refine ho.push hC he rfl (by decide) (fun _=>rfl) nW r rfl (by decide) (by omega) fun O h' A F=>Y O h' ?_;rw[vh _ _ (Ne.symm y)];rw[<-vd (l:=As) (i:=i),vh _ _ y];have J:∀b,g b->U b≠i+1:=fun b m=>by
  show @ite _ (g b) (Classical.propDecidable _) _ _≠_;rw[if_pos m];omega
 refine aa.DR lo Z zz a (F.mono fun b m hn hc=>hn ⟨m,?_⟩) ⟨rs++[r],fun b=>g b/\b<h.size,A.own,fun b m=>?_,fun b m=>⟨qV m.2 F.1,.inl ⟨m.2,(G b m.1).2⟩⟩,by simp[a4],fun R r' W o z=>?_⟩
 ·by_cases E:g b
  ·exact(G b E).2
  ·have w: @ite _ (g b) (Classical.propDecidable _) (As.length+2) (c b)=i+1:=hc;rw[if_neg E]at w;exact w
 ·have p:=A.bp b m;by_cases u:b<h.size
  ·rw[fY u]at p;have L:¬g b:=fun E=>J b E p;have w: @ite _ (g b) (Classical.propDecidable _) (As.length+2) (c b)=i+1:=p;rw[if_neg L]at w;exact⟨⟨A.own.lt m,.inl ⟨u,w⟩⟩,fun N=>L N.1⟩
  ·exact⟨⟨A.own.lt m,.inr (by omega)⟩,fun N=>u N.2⟩
 ·have I:∀{T:Sl} {l:List α},Seq h g T k f l->Seq h' (fun b=>g b/\b<h.size) T k f l:=fun hs=>
   (hs.mono (q:=fun b=>g b/\b<h.size) fun b m=>⟨m,(G b m).1⟩).ai (F.mono fun b _ m=>J b m.1)
  by_cases Q:R<rs.length
  ·rw[qn Q]at o;rw[qn (by omega)]at z;exact I (a5 R r' W o z)
  ·have:R=rs.length:=by
    have:=(qm.1 o).1;simp at this;omega
   subst this;simp at o;rw[a4]at z;simp at z;subst o;subst z;exact I V
theorem aa.rows(H:aa B h0 h As)(i:Nat){g:List (List α)}(j:As[i]?=some (fP e s k f g)):∃rs,gO h (fun b=>b<h.size) s k f g rs:=by
 obtain⟨rs,p,a,b,c,d,e⟩:=H.at i j;exact⟨rs,a.seq (fun _=>rfl) fun x m=>(b x m).1,d,fun i r l o n=>(e i r l o n).mono c⟩
end
theorem acT(vs:List Value):∀(pre old post:List Value),old.length=vs.length->((vs.zipIdx 0).foldl (fun(cs:Array Value) (p:Value×Nat)=>cs.setIfInBounds (pre.length+p.2) p.1) (pre++old++post).toArray)=(pre++vs++post).toArray:=by
 have b:∀(vs pre old post:List Value) (k:Nat),old.length=vs.length->pre.length=pre.length->∀n,n+k=pre.length->((vs.zipIdx k).foldl (fun(cs:Array Value) (p:Value×Nat)=>cs.setIfInBounds (n+p.2) p.1) (pre++old++post).toArray)=(pre++vs++post).toArray:=by
  intro vs
  induction vs with
  |nil=>intro pre old post k a _ n _;rw[qX a];rfl
  |cons v vs ih=>
   intro pre old post k a _ n c;cases old with
   |nil=>simp at a
   |cons u old=>
    rw[List.zipIdx_cons,zD];have e:(pre++(u::old)++post).toArray.setIfInBounds (n+k) v=((pre++[v])++old++post).toArray:=by
     rw[c];apply yj;simp
    dsimp only;rw[e,ih (pre++[v]) old post (k+1) (by simpa using a) rfl n (by simp;omega)];simp
 intro pre old post h;exact b vs pre old post 0 h rfl pre.length (by omega)
theorem Sx{a:Nat->Option (Nat×Nat)}{i:Nat}{v:Value}{vs pre old post:List Value}{rest:List (Nat×Value)}(b:v.cells=vs.toArray)(c:a i=some (pre.length,vs.length))(d:old.length=vs.length):
  wu a (pre++old++post).toArray ((i,v)::rest)=wu a (pre++vs++post).toArray rest:=by
 conv=>lhs;unfold wu
 simp only[c,b];rw[if_neg (by simp;omega)];congr 1;have:=acT vs pre old post d;simpa using this
section
variable {C:Ctx} {t:Nat} {i:TI} {h:Heap}
theorem Gt(j:C.Ok)(l:C.T.get t=some i){o:List (Nat×TypeId)}(g:i.cG=.struct o){c:List (Nat×Nat)}(e:placesOf C.T o=some c){vs:List (Nat×Value)}{cells:Array Value}
  (a:wu (fun n=>c[n]?) i.zero.toArray vs=some cells):aI C.P (vI t vs.toArray) (.agg cells):=by
 obtain⟨z,r,h⟩:=sF j.toOk l;have b:i.zero.toArray=z.cells:=by rw[<-h]
 have m:=j.cG l;rw[g]at m;obtain⟨p,q,rfl⟩:=py m;refine r.bind ((aG q).bind ?_);have d:aI C.P (p.mapM fun f=>(do pure (f.offset,<-sizeOf f.type):Sem (Nat×Nat))) c.toArray:=by
  rw[ve];intro w;have:=nT j.toOk e w;rw[map_eq_pure_bind,Sem.run_bind,this];rfl
 refine d.bind ?_;have k:wu (fun n=>c.toArray[n]?) z.cells vs.toArray.toList=some cells:=by
  rw[<-b];simpa using a
 rw[k];exact .pure
end
theorem take_set{α:Type}(l:List α)(n:Nat)(x:α)(h:n<l.length):l.take n++[x]++l.drop (n+1)=l.set n x:=by
 rw[yA,if_pos h];simp
section
variable {B:aA} {C:Ctx} {h0 h h':Heap} {As:List HP} {e t:Nat} {a:Addr} {cs:List Value} {ti:TI}
theorem aa.storeAt(k:C.Ok)(H:aa B h0 h As)(i:Nat)(f:As[i]?=some (aq a e cs))(g:C.T.get t=some ti){off:Nat}{v:Value}(l:v.cells=#[v])(d:ti.size=1)
  (c:v.oneCell'=true) (b:off<cs.length) {K:Unit->Heap->Prop}
  (j:∀h',aa B h0 h' (As.set i (aq a e (cs.set off v)))->K () h'):
  ac C.P (qf t (.pointer (some (a.add off))) v) h K:=
 H.store k i f g off [v] l d (by simp[c]) (by simp;omega) fun h' x=>j h' (by rw[<-take_set _ _ _ b];simpa using x)
theorem aa.storeAll(k:C.Ok)(H:aa B h0 h As)(i:Nat)(f:As[i]?=some (aq a e cs))(g:C.T.get t=some ti){v:Value}(vs:List Value)(l:v.cells=vs.toArray)(c:ti.size=vs.length)
  (b:vs.all (·.oneCell')=true) (d:vs.length=cs.length) {K:Unit->Heap->Prop}
  (j:∀h',aa B h0 h' (As.set i (aq a e vs))->K () h'):
  ac C.P (qf t (.pointer (some a)) v) h K:=
 H.jS k i f g vs l c b (by omega) fun h' x=>j h' (by rw[zg (by omega),qQ]at x;exact x)
end
theorem uC(n:Nat)(a:n<=9223372036854775807):qc xh (n:Int)=n:=wrap_small _ (by omega) (by omega)
abbrev Rd{α:Type}(h:Heap)(s:Sl)(k:Nat)(f:α->List Value)(l:List α):Prop:=Seq h (fun b=>b<h.size) s k f l
abbrev gr{α:Type}(h:Heap)(s:Sl)(k:Nat)(f:α->List Value)(a:List (List α)):Prop:=∃rs,gO h (fun b=>b<h.size) s k f a rs
section
variable {α:Type} {B:aA} {h0 h h':Heap} {As:List HP} {s:Sl} {k e:Nat} {f:α->List Value} {l:List α} {ll:List (List α)}
theorem gr.up(a:gr h s k f ll)(c:aU (fun b=>b<h.size) h h'):gr h' s k f ll:=by
 obtain⟨rs,a⟩:=a;exact⟨rs,gO.up a c⟩
theorem gr.len(a:gr h s k f ll):s.len=ll.length:=by obtain⟨rs,a⟩:=a;exact a.Sr
theorem gr.get(b:gr h s k f ll){i:Int}(n:Nat)(c:i=n)(g:n<ll.length){K:Sl->Prop}(d:∀r,Rd h r k f ll[n]->K r):
  ∃a:Addr,(s.ptr=some a/\0<=i/\i<((s.len:Nat):Int))/\∃x:Sl,cellOf h (a.add (i.toNat*1))=some (.slice x.ptr x.len x.cap)/\K x:=by
 obtain⟨rs,b⟩:=b;exact b.get n c g fun r e _=>d r e
theorem Seq.isSome{p:aA}(d:Seq h p s k f l)(a:l≠[]):s.ptr.isNone=false:=by
 cases l with
 |nil=>exact absurd rfl a
 |cons x t=>obtain⟨b,o,c,_⟩:=d.elem 0 x (by simp);rw[c];rfl
theorem Seq.isNil{p:aA}(b:Seq h p s k f l)(a:s.ptr.isNone=true):l=[]:=by
 cases l with
 |nil=>rfl
 |cons x t=>rw[b.isSome (by simp)]at a;cases a
theorem aa.Jz(H:aa B h0 h As)(i:Nat)(a:As[i]?=some (fP e s k f ll)):gr h s k f ll:=H.rows i a
end
section
variable {B:aA} {h0 h h':Heap} {As Bs:List HP} {A D:HP}
theorem aa.del(H:aa B h0 h As)(i:Nat):aa B h0 h (As.eraseIdx i):=
 H.pick (fun j=>if j<i then j else j+1) (fun a b d=>by split at d<;>split at d<;>omega) fun j A e=>by
  rw[List.getElem?_eraseIdx]at e;split at e
  ·rename_i c;rw[if_pos c];exact e
  ·rename_i c;rw[if_neg c];exact e
theorem aa.call(H:aa B h0 h As)(i:Nat)(u:As[i]?=some A)(q:aA)(I:∀q':aA,A.p h q'->∀b,q b->q' b)(R:aa (fun b=>b<h.size/\¬q b) h h' (D::Bs)):aa B h0 h' (As.set i D++Bs):=by
 classical
 obtain⟨x,z,g,y,G⟩:=H;obtain⟨_,t,j,K,v⟩:=R;have s:=z.1;have E:=(qm.1 u).1;have o:∀b,q b->b<h.size/\g b=i+1:=I _ (G i A u);have w:∀b,B b->b<h.size/\¬q b:=fun b a=>⟨qV (x b a) s,fun r=>by have:=y b a;have:=o b r;omega⟩
 let c:Nat->Nat:=fun b=>if b<h.size/\¬q b then(if g b=i+1 then 0 else g b)else if j b=0 then 0 else if j b=1 then i+1 else As.length+j b-1
 have e:∀b,b<h.size/\¬q b->g b≠i+1->c b=g b:=fun b a L=>by show ite _ _ _=_;rw[if_pos a,if_neg L]
 have f:∀b,j b≠0->c b=if j b=1 then i+1 else As.length+j b-1:=fun b a=>by
  have:¬(b<h.size/\¬q b):=fun r=>a (K b r);show ite _ _ _=_;rw[if_neg this,if_neg a]
 refine⟨x,z.then t fun b _ a=>w b a,c,fun b a=>?_,fun k m d=>?_⟩
 ·have:=y b a;rw[e b (w b a) (by omega)];exact this
 ·by_cases F:k<As.length
  ·rw[qn (by simpa using F),q8]at d;split at d
   ·rename_i n;subst n;injection d with d
    subst d;refine D.mono (v 0 D rfl) fun b a=>⟨a.1,?_⟩
    rw[f b (by omega),if_pos a.2]
   ·rename_i n;have l:∀b,b<h.size/\g b=k+1->b<h.size/\¬q b:=fun b a=>⟨a.1,fun r=>by have:=o b r;omega⟩
    refine m.mono (m.loc (G k m d) (t.mono fun b _ a=>l b a)) fun b a=>⟨qV a.1 t.1,?_⟩
    rw[e b (l b a) (by omega)];exact a.2
  ·rw[qj (by simpa using F)]at d;rw[zH]at d;have J:=v (k-As.length+1) m (by simpa using d);refine m.mono J fun b a=>⟨a.1,?_⟩
   rw[f b (by omega),if_neg (by omega)];omega
end
section
variable {B:aA} {α:Type} {h0 h h':Heap} {As Bs:List HP} {A D:HP} {e k:Nat} {s:Sl} {f:α->List Value} {l:List α}
theorem aa.off(H:aa B h0 h As)(i j:Nat)(o:i≠j)(g:As[i]?=some (an e s k f l))(m:As[j]?=some A):A.p h (fun b=>b<h.size/\¬s.on b):=by
 obtain⟨_,_,c,_,a⟩:=H;refine A.mono (a j A m) fun b n=>⟨n.1,fun d=>?_⟩
 have:=(a i _ g).2 b d;omega
theorem aa.base(H:aa B h0 h As)(i:Nat)(g:As[i]?=some (an e s k f l)){b:Nat}(j:B b):¬s.on b:=fun d=>by
 obtain⟨_,_,c,z,a⟩:=H;have:=(a i _ g).2 b d;have:=z b j;omega
theorem aa.agw(H:aa B h0 h (As++[D]))(i:Nat)(k:i<As.length):aa B h0 h (As.set i D):=
 H.pick (fun j=>if j<As.length then(if j=i then As.length else j)else j+1) (fun a b c=>by split at c<;>split at c<;>(try split at c)<;>(try split at c)<;>omega) fun j A e=>by
  have f:j<As.length:=by have:=(qm.1 e).1;simpa using this
  rw[if_pos f];rw[q8]at e;split at e
  ·rename_i d;subst d;rw[if_pos rfl,qj (ql _),zj];exact e
  ·rename_i d;rw[if_neg (fun g=>d g.symm),qn f];exact e
theorem aa.aeN(H:aa B h0 h As)(i j:Nat){A2:HP}(m:As[i]?=some A)(n:As[j]?=some A2):aa B h0 h ((As.set i A2).set j A):=by
 have k:=(qm.1 m).1;have g:=(qm.1 n).1;refine H.pick (fun x=>if x=j then i else if x=i then j else x) (fun a b c=>by split at c<;>split at c<;>(try split at c)<;>(try split at c)<;>omega) fun x o d=>?_;rw[q8,q8]at d;by_cases f:j=x
 ·subst f;simp[g]at d;subst d;simpa using m
 ·by_cases l:i=x
  ·subst l;simp[f,k]at d;subst d;rw[if_neg (fun e=>f e.symm),if_pos rfl];exact n
  ·simp[f,l]at d;rw[if_neg (fun e=>f e.symm),if_neg (fun e=>l e.symm)];exact d
end
def bT{α:Type}(e k:Nat)(f:α->List Value)(rs:List Sl)(a:List (List α)):List HP:=zm (fun r l=>an e r k f l) rs a
section
variable {α:Type} {e k:Nat} {f:α->List Value} {rs:List Sl} {ll:List (List α)}
theorem Vl(h:rs.length=ll.length):(bT e k f rs ll).length=ll.length:=by simp[bT,h]
theorem kl(h:rs.length=ll.length)(i:Nat)(a:i<ll.length):(bT e k f rs ll)[i]?=some (an e (rs[i]'(by omega)) k f ll[i]):=by
 have b:i<rs.length:=by omega
 simp[bT,wO,qd a,qd b]
theorem xw(h:rs.length=ll.length)(r:Sl)(l:List α):bT e k f (rs++[r]) (ll++[l])=bT e k f rs ll++[an e r k f l]:=by
 unfold bT;rw[yM h];rfl
theorem lR(h:rs.length=ll.length)(i:Nat)(r:Sl)(l:List α):(bT e k f rs ll).set i (an e r k f l)=bT e k f (rs.set i r) (ll.set i l):=by
 apply zK;intro j;simp only[bT,q8,wO,List.length_zipWith];by_cases a:i=j
 ·subst a;by_cases b:i<ll.length
  ·have:i<rs.length:=by omega
   simp[b,this];omega
  ·have:¬i<rs.length:=by omega
   simp[b];omega
 ·simp[a]
theorem Sy(h:rs.length=ll.length)(i:Nat)(a:i<ll.length)(l:List α):(bT e k f rs ll).set i (an e (rs[i]'(by omega)) k f l)=bT e k f rs (ll.set i l):=by
 rw[lR h,List.set_getElem_self]
theorem aa.Sz{B:aA}{m h:Heap}{s:Sl}{b:Nat}(H:aa B m h (an b s 1 bQ rs::bT e k f rs ll))(g:rs.length=ll.length)(n:∀x,(f x).length=k):gr h s k f ll:=by
 refine⟨rs,H.seq 0 rfl (fun _=>rfl),g,fun i r l d a=>?_⟩;have c:i<ll.length:=(qm.1 a).1;have j:=kl (e:=e) (k:=k) (f:=f) g i c;have h3:=H.seq (i+1) (by simpa using j) n;have b:rs[i]'(by omega)=r:=by rw[qd (by omega)]at d;simpa using d
 have e2:ll[i]=l:=by rw[qd c]at a;simpa using a
 rw[b,e2]at h3;exact h3
end
section
variable {α:Type} {h:Heap} {p:aA} {s:Sl} {f:α->List Value} {l:List α}
theorem Seq.RT{X:Type}{g:X->Value}(e:Seq h p s 1 f l){i:Int}(n:Nat)(j:i=n)(r:n<l.length)(x:X)(q:f l[n]=[g x]){K:Addr->X->Prop}(k:∀a:Addr,cellOf h (a.add (i.toNat*1))=some (g x)->K a x):
  ∃a:Addr,(s.ptr=some a/\0<=i/\i<((s.len:Nat):Int))/\∃x:X,cellOf h (a.add (i.toNat*1))=some (g x)/\K a x:=by
 subst j;obtain⟨b,o,m,_,h3⟩:=e.elem n l[n] (qd r);rw[q]at h3;have d:=h3.1;rw[add_eq,w9]at d;have c:cellOf h ((⟨b,o,none⟩:Addr).add ((n:Int).toNat*1))=some (g x):=by rw[add_eq];simpa using d
 exact⟨_,⟨m,by omega,by rw[e.len];omega⟩,x,c,k _ c⟩
end
theorem Seq.tZ{h:Heap}{p:aA}{s:Sl}{rs:List Sl}(e:Seq h p s 1 bQ rs){i:Int}(n:Nat)(f:i=n)(l:n<rs.length){K:Addr->Sl->Prop}
  (g:∀a:Addr,cellOf h (a.add (i.toNat*1))=some (.slice rs[n].ptr rs[n].len rs[n].cap)->p (a.add (i.toNat*1)).block->K a rs[n]):
  ∃a:Addr,(s.ptr=some a/\0<=i/\i<((s.len:Nat):Int))/\∃x:Sl,cellOf h (a.add (i.toNat*1))=some (.slice x.ptr x.len x.cap)/\K a x:=by
 subst f;obtain⟨b,o,k,j,h3⟩:=e.elem n rs[n] (qd l);have d:=h3.1;rw[add_eq,w9]at d;have c:cellOf h ((⟨b,o,none⟩:Addr).add ((n:Int).toNat*1))=some (.slice rs[n].ptr rs[n].len rs[n].cap):=by rw[add_eq];simpa using d
 exact⟨_,⟨k,by omega,by rw[e.len];omega⟩,rs[n],c,g _ c (by rw[add_eq];exact j)⟩
section
variable {B:aA} {α:Type} {h0 h:Heap} {As:List HP} {e k:Nat} {s:Sl} {f:α->List Value} {l:List α}
theorem Own.cut(a:Own h e s k f l)(c:∀x,(f x).length=k)(j:Nat)(d:j<=l.length):Own h e ⟨s.ptr,j,s.cap⟩ k f (l.take j):=by
 have g:=a.len;refine⟨by simp;omega,?_⟩;rcases a.head with⟨h1,h2,h3⟩|⟨b,rest,h1,h2,h3,h4⟩
 ·subst h3;exact .inl ⟨h1,h2,by simp⟩
 ·refine .inr ⟨b,(l.drop j).flatMap f++rest,h1,?_,?_,by dsimp only;omega⟩
  ·rw[<-qp,<-zc,qE];exact h2
  ·rw[qw,dg c,q7,h3,<-Nat.add_mul];dsimp only;congr 1;omega
end
section
variable {B:aA} {α:Type} {C:Ctx} {h0 h:Heap} {As:List HP} {e t k:Nat} {s:Sl} {f:α->List Value} {l:List α} {ti:TI}
end
section
variable {C:Ctx} {t t2 ty e k:Nat} {z:List Value} {by_:Nat} {α:Type} {h h0:Heap} {p B:aA} {s v:Sl} {f:α->List Value} {l l2:List α} {As:List HP}
theorem Own.Lv(E:C.Ok)(D:bN C.toCB t e k z by_)(B:∀x,(f x).length=k)(w:Own h e s k f l)(F:Seq h p v k f l2)(g:∀x,∀c∈f x,c.oneCell'=true){K:Int->Heap->Prop}
  (j:∀n h',Own h' e s k f (l2.take l.length++l.drop l2.length)->aU (fun b=>¬s.on b) h h'->K n h'):
  av C.P (wX #[t,t2] ty #[.slice s.ptr s.len s.cap,.slice v.ptr v.len v.cap]) (.one (.sc (.int .i64))) h K:=by
 unfold av wX;simp only[zG,wy,qy];refine ac.bind (ac.always (aG (D.under E)) ?_);refine ac.bind (ac.pure' ?_);refine ac.bind (ac.always (D.size E) ?_);have a:=w.len;have d:=F.len;obtain⟨m,i⟩:∃m,m=Nat.min v.len s.len:=⟨_,rfl⟩
 rw[<-i];have y:m<=l2.length:=by rw[i,<-d];exact Nat.min_le_left _ _
 have o:m<=l.length:=by rw[i,<-a];exact Nat.min_le_right _ _
 have G:m=min l2.length l.length:=by rw[i,a,d]
 have r:=F.take m y;have I:l2.take l.length++l.drop l2.length=l2.take m++l.drop m:=by
  rcases Nat.le_total l2.length l.length with hh|hh
  ·rw[qi hh,show m=l2.length by omega,qR]
  ·rw[show m=l.length by omega,zg hh,List.drop_length]
 rw[I]at j;have A:wA k m (.slice v.ptr v.len v.cap)=wA k m (.slice v.ptr m v.cap):=by cases v.ptr<;>rfl
 rw[A];refine ac.bind (gb (v:=⟨v.ptr,m,v.cap⟩) B r ?_);rcases w.head with⟨h1,h2,h3⟩|⟨b,rest,h1,h2,h3,h4⟩
 ·rw[h1];subst h3;have:m=0:=by simpa using o
  subst this;refine ac.pure' ⟨_,rfl,j _ h ?_ (aU.refl _ _)⟩;simpa using w
 ·rw[h1];refine ac.bind ?_;have q:l.flatMap f++rest=(l.take m).flatMap f++((l.drop m).flatMap f++rest):=by
   rw[<-qp,<-zc,qE]
  rw[q]at h2;refine eP (e:=e) (pre:=[]) (old:=(l.take m).flatMap f) (post:=(l.drop m).flatMap f++rest) (by simpa using h2) (by rw[dg B,dg B,qZ,qZ];congr 1;omega) rfl ?_ ?_
  ·intro c H;obtain⟨x,_,u⟩:=zo.1 H;exact g x c u
  ·refine ac.pure' ⟨_,rfl,j _ _ ⟨by rw[a,qw,qZ,q7];omega,.inr ⟨b,rest,h1,?_,h3,h4⟩⟩ (aU.iG h2 (fun J=>J ⟨0,h1⟩))⟩;rw[hJ h2,if_pos rfl,zc];simp
theorem aa.Lv(j:C.Ok)(H:aa B h0 h As)(i:Nat)(b:As[i]?=some (an e s k f l))(o:bN C.toCB t e k z by_)(d:∀x,(f x).length=k)(m:Seq h p v k f l2)(a:∀x,∀c∈f x,c.oneCell'=true){K:Int->Heap->Prop}
  (g:∀n h',aa B h0 h' (As.set i (an e s k f (l2.take l.length++l.drop l2.length)))->K n h'):
  av C.P (wX #[t,t2] ty #[.slice s.ptr s.len s.cap,.slice v.ptr v.len v.cap]) (.one (.sc (.int .i64))) h K:=
 (H.own i b).Lv j o d m a fun n h' x y=>g n h' (H.oI i b y x)
end
def Oa(d:Sl)(w i:Nat):Sl:=⟨if d.cap=i*w then d.ptr else d.ptr.map (·.add (i*w*1)),(i+1)*w-i*w,d.cap-i*w⟩
def Gu{α:Type}(l:List α)(w i:Nat):List α:=(l.drop (i*w)).take w
theorem Seq.piece{α:Type}{h:Heap}{p:aA}{s:Sl}{f:α->List Value}{l:List α}(d:Seq h p s 1 f l)(c:s.len<=s.cap)(w i:Nat)(g:(i+1)*w<=l.length):Seq h p (Oa s w i) 1 f (Gu l w i):=by
 have b:=d.drop (i*w) c;have e:(i+1)*w=i*w+w:=zJ i w;have a:=b.take w (by rw[q7];omega);have e2:(i+1)*w-i*w=w:=by omega
 unfold Oa Gu;rw[e2];exact a
theorem afn{α:Type}{l:List α}{w i:Nat}(a:(i+1)*w<=l.length):(Gu l w i).length=w:=by
 have e:(i+1)*w=i*w+w:=zJ i w;simp only[Gu,qZ,q7];omega
def HP.sep(A D:HP):HP:=
 ⟨fun h q=>∃g f:aA,(∀b,g b->¬f b)/\(∀b,g b->q b)/\(∀b,f b->q b)/\A.p h g/\D.p h f,
  fun⟨g,f,a,b,c,d,e⟩ hp=>⟨g,f,a,b,c,A.loc d (hp.mono fun x _ i=>b x i),D.loc e (hp.mono fun x _ i=>c x i)⟩,
  fun⟨g,f,a,b,c,d,e⟩ hq=>⟨g,f,a,fun x i=>hq x (b x i),fun x i=>hq x (c x i),d,e⟩⟩
def HP.ex{ι:Type}(F:ι->HP):HP:=⟨fun h q=>∃i,(F i).p h q,fun⟨i,a⟩ hp=>⟨i,(F i).loc a hp⟩,fun⟨i,a⟩ hq=>⟨i,(F i).mono a hq⟩⟩
def HP.and(A:HP)(P:Prop):HP:=⟨fun h q=>A.p h q/\P,fun a c=>⟨A.loc a.1 c,a.2⟩,fun a b=>⟨A.mono a.1 b,a.2⟩⟩
section
variable {B:aA} {h0 h h':Heap} {As Bs:List HP} {A D E:HP} {i j:Nat}
theorem aa.split(H:aa B h0 h As)(i:Nat)(n:As[i]?=some (A.sep D)):aa B h0 h (As.set i A++[D]):=by
 classical
 obtain⟨s,p,c,z,a⟩:=H;obtain⟨x,t,q,o,k,w,u⟩:=a i _ n;have v:=(qm.1 n).1;refine⟨s,p,fun b=>if t b then As.length+1 else c b,fun b e=>?_,fun j X d=>?_⟩
 ·have r:=z b e;dsimp only;rw[if_neg];exact r;intro g;have:=(k b g).2;omega
 ·by_cases m:j<As.length
  ·rw[qn (by simpa using m),q8]at d;split at d
   ·rename_i f;subst f
    first|rw[if_pos m]at d|skip
    injection d with d
    subst d;refine A.mono w fun b e=>⟨(o b e).1,?_⟩
    dsimp only;rw[if_neg (q b e)];exact(o b e).2
   ·rename_i f;refine X.mono (a j X d) fun b e=>⟨e.1,?_⟩
    dsimp only;rw[if_neg];exact e.2;intro g;have:=(k b g).2;omega
  ·rw[qj (by simpa using m)]at d;rw[zH]at d;have l:j=As.length:=by
    have:=(qm.1 d).1;simp at this;omega
   subst l;simp at d;subst d;refine D.mono u fun b e=>⟨(k b e).1,?_⟩
   dsimp only;rw[if_pos e]
theorem aa.join(H:aa B h0 h As)(i j:Nat)(b:i≠j)(e:As[i]?=some A)(f:As[j]?=some D):aa B h0 h ((As.set i (A.sep D)).set j emp):=
 H.merge i j b e f fun g c k d l=>⟨g,c,k,fun _ a=>.inl a,fun _ a=>.inr a,d,l⟩
theorem aa.XV{ι:Type}{F:ι->HP}(H:aa B h0 h As)(i:Nat)(e:As[i]?=some (HP.ex F)):∃x,aa B h0 h (As.set i (F x)):=by
 obtain⟨g,p,c,z,a⟩:=H;obtain⟨x,f⟩:=a i _ e;refine⟨x,g,p,c,z,fun j X b=>?_⟩;rw[q8]at b;split at b
 ·rename_i d;subst d;split at b
  ·injection b with b;subst b;exact f
  ·cases b
 ·exact a j X b
theorem aa.close'{ι:Type}{F:ι->HP}(H:aa B h0 h As)(i:Nat)(x:ι)(b:As[i]?=some (F x)):aa B h0 h (As.set i (HP.ex F)):=H.gq i b fun _ a=>⟨x,a⟩
theorem aa.fact{P:Prop}(H:aa B h0 h As)(i:Nat)(a:As[i]?=some (A.and P)):P:=(H.at i a).2
theorem aa.aeO{P:Prop}(H:aa B h0 h As)(i:Nat)(b:As[i]?=some (A.and P)):aa B h0 h (As.set i A):=H.gq i b fun _ a=>a.1
theorem aa.ahG{P:Prop}(H:aa B h0 h As)(i:Nat)(b:As[i]?=some A)(c:P):aa B h0 h (As.set i (A.and P)):=H.gq i b fun _ a=>⟨a,c⟩
theorem aa.cons(H:aa B h0 h As)(i:Nat)(g:As[i]?=some A):aa B h0 h (A::As.set i emp):=by
 obtain⟨l,p,c,z,a⟩:=H;have k:=(qm.1 g).1;refine⟨l,p,fun b=>if c b=i+1 then 1 else if c b=0 then 0 else c b+1,fun b e=>?_,fun j X d=>?_⟩
 ·have:=z b e;dsimp only;rw[if_neg (by omega),if_pos this]
 ·cases j with
  |zero=>
   simp at d;subst d;refine A.mono (a i A g) fun b e=>⟨e.1,by dsimp only;rw[if_pos e.2]⟩
  |succ j=>
   rw[qy,q8]at d;split at d
   ·rename_i f;injection d with d;subst d;trivial
   ·rename_i f;refine X.mono (a j X d) fun b e=>⟨e.1,by dsimp only;rw[if_neg (by omega),if_neg (by omega)];omega⟩
theorem aa.rest(H:aa B h0 h (A::As)):aa B h0 h As:=H.pick (fun j=>j+1) (fun a b h=>by omega) fun j X c=>by simpa using c
end
structure je (α β:Type) where
 p:Heap->aA->α->β->Prop
 loc:∀{h h':Heap} {q:aA} {a:α} {b:β},p h q a b->aU q h h'->p h' q a b
 mono:∀{h:Heap} {q q':aA} {a:α} {b:β},p h q a b->(∀x,q x->q' x)->p h q' a b
def ju{α:Type}(k:Nat)(f:α->List Value):je Sl (List α):=⟨fun h q s l=>Seq h q s k f l,fun a c=>a.ai c,fun a b=>a.mono b⟩
def ua{α:Type}(k:Nat)(f:α->List Value):je Sl (List α):=⟨fun h q s l=>Seq h q s k f l/\(l=[]->s.ptr=none),fun a c=>⟨a.1.ai c,a.2⟩,fun a b=>⟨a.1.mono b,a.2⟩⟩
def cO{α β:Type}(E:je α β)(k:Nat)(f:α->List Value):je Sl (List β):=
 ⟨fun h q s ll=>∃rs:List α,Seq h q s k f rs/\rs.length=ll.length/\∀(i:Nat) r l,rs[i]?=some r->ll[i]?=some l->E.p h q r l,
  fun⟨rs,a,b,c⟩ hp=>⟨rs,a.ai hp,b,fun i r l e d=>E.loc (c i r l e d) hp⟩,fun⟨rs,a,b,c⟩ hq=>⟨rs,a.mono hq,b,fun i r l e d=>E.mono (c i r l e d) hq⟩⟩
def agx{α β:Type}(E:je α β)(P:α->β->Prop):je α β:=⟨fun h q a b=>E.p h q a b/\P a b,fun a d=>⟨E.loc a.1 d,a.2⟩,fun a c=>⟨E.mono a.1 c,a.2⟩⟩
def EA{α β:Type}(E:je α β)(a:α)(b:β):HP:=⟨fun h q=>E.p h q a b,fun x d=>E.loc x d,fun x c=>E.mono x c⟩
abbrev fG{α β:Type}(E:je α β)(h:Heap)(a:α)(b:β):Prop:=E.p h (fun b=>b<h.size) a b
def eM{α β:Type}(e:TypeId)(s:Sl)(k:Nat)(f:α->List Value)(E:je α β)(m:List β):HP:=
 ⟨fun h q=>∃(rs:List α) (j:aA),Own h e s k f rs/\(∀b,s.on b->q b/\¬j b)/\(∀b,j b->q b)/\rs.length=m.length/\∀(i:Nat) r l,rs[i]?=some r->m[i]?=some l->E.p h j r l,
  fun⟨rs,j,a,b,c,d,e⟩ hp=>⟨rs,j,a.ai hp fun x g=>(b x g).1,b,c,d,fun i r l o n=>E.loc (e i r l o n) (hp.mono fun x _ g=>c x g)⟩,
  fun⟨rs,j,a,b,c,d,e⟩ hq=>⟨rs,j,a,fun x g=>⟨hq x (b x g).1,(b x g).2⟩,fun x g=>hq x (c x g),d,e⟩⟩
section
variable {α β:Type} {E:je α β} {k:Nat} {f:α->List Value} {h h':Heap} {q:aA} {s:Sl} {ll:List β} {a:α} {b:β}
theorem fG.up(x:fG E h a b)(c:aU (fun b=>b<h.size) h h'):fG E h' a b:=E.mono (E.loc x c) fun _ d=>qV d c.1
theorem cO.sH(x:(cO E k f).p h q s ll):∃rs:List α,Seq h q s k f rs/\rs.length=ll.length/\∀(i:Nat) (e:i<rs.length) (d:i<ll.length),E.p h q rs[i] ll[i]:=by
 obtain⟨rs,a,b,c⟩:=x;exact⟨rs,a,b,fun i e d=>c i _ _ (qd e) (qd d)⟩
theorem cO.len(x:(cO E k f).p h q s ll):s.len=ll.length:=by obtain⟨rs,a,b,c⟩:=x;rw[a.len,b]
theorem cO.nil(h:Heap)(q:aA)(a:Option Addr)(c:Nat):(cO E k f).p h q ⟨a,0,c⟩ []:=⟨[],Seq.nil h q c a k f,rfl,fun i r l b=>by simp at b⟩
theorem cO.take(x:(cO E k f).p h q s ll)(n:Nat)(j:n<=ll.length):(cO E k f).p h q ⟨s.ptr,n,s.cap⟩ (ll.take n):=by
 obtain⟨rs,a,b,c⟩:=x;refine⟨rs.take n,a.take n (by omega),by simp[b],fun i r l d e=>?_⟩;rw[vo]at d e;split at d
 ·rename_i g;rw[if_pos g]at e;exact c i r l d e
 ·cases d
theorem cO.togr{γ:Type}{d:Nat}{g:γ->List Value}{l:List (List γ)}(x:fG (cO (ju d g) 1 bQ) h s l):gr h s d g l:=by
 obtain⟨rs,a,b,c⟩:=x;exact⟨rs,a,b,c⟩
theorem cO.impl{α':Type}{e:Type}{E':je α e}(u:β->e)(g:∀{h q a b},E.p h q a b->E'.p h q a (u b))(x:(cO E k f).p h q s ll):(cO E' k f).p h q s (ll.map u):=by
 obtain⟨rs,a,b,c⟩:=x;refine⟨rs,a,by simp[b],fun i r l j d=>?_⟩;rw[qP]at d;cases h3:ll[i]? with
 |none=>rw[h3]at d;cases d
 |some y=>rw[h3]at d;simp at d;subst d;exact g (c i r y j h3)
end
section
variable {α β:Type} {E:je α β} {C:Ctx} {k e t:Nat} {f:α->List Value} {B:aA} {h0 h h':Heap} {As:List HP} {s:Sl} {ll:List β} {z:List Value} {by_:Nat}
theorem aa.XW(H:aa B h0 h As)(e k:Nat)(f:α->List Value)(E:je α β):aa B h0 h (As++[eM e ⟨none,0,0⟩ k f E []]):=
 H.comp (.one (aU.refl _ _) ⟨[],fun _=>False,Own.nil h e k f,fun b a=>(by obtain⟨o,a⟩:=a;cases a),fun _ a=>a.elim,rfl,fun i r l h=>by simp at h⟩)
theorem aa.eRd(H:aa B h0 h As)(i:Nat)(j:As[i]?=some (eM e s k f E ll))(g:∀x,(f x).length=k):fG (cO E k f) h s ll:=by
 obtain⟨rs,p,a,b,c,d,e⟩:=H.at i j;exact⟨rs,a.seq g fun x m=>(b x m).1,d,fun i r l o n=>E.mono (e i r l o n) c⟩
theorem aa.eAt{a:α}{b:β}(H:aa B h0 h As)(i:Nat)(c:As[i]?=some (EA E a b)):fG E h a b:=H.at i c
theorem aa.ahX(H:aa B h0 h As)(i:Nat)(g:As[i]?=some (eM e s k f E ll)):s.len=ll.length/\s.len<=s.cap:=by
 obtain⟨rs,j,a,b,c,d,e⟩:=H.at i g;exact⟨by rw[a.len,d],a.cap⟩
theorem aa.Lw(hC:C.Ok)(H:aa B h0 h As)(i j:Nat)(G:i≠j){a:α}{b:β}(Y:As[i]?=some (eM e s k f E ll))(hj:As[j]?=some (EA E a b))(he:bN C.toCB t e k z by_)(hz:z.length=k)(U:0<by_/\by_<=128)(hw:∀x,(f x).length=k)
  (O:∀x,∀c∈f x,c.oneCell'=true) {parts:Array (Nat×Value)} (J:wu (fun i=>some (i*k,k)) (ir z 1).toArray parts.toList=some ([a].flatMap f).toArray) (X:1*k<=2^20)
  (ab:ll.length+1<=2^32) {ty:Nat} {K:Sl->Heap->Prop} (hk:∀T h',aa B h0 h' ((As.set j emp).set i (eM e T k f E (ll++[b])))->K T h'):
  av C.P (qq t 1 parts) (.one (.sc .slc)) h fun v y=>av C.P (qt #[t,t] ty #[.slice s.ptr s.len s.cap,.slice v.ptr v.len v.cap]) (.one (.sc .slc)) y K:=by
 have H2:=H.merge i j G Y hj (D:=⟨fun h q=>∃(rs:List α) (g:aA),Own h e s k f rs/\(∀b,s.on b->q b/\¬g b)/\(∀b,g b->q b)/\rs.length=ll.length/\(∀(i:Nat) r l,rs[i]?=some r->ll[i]?=some l->E.p h g r l)/\E.p h g a b,
  fun⟨rs,g,a,b,c,d,e,f⟩ hp=>⟨rs,g,a.ai hp fun x n=>(b x n).1,b,c,d,fun i r l y A=>E.loc (e i r l y A) (hp.mono fun x _ n=>c x n),E.loc f (hp.mono fun x _ n=>c x n)⟩,
  fun⟨rs,g,a,b,c,d,e,f⟩ hq=>⟨rs,g,a,fun x n=>⟨hq x (b x n).1,(b x n).2⟩,fun x n=>hq x (c x n),d,e,f⟩⟩)
  (fun g q2 hd hA hB=>by
   obtain⟨rs,q3,a,b,c,d,e'⟩:=hA;refine⟨rs,fun b=>q3 b∨q2 b,a,fun x n=>⟨.inl (b x n).1,fun S=>S.elim (b x n).2 (hd x (b x n).1)⟩,fun x n=>n.elim (fun h=>.inl (c x h)) .inr,d,fun i r l y A=>E.mono (e' i r l y A) fun _ h=>.inl h,E.mono hB fun _ h=>.inr h⟩)
 have u:i<As.length:=(qm.1 Y).1;obtain⟨lo,pp,c,zz,ax⟩:=H2;have ha:=ax i _ (by rw[z7 (Ne.symm G),zA u]);obtain⟨rs,g,a1,a2,a3,a4,a5,a6⟩:=ha;let c':Nat->Nat:=fun b=> @ite _ (g b) (Classical.propDecidable _) (As.length+2) (c b);have M:∀b,g b->b<h.size/\c b=i+1:=a3;have ho:dt h c' (i+1) e s k f rs:=⟨a1,fun b m=>by
  have:=a2 b m;show @ite _ (g b) (Classical.propDecidable _) _ _=_;rw[if_neg this.2];exact this.1.2⟩
 refine ho.push hC he hz U hw O a J X (by omega) fun T h' I L=>hk T h' ?_;rw[vh _ _ (Ne.symm G)];rw[<-vd (l:=As) (i:=i),vh _ _ G];have R:∀b,g b->c' b≠i+1:=fun b m=>by
  show @ite _ (g b) (Classical.propDecidable _) _ _≠_;rw[if_pos m];omega
 refine aa.DR lo pp zz ax (L.mono fun b m hn hc=>hn ⟨m,?_⟩) ⟨rs++[a],fun b=>g b/\b<h.size,I.own,fun b m=>?_,fun b m=>⟨qV m.2 L.1,.inl ⟨m.2,(M b m.1).2⟩⟩,by simp[a4],fun W r' l' y A=>?_⟩
 ·by_cases F:g b
  ·exact(M b F).2
  ·have o: @ite _ (g b) (Classical.propDecidable _) (As.length+2) (c b)=i+1:=hc;rw[if_neg F]at o;exact o
 ·have w:=I.bp b m;by_cases u:b<h.size
  ·rw[fY u]at w;have Q:¬g b:=fun F=>R b F w;have o: @ite _ (g b) (Classical.propDecidable _) (As.length+2) (c b)=i+1:=w;rw[if_neg Q]at o;exact⟨⟨I.own.lt m,.inl ⟨u,o⟩⟩,fun S=>Q S.1⟩
  ·exact⟨⟨I.own.lt m,.inr (by omega)⟩,fun S=>u S.2⟩
 ·have N:∀{Z:α} {l:β},E.p h g Z l->E.p h' (fun b=>g b/\b<h.size) Z l:=fun hs=>
   E.loc (E.mono hs (q':=fun b=>g b/\b<h.size) fun b m=>⟨m,(M b m).1⟩) (L.mono fun b _ m=>R b m.1)
  by_cases V:W<rs.length
  ·rw[qn V]at y;rw[qn (by omega)]at A;exact N (a5 W r' l' y A)
  ·have:W=rs.length:=by
    have:=(qm.1 y).1;simp at this;omega
   subst this;simp at y;rw[a4]at A;simp at A;subst y;subst A;exact N a6
theorem aa.ahY{R:TI}(hC:C.Ok)(H:aa B h0 h As)(i j:Nat)(y:i≠j){a:α}{b:β}(O:As[i]?=some (eM e s k f E ll))(hj:As[j]?=some (EA E a b))(hw:∀x,(f x).length=k)(U:C.T.get t=some R){x:Int}(n:Nat)(g:x=n)(hn:n<ll.length){J:Value}(hv:J.cells=(f a).toArray)(M:R.size=k)
  (I:(f a).all (·.oneCell')=true) {K:Heap->Prop} (V:∀h',aa B h0 h' ((As.set j emp).set i (eM e s k f E (ll.set n b)))->K h'):
  ∃a:Addr,(s.ptr=some a/\0<=x/\x<((s.len:Nat):Int))/\ac C.P (qf t (.pointer (some (a.add (x.toNat*k)))) J) h fun _ h'=>K h':=by
 have H2:=H.merge i j y O hj (D:=⟨fun h q=>∃(rs:List α) (m:aA),Own h e s k f rs/\(∀b,s.on b->q b/\¬m b)/\(∀b,m b->q b)/\rs.length=ll.length/\(∀(i:Nat) r l,rs[i]?=some r->ll[i]?=some l->E.p h m r l)/\E.p h m a b,
  fun⟨rs,m,a,b,c,d,e,f⟩ hp=>⟨rs,m,a.ai hp fun x g=>(b x g).1,b,c,d,fun i r l o u=>E.loc (e i r l o u) (hp.mono fun x _ g=>c x g),E.loc f (hp.mono fun x _ g=>c x g)⟩,
  fun⟨rs,m,a,b,c,d,e,f⟩ hq=>⟨rs,m,a,fun x g=>⟨hq x (b x g).1,(b x g).2⟩,fun x g=>hq x (c x g),d,e,f⟩⟩)
  (fun m q2 X hA hB=>by
   obtain⟨rs,q3,a,b,c,d,e'⟩:=hA;refine⟨rs,fun b=>q3 b∨q2 b,a,fun x g=>⟨.inl (b x g).1,fun hh=>hh.elim (b x g).2 (X x (b x g).1)⟩,fun x g=>g.elim (fun h=>.inl (c x h)) .inr,d,fun i r l o u=>E.mono (e' i r l o u) fun _ h=>.inl h,E.mono hB fun _ h=>.inr h⟩)
 have L:i<As.length:=(qm.1 O).1;obtain⟨Y,W,c,zz,ax⟩:=H2;have Z:=ax i _ (by rw[z7 (Ne.symm y),zA L]);obtain⟨rs,m,a1,G,a3,a4,a5,S⟩:=Z;refine a1.set hC hw U n g (by omega) a hv M I fun h' z w _=>V h' ?_;rw[vh _ _ (Ne.symm y)];rw[<-vd (l:=As) (i:=i),vh _ _ y];have keep:∀{Q:α} {l:β},E.p h m Q l->E.p h' m Q l:=fun hs=>E.loc hs (w.mono fun b _ v F=>(G b F).2 v);refine aa.DR Y W zz ax (w.mono fun b _ v F=>v (G b F).1) ⟨rs.set n a,m,z,fun b v=>⟨⟨qV (G b v).1.1 w.1,.inl (G b v).1⟩,(G b v).2⟩,fun b v=>⟨qV (a3 b v).1 w.1,.inl (a3 b v)⟩,by simp[a4],fun i' r' N o u=>?_⟩;rw[q8]at o u;split at o
 ·rename_i A;rw[if_pos A]at u;split at o
  ·injection o with o;subst o
   have e:N=b:=by
    rw[if_pos (by omega)]at u;exact(zL.inj u).symm
   subst e;exact keep S
  ·cases o
 ·rename_i A;rw[if_neg A]at u;exact keep (a5 i' r' N o u)
end
section
variable {α β:Type} {E:je α β} {k e:Nat} {f:α->List Value} {B:aA} {h0 h:Heap} {As:List HP} {s:Sl}
theorem aa.XX{α:Type}{f:α->List Value}{l:List α}(H:aa B h0 h As)(i:Nat)(c:As[i]?=some (an e s k f l))(b:∀x,(f x).length=k):aa B h0 h (As.set i (EA (ju k f) s l)):=H.gq i c fun _ a=>a.1.seq b a.2
end
section
variable {α:Type} {B:aA} {h0 h:Heap} {As:List HP} {e e2 k:Nat} {s:Sl} {f:α->List Value} {rs:List Sl} {ll:List (List α)}
theorem aa.XY{s:Sl}{a:List (List α)}(H:aa B h0 h As)(i:Nat)(c:As[i]?=some (fP e s k f a)):aa B h0 h (As.set i (eM e s 1 bQ (ju k f) a)):=H.gq i c fun _ b=>b
end
theorem PF{h h':Heap}{p:aA}(a:aU p h h'):∀{L:ar},L.ok h->(∀x∈L,p x.1.block)->L.ok h'
 |[],_,_=>trivial
 |x::L,hk,hq=>⟨a.cell (hq x (by simp)) hk.1,PF a hk.2 fun y b=>hq y (by simp[b])⟩
theorem kW{h h':Heap}(d:aU (fun b=>b<h.size) h h'){L:ar}(c:L.ok h):L.ok h':=PF d c (by
 clear d
 induction L with
 |nil=>intro x a;cases a
 |cons y L ih=>
  intro x a;rcases za.1 a with rfl|a
  ·exact uA c.1
  ·exact ih c.2 x a)
theorem av.both{P:Program}{s:Sem Value}{h:Heap}{K:Sl->Heap->Prop}{Q:Heap->Prop}(f:av P s (.one (.sc .slc)) h fun _ h'=>Q h')(e:av P s (.one (.sc .slc)) h K):av P s (.one (.sc .slc)) h fun x h'=>Q h'/\K x h':=by
 intro w b;obtain⟨l,j,c,d,m,a3,a4⟩:=f w b;obtain⟨n,k,a,o,x2,g,i⟩:=e w b;rw[c]at a;cases a;exact⟨_,_,c,d,x2,g,a4,i⟩
theorem aa.rU{α:Type}{B:aA}{C:Ctx}{m h:Heap}{As:List HP}{e t k d:Nat}{z:List Value}{K:Sl->Heap->Prop}(p:C.Ok)(H:aa B m h As)(f:α->List Value)(o:bN C.toCB t e k z d)(b:z.length=k){n:Nat}{parts:Array (Nat×Value)}(l:List α)(q:l.length=n)(c:n*k<=2^20)
  (a:wu (fun i=>some (i*k,k)) (ir z n).toArray parts.toList=some (l.flatMap f).toArray) {L:ar} (r:L.ok h) (g:av C.P (qq t n parts) (.one (.sc .slc)) h K):
  av C.P (qq t n parts) (.one (.sc .slc)) h fun x h'=>L.ok h'/\K x h':=
 av.both ((Sp.refl h).lit p f o b l q c a fun _ _ j=>kW j.ai r) g
section
variable {B:aA} {h0 h h':Heap} {As Bs:List HP} {A D E:HP} {i j:Nat}
theorem aa.front(H:aa B h0 h (As++Bs)):aa B h0 h (Bs++As):=
 H.pick (fun j=>if j<Bs.length then As.length+j else if j<Bs.length+As.length then j-Bs.length else j)
  (fun a b c=>by(try dsimp only at c);split at c<;>split at c<;>(try split at c)<;>(try split at c)<;>omega) fun j X e=>by
  try dsimp only
  split
  ·rename_i d;rw[qn d]at e;rw[qj (by omega),zn];exact e
  ·rename_i d;rw[qj (by omega)]at e;have:=(qm.1 e).1;rw[if_pos (by omega),qn this];exact e
theorem aa.bM(H:aa B h0 h (As++[A])):aa B h0 h (A::As):=H.front
theorem aa.dc(H:aa B h0 h As)(R:Sp h h' [A]):aa B h0 h' (A::As):=(H.comp R).bM
theorem aa.Lx(H:aa B h0 h (A::As)):aa B h0 h As:=H.rest
theorem aa.II(H:aa B h0 h (A::D::As)):aa B h0 h (A::As):=H.del 1
theorem aa.IJ{ι:Type}{F:ι->HP}(H:aa B h0 h (HP.ex F::As)):∃x,aa B h0 h (F x::As):=H.XV 0 rfl
theorem aa.Ly{ι:Type}{F:ι->HP}(x:ι)(H:aa B h0 h (F x::As)):aa B h0 h (HP.ex F::As):=H.close' 0 x rfl
theorem aa.Lz(H:aa B h0 h (A.sep D::As)):aa B h0 h (D::A::As):=(H.split 0 rfl).bM
theorem aa.pA(H:aa B h0 h (D::A::As)):aa B h0 h (A.sep D::As):=by
 have a:aa B h0 h (emp::A.sep D::As):=H.join 1 0 (by decide) rfl rfl;exact a.rest
theorem aa.xx(H:aa B h0 h (A::D::As)):aa B h0 h (D::A::As):=H.aeN 0 1 rfl rfl
end
theorem Seq.ox{h:Heap}{p:aA}{s:Sl}{rs:List Sl}(d:Seq h p s 1 bQ rs){i:Int}(n:Nat)(b:i=n)(e:n<rs.length){K:Sl->Prop}(c:K rs[n]):
  ∃a:Addr,(s.ptr=some a/\0<=i/\i<((s.len:Nat):Int))/\∃x:Sl,cellOf h (a.add (i.toNat*1))=some (.slice x.ptr x.len x.cap)/\K x:=
 d.bz (g:=fun r:Sl=>Value.slice r.ptr r.len r.cap) n b e rs[n] rfl c
def St(B:aA)(a:Heap)(As:List HP)(Q:Heap->Prop):Prop:=∀(Bs:List HP) (h':Heap),aa B a h' (Bs++As)->Q h'
section
variable {B:aA} {h0 h h':Heap} {As Bs:List HP} {A:HP} {Q:Heap->Prop}
theorem St.at(x:St B h0 As Q)(Bs:List HP)(H:aa B h0 h (Bs++As)):Q h:=x Bs h H
theorem St.ij(j:Nat)(a:As[j]?=some A)(c:∀h',A.p h' (fun b=>b<h'.size)->Q h'):St B h0 As Q:=fun Bs h' H=>c _ (H.at (Bs.length+j) (by rw[qj (by omega),zn];exact a))
theorem St.cons(x:St B h0 As Q):St B h0 (A::As) Q:=fun Bs h' H=>x (Bs++[A]) h' (by rw[qp];exact H)
end
section
variable {β:Type} {E:je Sl β} {h:Heap} {q:aA} {s:Sl} {ll:List β}
end
theorem Gv{α:Type}{l:List α}(f:l.Nodup){a b:Nat}(c:a<l.length)(d:b<l.length)(h:l[a]=l[b]):a=b:=by
 have e:=zd.1 f;rcases yg a b with hlt|he|hgt
 ·exact absurd h (e a b c d hlt)
 ·exact he
 ·exact absurd h.symm (e b a d c hgt)
theorem aa.bO{B:aA}{k h:Heap}{As:List HP}(H:aa B k h As)(L:List Nat)(g:∀j∈L,j<As.length:=by simp)(m:L.Nodup:=by decide):aa B k h (L.map fun j=>As.getD j emp):=by
 refine H.pick (fun i=>if h:i<L.length then L[i]else As.length+i) (fun a b c=>?_) fun i A2 e=>?_
 ·try dsimp only at c
  split at c<;>split at c
  ·exact Gv m _ _ c
  ·have:=g _ (qg (l:=L) (n:=a) (by assumption));omega
  ·have:=g _ (qg (l:=L) (n:=b) (by assumption));omega
  ·omega
 ·try dsimp only
  rw[qP]at e;split
  ·rename_i d;rw[qd d]at e;have f:=g _ (qg d);simp only[qN,zL.injEq]at e;rw[<-e,qe,qd f];rfl
  ·rename_i d;rw[zf (by omega)]at e;simp at e
theorem St.mk'{B:aA}{a:Heap}{As:List HP}{Q:Heap->Prop}(x:∀h',aa B a h' As->Q h'):St B a As Q:=fun Bs h' H=>x h' (H.take Bs.length fun i A b=>by
 rw[qj (by omega),zn];exact b)
theorem aa.bo{B:aA}{m h:Heap}{As:List HP}(H:aa B m h As)(k:Nat)(L:List Nat)(p:k<=As.length:=by simp)(f:∀j∈L,j<k:=by simp)(o:L.Nodup:=by decide):aa B m h (L.map (fun j=>As.getD j emp)++As.drop k):=by
 refine H.pick (fun i=>if h:i<L.length then L[i]else k+(i-L.length)) (fun a b d=>?_) fun i A2 e=>?_
 ·try dsimp only at d
  split at d<;>split at d
  ·exact Gv o _ _ d
  ·have:=f _ (qg (l:=L) (n:=a) (by assumption));omega
  ·have:=f _ (qg (l:=L) (n:=b) (by assumption));omega
  ·omega
 ·try dsimp only
  by_cases c:i<L.length
  ·rw[dif_pos c];rw[qn (by simpa using c),qP,qd c]at e;have g:=f _ (qg c);simp only[qN,zL.injEq]at e;rw[<-e,qe,qd (by omega)];rfl
  ·rw[dif_neg c];rw[qj (by simpa using c),qx,wB]at e;exact e
section
variable {α β:Type} {E:je α β} {C:Ctx} {k e t by_:Nat} {f:α->List Value} {B:aA} {h0 h h':Heap} {As:List HP} {q:aA} {s:Sl} {rs:List α} {ll:List β} {ti:TI} {z:List Value}
def Fix(E:je α β)(k:Nat)(f:α->List Value)(h:Heap)(q:aA)(s:Sl)(rs:List α)(a:List β):Prop:=Seq h q s k f rs/\rs.length=a.length/\∀(i:Nat) r l,rs[i]?=some r->a[i]?=some l->E.p h q r l
theorem Fix.ai(x:Fix E k f h q s rs ll)(a:aU q h h'):Fix E k f h' q s rs ll:=⟨x.1.ai a,x.2.1,fun i r l c b=>E.loc (x.2.2 i r l c b) a⟩
theorem Fix.mono{q':aA}(x:Fix E k f h q s rs ll)(a:∀b,q b->q' b):Fix E k f h q' s rs ll:=⟨x.1.mono a,x.2.1,fun i r l d c=>E.mono (x.2.2 i r l d c) a⟩
abbrev nX(E:je α β)(k:Nat)(f:α->List Value)(h:Heap)(s:Sl)(rs:List α)(a:List β):Prop:=Fix E k f h (fun b=>b<h.size) s rs a
theorem nX.up(x:nX E k f h s rs ll)(a:aU (fun b=>b<h.size) h h'):nX E k f h' s rs ll:=(Fix.ai x a).mono fun _ c=>qV c a.1
theorem Fix.row(x:Fix E k f h q s rs ll){i:Nat}(a:i<ll.length):E.p h q (rs[i]'(by rw[x.2.1];exact a)) ll[i]:=x.2.2 i _ _ (qd _) (qd _)
theorem cO.fix(x:(cO E k f).p h q s ll):∃rs,Fix E k f h q s rs ll:=x
theorem Fix.elt(x:Fix E k f h q s rs ll):(cO E k f).p h q s ll:=⟨rs,x⟩
def cj(E:je α β)(k:Nat)(f:α->List Value)(s:Sl)(rs:List α)(b:List β):HP:=⟨fun h q=>Fix E k f h q s rs b,fun x c=>x.ai c,fun x a=>x.mono a⟩
theorem aa.Ob(H:aa B h0 h As)(i:Nat)(j:As[i]?=some (eM e s k f E ll))(t:∀x,(f x).length=k):∃rs,aa B h0 h (As.set i (cj E k f s rs ll)):=by
 have g:i<As.length:=(qm.1 j).1;have p:aa B h0 h (As.set i (HP.ex fun rs=>cj E k f s rs ll)):=H.gq i j fun q ⟨rs,v,a,b,c,d,e⟩=>⟨rs,a.seq t fun x u=>(b x u).1,d,fun i r l o n=>E.mono (e i r l o n) c⟩
 obtain⟨rs,m⟩:=p.XV i (zA g);exact⟨rs,by rw[vd]at m;exact m⟩
theorem aa.dO(H:aa B h0 h As)(i:Nat)(a:As[i]?=some (cj E k f s rs ll)):nX E k f h s rs ll:=H.at i a
theorem aa.Gw(f:C.Ok)(H:aa B h0 h As)(d:C.T.get t=some ti){K:Addr->Heap->Prop}(e:∀a h',aU (fun b=>b<h.size) h h'->aa B h0 h' (As++[aq a t ti.zero])->K a h'):
  aQ C.P (qK t true (.tuple #[])) h K:=
 AT f d fun a h' x y c _=>e a h' (c.mono fun _ _ _=>trivial) (H.comp (NZ x y c))
theorem aa.LA(D:C.Ok)(H:aa B h0 h As)(f:α->List Value)(s:bN C.toCB t e k z by_)(d:0<by_/\by_<=128)(i:α)(u:f i=z)(g:z.length=k){v A:IntKind}{n p:Int}(m c:Nat)(E:n=m)(r:p=c)(j:m<=c)(l:c<=2^32)
  {K:Sl->Heap->Prop} (q:∀a h',a.len=m->aU (fun b=>b<h.size) h h'->aa B h0 h' (As++[an e a k f (qh m i)])->K a h'):
  av C.P (qD t (.int v n) (.int A p)) (.one (.sc .slc)) h K:=
 run_make D s d i u g m c E r j l fun a h' x y w o _=>q a h' (by rw[x.len];simp) (o.mono fun _ _ _=>trivial) (H.comp (NY rfl x y o))
end
section
variable {α:Type} {C:Ctx} {B:aA} {h0 h:Heap} {As:List HP} {e t k:Nat} {s:Sl} {f:α->List Value} {l:List α} {i:TI}
theorem Own.acU(I:C.Ok)(r:Own h e s k f l)(A:∀x,(f x).length=k)(B:C.T.get t=some i){x:Int}(n:Nat)(J:x=n)(v:n<l.length)(j:Nat)(vs:List Value)(M:j+vs.length<=k){p:Value}(y:α)(L:p.cells=vs.toArray)(u:i.size=vs.length)
  (o:vs.all (·.oneCell')=true) (G:f y=(f l[n]).take j++vs++(f l[n]).drop (j+vs.length)) {K:Heap->Prop} (D:∀h',Own h' e s k f (l.set n y)->aU (fun b=>¬s.on b) h h'->K h'):
  ∃a:Addr,(s.ptr=some a/\0<=x/\x<((s.len:Nat):Int))/\ac C.P (qf t (.pointer (some ((a.add (x.toNat*k)).add j))) p) h fun _ h'=>K h':=by
 subst J;rcases r.head with⟨_,_,h3⟩|⟨b,rest,h1,h2,h3,h4⟩
 ·subst h3;simp at v
 ·refine⟨_,⟨h1,by omega,by rw[r.len];omega⟩,?_⟩;unfold qf;refine ac.bind (ac.pure' ?_);unfold storeVar;refine ac.bind (ac.always (dH I.toOk B) ?_);rw[L,u];simp only[wZ,ne_eq,not_true,if_false];rw[add_eq,add_eq,zR,qo];have g:l=l.take n++l[n]::l.drop (n+1):=by rw[<-qW v,qE]
  have q:l.set n y=l.take n++y::l.drop (n+1):=yA.trans (if_pos v);have m:((l.take n).flatMap f).length=n*k:=by rw[dg A,qZ,w6 (by omega)]
  have F:=A l[n];have d:f l[n]=(f l[n]).take j++((f l[n]).drop j).take vs.length++(f l[n]).drop (j+vs.length):=by
   rw[qp,<-zy,qE,qE]
  refine eP (e:=e) (pre:=(l.take n).flatMap f++(f l[n]).take j) (old:=((f l[n]).drop j).take vs.length) (post:=(f l[n]).drop (j+vs.length)++((l.drop (n+1)).flatMap f++rest)) ?_ ?_ ?_ ?_ ?_
  ·have:l.flatMap f++rest=(l.take n).flatMap f++(f l[n]).take j++((f l[n]).drop j).take vs.length++((f l[n]).drop (j+vs.length)++((l.drop (n+1)).flatMap f++rest)):=by
    have w:=congrArg (List.flatMap f) g;rw[zc,zl]at w;rw[w];generalize f l[n]=z at d;rw[qp]at d;simp only[qp];congr 1
    conv=>lhs;rw[d]
    simp only[qp]
   rw[<-this];exact h2
  ·simp;omega
  ·rw[qw,m,qZ];omega
  ·intro c E;exact qM.1 o c E
  ·refine D _ ⟨by rw[zH];exact r.len,.inr ⟨b,rest,h1,?_,h3,h4⟩⟩ (aU.iG h2 (fun H=>H ⟨0,h1⟩));rw[hJ h2,if_pos rfl,q,zc,zl,G];simp[qp]
theorem aa.acU(v:C.Ok)(H:aa B h0 h As)(g:Nat)(c:As[g]?=some (an e s k f l))(q:∀x,(f x).length=k)(o:C.T.get t=some i){x:Int}(n:Nat)(A:x=n)(E:n<l.length)(j:Nat)(vs:List Value)(u:j+vs.length<=k){d:Value}(y:α)(D:d.cells=vs.toArray)(m:i.size=vs.length)
  (b:vs.all (·.oneCell')=true) (r:f y=(f l[n]).take j++vs++(f l[n]).drop (j+vs.length)) {K:Heap->Prop} (p:∀h',aa B h0 h' (As.set g (an e s k f (l.set n y)))->K h'):
  ∃a:Addr,(s.ptr=some a/\0<=x/\x<((s.len:Nat):Int))/\ac C.P (qf t (.pointer (some ((a.add (x.toNat*k)).add j))) d) h fun _ h'=>K h':=
 (H.own g c).acU v q o n A E j vs u y D m b r fun h' z w=>p h' (H.oI g c w z)
end
def HP.all:List HP->HP
 |[]=>emp
 |A::L=>A.sep (HP.all L)
section
variable {B:aA} {h0 h h':Heap} {As L:List HP} {A D E:HP}
theorem aa.CE:∀{L:List HP} {As:List HP},aa B h0 h (HP.all L::As)->aa B h0 h (L++As)
 |[],_,H=>H.rest
 |A::L,As,H=>by
  have g:aa B h0 h (HP.all L::A::As):=H.Lz;have e:=aa.CE g;exact e.pick (fun i=>if i=0 then L.length else if i<=L.length then i-1 else i) (fun a b c=>by(try dsimp only at c);split at c<;>split at c<;>(try split at c)<;>(try split at c)<;>omega) fun i X d=>by
   try dsimp only
   rw[zx]at d;cases i with
   |zero=>simp at d;subst d;rw[if_pos rfl,qj (ql _),zj];rfl
   |succ i=>
    rw[qy]at d;rw[if_neg (by omega)];by_cases f:i<L.length
    ·rw[qn f]at d;rw[if_pos (by omega),qn (by omega)];simpa using d
    ·rw[qj (by omega)]at d;rw[if_neg (by omega),qj (by omega)];rw[show i+1-L.length=(i-L.length)+1 by omega,qy];exact d
theorem aa.closeAll:∀(L:List HP) {As:List HP},aa B h0 h (L++As)->aa B h0 h (HP.all L::As)
 |[],As,H=>((H.comp (.one (A:=emp) (aU.refl _ _) trivial)).bM:aa B h0 h (emp::As))
 |A::L,As,H=>by
  have g:aa B h0 h (L++(A::As)):=H.pick (fun i=>if i<L.length then i+1 else if i=L.length then 0 else i) (fun a b c=>by(try dsimp only at c);split at c<;>split at c<;>(try split at c)<;>(try split at c)<;>omega) fun i X d=>by
   try dsimp only
   by_cases e:i<L.length
   ·rw[qn e]at d;rw[if_pos e,zx,qy,qn e];exact d
   ·rw[qj (by omega)]at d;by_cases f:i=L.length
    ·subst f;rw[zj]at d;rw[if_neg (by omega),if_pos rfl];simpa using d
    ·rw[if_neg e,if_neg f,zx];obtain⟨j,rfl⟩:∃j,i=L.length+(j+1):=⟨i-L.length-1,by omega⟩
     rw[zn,qy]at d;rw[show L.length+(j+1)=(L.length+j)+1 by omega,qy,qj (by omega),zn];exact d
  exact(aa.closeAll L g).pA
theorem aa.Kj{P:Prop}(H:aa B h0 h (A.and P::As)):aa B h0 h (A::As)/\P:=⟨H.aeO 0 rfl,H.fact 0 rfl⟩
theorem aa.toKj{P:Prop}(H:aa B h0 h (A::As))(p:P):aa B h0 h (A.and P::As):=H.ahG 0 rfl p
end
def mi{α:Type}(e:TypeId)(s:Sl)(b:TypeId)(k:Nat)(f:α->List Value)(a:List (List α)):HP:=
 HP.ex fun rs:List Sl=>(HP.all (an e s 1 bQ rs::bT b k f rs a)).and (rs.length=a.length)
section
variable {α:Type} {C:Ctx} {B:aA} {h0 h h':Heap} {As:List HP} {e e2 k t by_:Nat} {s:Sl} {f:α->List Value} {ll:List (List α)}
theorem aa.LB(H:aa B h0 h (mi e s e2 k f ll::As)):∃rs:List Sl,rs.length=ll.length/\aa B h0 h ((an e s 1 bQ rs::bT e2 k f rs ll)++As):=by
 obtain⟨rs,H⟩:=H.IJ;obtain⟨H,a⟩:=H.Kj;exact⟨rs,a,H.CE⟩
theorem aa.SB{rs:List Sl}(a:rs.length=ll.length)(H:aa B h0 h ((an e s 1 bQ rs::bT e2 k f rs ll)++As)):aa B h0 h (mi e s e2 k f ll::As):=
 ((aa.closeAll _ H).toKj a).Ly (F:=fun rs:List Sl=>(HP.all (an e s 1 bQ rs::bT e2 k f rs ll)).and (rs.length=ll.length)) rs
theorem aa.Gy(H:aa B h0 h As)(e a k:Nat)(f:α->List Value):aa B h0 h (mi e ⟨none,0,0⟩ a k f []::As):=
 aa.SB (rs:=[]) rfl ((H.nil e 1 bQ).bM)
theorem aa.acV{Bs:List HP}(H:aa B h0 h (As++Bs)):aa B h0 h As:=H.pick id (fun _ _ h=>h) fun i A a=>by
 rw[id,qn (qm.1 a).1];exact a
theorem aa.PG(H:aa B h0 h (mi e s e2 k f ll::As))(a:∀x,(f x).length=k):gr h s k f ll:=by
 obtain⟨rs,b,H⟩:=H.LB;exact aa.Sz (aa.acV H) b a
theorem aa.DS(H:aa B h0 h (mi e s e2 k f ll::As)):s.len=ll.length/\s.len<=s.cap:=by
 obtain⟨rs,a,H⟩:=H.LB;exact⟨by rw[(H.own 0 rfl).len,a],(H.own 0 rfl).cap⟩
theorem aa.IK(m:C.Ok){r:Sl}{x:List α}(H:aa B h0 h (mi e s e2 k f ll::an e2 r k f x::As))(i:bN C.toCB t e 1 [.slice none 0 0] 24)(l:ll.length+1<=2^32){ty:Nat}{K:Sl->Heap->Prop}
  (d:∀a h',aa B h0 h' (mi e a e2 k f (ll++[x])::As)->K a h'):
  av C.P (qq t 1 #[(0,.slice r.ptr r.len r.cap)]) (.one (.sc .slc)) h fun v g=>av C.P (qt #[t,t] ty #[.slice s.ptr s.len s.cap,.slice v.ptr v.len v.cap]) (.one (.sc .slc)) g K:=by
 obtain⟨rs,c,H⟩:=H.LB;refine H.push m 0 rfl i rfl (by decide) (fun _=>rfl) nW r rfl (by decide) (by omega) fun a h' b=>d a h' ?_;refine aa.SB (rs:=rs++[r]) (by simp[c]) ?_;rw[xw c];have b:aa B h0 h' (an e a 1 bQ (rs++[r])::(bT e2 k f rs ll++an e2 r k f x::As)):=b;have j:an e a 1 bQ (rs++[r])::(bT e2 k f rs ll++[an e2 r k f x])++As=an e a 1 bQ (rs++[r])::(bT e2 k f rs ll++an e2 r k f x::As):=by simp
 rw[j];exact b
end
end Go.Vc
namespace Gf
theorem acW{p:UInt8->Prop}(h:∀n,n<256->p (yq n))(a:UInt8):p a:=by
 have:=h a.toNat (wP a)
 rwa [yG]at this
def x2(a:UInt8):UInt8:=(a<<<1)^^^(if a&&&0x80=0 then 0 else 0x1b)
def x3(a:UInt8):UInt8:=x2 a^^^a
def pw:Nat->UInt8
 |0=>1
 |n+1=>x3 (pw n)
theorem afo(a b c:UInt8):(a^^^b)&&&c=(a&&&c)^^^(b&&&c):=by
 apply UInt8.toBitVec_inj.1;simp[UInt8.toBitVec_xor,UInt8.toBitVec_and];ext i hi;simp[Bool.and_xor_distrib_right]
theorem afp(a b:UInt8):(a^^^b)<<<1=(a<<<1)^^^(b<<<1):=by
 apply UInt8.toBitVec_inj.1;simp[UInt8.toBitVec_xor,UInt8.toBitVec_shiftLeft,BitVec.shiftLeft_xor_distrib]
theorem SC:∀a:UInt8,a&&&0x80=0∨a&&&0x80=0x80:=acW (by decide+kernel)
theorem acX(a b c d:UInt8):(a^^^b)^^^(c^^^d)=(a^^^c)^^^(b^^^d):=by ac_rfl
theorem agz(a b:UInt8):x2 (a^^^b)=x2 a^^^x2 b:=by
 unfold x2;rw[afo,afp];rcases SC a with ha|ha<;>rcases SC b with hb|hb<;>rw[ha,hb]
 ·simp
 ·simp[UInt8.xor_assoc]
 ·rw[acX];simp
 ·rw[acX];simp
theorem agA(a b:UInt8):x3 (a^^^b)=x3 a^^^x3 b:=by unfold x3;rw[agz,acX]
def xy:Nat->UInt8->UInt8
 |0,a=>a
 |n+1,a=>x3 (xy n a)
theorem Xe(a b:UInt8):∀n,xy n (a^^^b)=xy n a^^^xy n b
 |0=>rfl
 |n+1=>by simp only[xy,Xe a b n,agA]
theorem Oc(a:UInt8)(m:Nat):∀n,xy (n+m) a=xy n (xy m a)
 |0=>by simp[xy]
 |n+1=>by rw[Nat.add_right_comm];simp only[xy,Oc a m n]
theorem SD:∀n,xy n 0=0
 |0=>rfl
 |n+1=>by rw[xy,SD n];rfl
theorem CF:∀n,pw n=xy n 1
 |0=>rfl
 |n+1=>by rw[pw,xy,CF n]
def ahZ:Nat:=939374623831894136699086600277250597547650664638770418422125146541797353646788332867483593573384618611044815625336497665827114626705134492515730415652478061620339993830966980270842846318821775850471098591710629241171812800746666233448222972174585295916389942636813666312872914849454985560152530477328703759683306625234997237483834721220409437442253146756845415190424543171129629468776480674528486868811725071010351012234056630775688111116293610821126543142160426617079940511630006820862697466582575257349116925728488930366609138264019883664906661504235885380294353134295748489096855100647154935187045898006656778240
def lg(a:UInt8):Nat:=(ahZ>>>(8*a.toNat))%256
theorem LC:∀a:UInt8,lg a<255:=acW (by decide+kernel)
theorem XZ:∀a:UInt8,a≠0->pw (lg a)=a:=acW (by decide+kernel)
theorem Ya:∀n,n<255->lg (pw n)=n:=by decide+kernel
theorem agB:pw 255=1:=by decide+kernel
theorem Yb:∀n,n<255->pw n≠0:=by decide+kernel
theorem aai(n:Nat):pw (n+255)=pw n:=by
 rw[CF,Oc,<-CF 255,agB,<-CF]
theorem aaj(n:Nat):pw (n%255)=pw n:=by
 have:∀k m,pw (m+255*k)=pw m:=by
  intro k
  induction k with
  |zero=>intro m;rfl
  |succ k ih=>intro m;rw[Nat.mul_succ,<-yp,aai,ih]
 have h:=this (n/255) (n%255);rw[Nat.mod_add_div]at h;exact h.symm
def mul(a b:UInt8):UInt8:=if a=0∨b=0 then 0 else pw ((lg a+lg b)%255)
def inv(a:UInt8):UInt8:=if a=0 then 0 else pw ((255-lg a)%255)
theorem mul_zero(a:UInt8):mul a 0=0:=by simp[mul]
theorem zero_mul(a:UInt8):mul 0 a=0:=by simp[mul]
theorem mul_comm(a b:UInt8):mul a b=mul b a:=by
 unfold mul;rw[Nat.add_comm];by_cases h:a=0∨b=0
 ·rw[if_pos h,if_pos h.symm]
 ·rw[if_neg h,if_neg fun x=>h x.symm]
theorem SE(a b:UInt8)(d:a≠0):mul a b=xy (lg a) b:=by
 by_cases c:b=0
 ·subst c;rw[mul_zero,SD]
 ·rw[mul,if_neg (by simp[d,c]),aaj,CF,Oc,<-CF,XZ b c]
theorem jP(a b c:UInt8):mul a (b^^^c)=mul a b^^^mul a c:=by
 by_cases d:a=0
 ·subst d;simp[zero_mul]
 ·rw[SE _ _ d,SE _ _ d,SE _ _ d,Xe]
theorem Xf(a b c:UInt8):mul (a^^^b) c=mul a c^^^mul b c:=by rw[mul_comm,jP,mul_comm c a,mul_comm c b]
theorem aak{a b:UInt8}(c:a≠0)(d:b≠0):mul a b≠0:=by
 rw[mul,if_neg (by simp[c,d])];exact Yb _ (yJ _ (by decide))
theorem aal{a b:UInt8}(c:a≠0)(d:b≠0):lg (mul a b)=(lg a+lg b)%255:=by
 rw[mul,if_neg (by simp[c,d]),Ya _ (yJ _ (by decide))]
theorem mul_assoc(a b c:UInt8):mul (mul a b) c=mul a (mul b c):=by
 by_cases e:a=0
 ·subst e;simp[zero_mul]
 by_cases d:b=0
 ·subst d;simp[zero_mul,mul_zero]
 by_cases f:c=0
 ·subst f;simp[mul_zero]
 rw[mul,if_neg (by simp[aak e d,f]),aal e d,mul,if_neg (by simp[e,aak d f]),aal d f];congr 1;omega
theorem agC:lg 1=0:=by decide+kernel
theorem one_mul(a:UInt8):mul 1 a=a:=by
 by_cases b:a=0
 ·subst b;rfl
 ·rw[mul,if_neg (by simp[b]),agC,zR,aaj,XZ a b]
theorem mul_one(a:UInt8):mul a 1=a:=by rw[mul_comm,one_mul]
theorem agD{a:UInt8}(b:a≠0):inv a≠0:=by
 rw[inv,if_neg b];exact Yb _ (yJ _ (by decide))
theorem Od{a:UInt8}(b:a≠0):mul a (inv a)=1:=by
 have c:=LC a;rw[mul,if_neg (by simp[b,agD b]),inv,if_neg b,Ya _ (yJ _ (by decide))];have:(lg a+(255-lg a)%255)%255=0:=by omega
 rw[this];rfl
end Gf
