/- Part of the proofs that the laws of this seat answer true whatever the input reads, and leave it as it was; no condition. -/
import Derived.Test.YtdhamoojccmbdaaGreatDoorVcA
set_option linter.unusedVariables false
set_option linter.unusedSimpArgs false
open Nat renaming add_assoc -> yn, add_sub_cancel_left -> zk, add_zero -> yl, le_refl -> ql, le_trans -> zl, lt_of_lt_of_le -> qV, lt_trichotomy -> yd, min_eq_left -> wJ, mod_eq_of_lt -> yX, mod_lt -> yE, mul_le_mul -> wb, mul_le_mul_right -> zG, sub_self -> zf, succ_mul -> zI, zero_add -> wk
open Array renaming ext' -> yg, ext_getElem? -> yq, getElem?_eq_some_iff -> yS, getElem?_modify -> wi, mapM_eq_mapM_toList -> yZ, range -> vD
open List renaming all_eq_true -> qM, append_assoc -> qo, append_nil -> qP, cons_append -> zu, drop_drop -> zx, drop_eq_getElem_cons -> qT, drop_of_length_le -> q9, eq_nil_of_length_eq_zero -> qW, ext_getElem? -> zH, flatMap_append -> zb, flatMap_cons -> zr, foldl_cons -> zB, getD_eq_getElem?_getD -> qe, getElem?_append_left -> qn, getElem?_append_right -> qj, getElem?_cons_succ -> qz, getElem?_cons_zero -> yc, getElem?_drop -> wq, getElem?_eq_getElem -> qd, getElem?_eq_none -> ze, getElem?_eq_some_iff -> qm, getElem?_map -> qN, getElem?_set -> qZ, getElem?_set_ne -> z6, getElem?_set_self -> zy, getElem?_take -> vb, getElem?_toArray -> zM, getElem?_zipWith -> wG, getElem_mem -> qg, length -> vg, length_append -> qu, length_cons -> zi, length_drop -> qY, length_map -> qw, length_set -> zE, length_take -> qX, mem_cons -> zc, mem_flatMap -> zO, mem_singleton -> qG, pairwise_iff_getElem -> zq, replicate -> qh, replicate_append_replicate -> yF, replicate_succ -> yG, set_comm -> y7, set_eq_take_append_cons_drop -> yy, set_set -> yY, size_toArray -> wW, take_append_drop -> qD, take_length -> qR, take_of_length_le -> qi, take_succ_eq_append_getElem -> zp, zipWith -> zj, zipWith_append -> yH
open Go.Value renaming int -> vL
open Go.IntKind renaming i64 -> vR, u8 -> vS, wrap -> qc
open Go.Builtin renaming append_ -> qq, copy_ -> wT, firstCells -> wo, nextslicecap -> yT, zeroCells -> yb
open Bool renaming false_eq_true -> zd, not_false -> wU, true_and -> zS
open Go.Instr renaming alloc -> qJ, box -> qL, build -> vy, buildSlice -> qt, fill -> wh, makeSlice -> qB, storeAt -> qf
open Int renaming tmod_lt_of_pos -> va, toNat_natCast -> qp
open Option renaming map_some -> qO, some -> zJ
open UInt8 renaming ofNat -> yo, ofNat_toNat -> yC, toNat_lt -> wH
set_option maxRecDepth 100000
namespace Go.Vc
open Go
section
variable {A B:Prop}
theorem ak{p:Prop}[Decidable p](b:p->A)(a:¬p->B):Br (decide p) A B:=by
 by_cases h:p
 ·rw[decide_eq_true h];exact b h
 ·rw[decide_eq_false h];exact a h
theorem cx{a b:Int}(c:a=b->A)(d:a≠b->B):Br (a==b) A B:=by
 by_cases h:a=b
 ·rw[beq_iff_eq.2 h];exact c h
 ·rw[beq_eq_false_iff_ne.2 h];exact d h
theorem bQ{a b:Int}(c:a≠b->A)(d:a=b->B):Br (a !=b) A B:=by
 by_cases h:a=b
 ·rw[show(a !=b)=false by simp[h]];exact d h
 ·rw[show(a !=b)=true by simp[h]];exact c h
theorem bA{b:Bool}(c:b=true->A)(a:b=false->B):Br b A B:=by
 cases b
 ·exact a rfl
 ·exact c rfl
theorem bg{b:Bool}(c:b=false->A)(a:b=true->B):Br (!b) A B:=by
 cases b
 ·exact c rfl
 ·exact a rfl
theorem MV{b:Bool}(h:b=true)(a:A):Br b A B:=by subst h;exact a
theorem Dg{b:Bool}(h:b=false)(a:B):Br b A B:=by subst h;exact a
end
theorem ba{σ:Type}{rest:σ->Heap->Prop}{B:(σ->Heap->Prop)->Prop}(h:B rest):bf rest B:=⟨rest,fun _ _ x=>x,h⟩
theorem cl{σ:Type}{rest:σ->Heap->Prop}{B:(σ->Heap->Prop)->Prop}(R:σ->Heap->Prop)(a:B R)(b:∀s h,R s h->rest s h):bf rest B:=⟨R,b,a⟩
theorem av{σ:Type}{B:σ->(σ->Heap->Prop)->Heap->Prop}{s:σ}{h:Heap}{τ:Type}(V:τ->σ)(I:τ->Heap->Prop)(μ:τ->Nat)(t0:τ)(b:s=V t0)(c:I t0 h)
  (d:∀t h,I t h->B (V t) (fun e h'=>∃a,e=V a/\I a h'/\μ a<μ t) h):aL B s h:=⟨τ,V,I,μ,t0,b,c,d⟩
abbrev aA:=Nat->Prop
def aU(p:aA)(h h':Heap):Prop:=h.size<=h'.size/\∀b,b<h.size->p b->h'[b]?=h[b]?
def Sl.on(s:Sl)(b:Nat):Prop:=∃o,s.ptr=some ⟨b,o,none⟩
section
variable {p q:aA} {h h' h'':Heap}
theorem aU.refl(p:aA)(h:Heap):aU p h h:=⟨ql _,fun _ _ _=>rfl⟩
theorem aU.trans(a:aU p h h')(b:aU p h' h''):aU p h h'':=⟨zl a.1 b.1,fun k d c=>(b.2 k (qV d a.1) c).trans (a.2 k d c)⟩
theorem aU.then(a:aU p h h')(b:aU q h' h'')(e:∀k,k<h.size->p k->q k):aU p h h'':=⟨zl a.1 b.1,fun k c d=>(b.2 k (qV c a.1) (e k c d)).trans (a.2 k c d)⟩
theorem aU.mono(a:aU p h h')(d:∀b,b<h.size->q b->p b):aU q h h':=⟨a.1,fun k c e=>a.2 k c (d k c e)⟩
theorem aU.push(p:aA)(h:Heap)(o:Obj):aU p h (h.push o):=⟨by simp,fun b a _=>by rw[Array.getElem?_push,if_neg (by omega)]⟩
theorem cS{a:Addr}{v:Value}(b:cellOf h a=some v):a.block<h.size:=by
 unfold cellOf at b;cases hb:h[a.block]? with
 |none=>rw[hb]at b;cases b
 |some o=>exact(yS.1 hb).1
theorem lt_of_block{b:Nat}{o:Obj}(a:h[b]?=some o):b<h.size:=(yS.1 a).1
theorem aU.cell(a:aU p h h'){x:Addr}{v:Value}(c:p x.block)(b:cellOf h x=some v):cellOf h' x=some v:=by
 have:=a.2 _ (cS b) c;unfold cellOf at*;rw[this];exact b
theorem aU.block(a:aU p h h'){b:Nat}{o:Obj}(d:p b)(c:h[b]?=some o):h'[b]?=some o:=by rw[a.2 b (lt_of_block c) d];exact c
theorem aU.cells(a:aU p h h'){x:Addr}(b:p x.block):∀{vs:List Value} {i:Nat},aj h x i vs->aj h' x i vs
 |[],_,_=>trivial
 |v::r,i,hc=>⟨a.cell (by unfold Addr.add;split<;>exact b) hc.1,aU.cells a b hc.2⟩
end
theorem add_eq(b o n:Nat):(⟨b,o,none⟩:Addr).add n=⟨b,o+n,none⟩:=by
 unfold Addr.add;split
 ·rename_i h;subst h;rfl
 ·rfl
theorem add_zero(a:Addr):a.add 0=a:=rfl
theorem Dh{h:Heap}{b o:Nat}{c:Array Value}{e:TypeId}{f:Nat×Nat}(a:h[b]?=some (.cells c e f)):cellOf h ⟨b,o,none⟩=c[o]?:=by
 unfold cellOf;rw[a];rfl
theorem abI{h:Heap}{b o:Nat}{c:Array Value}{e:TypeId}(a:h[b]?=some (.cells c e (0,0))):WO h ⟨b,o,none⟩=false:=by
 unfold WO;rw[a];simp
structure Seq {α:Type} (h:Heap) (p:aA) (s:Sl) (k:Nat) (f:α->List Value) (l:List α):Prop where
 len:s.len=l.length
 elem:∀i x,l[i]?=some x->∃b o,s.ptr=some ⟨b,o,none⟩/\p b/\aj h ⟨b,o+i*k,none⟩ 0 (f x)
section
variable {α:Type} {h h':Heap} {p q:aA} {s:Sl} {k:Nat} {f:α->List Value} {l:List α}
theorem Seq.ai(a:Seq h p s k f l)(g:aU p h h'):Seq h' p s k f l:=⟨a.len,fun i x d=>by
 obtain⟨b,o,e,c,h3⟩:=a.elem i x d;exact⟨b,o,e,c,g.cells c h3⟩⟩
theorem Seq.mono(a:Seq h p s k f l)(g:∀b,p b->q b):Seq h q s k f l:=⟨a.len,fun i x c=>by
 obtain⟨b,o,d,e,h3⟩:=a.elem i x c;exact⟨b,o,d,g b e,h3⟩⟩
theorem Seq.nil(h:Heap)(p:aA)(c:Nat)(b:Option Addr)(k:Nat)(f:α->List Value):Seq h p ⟨b,0,c⟩ k f []:=⟨rfl,fun i x a=>by simp at a⟩
theorem Seq.bv{X:Type}{g:X->Value}(c:Seq h p s 1 f l){i:Int}(n:Nat)(k:i=n)(e:n<l.length)(x:X)(d:f l[n]=[g x]){K:X->Prop}(m:K x):
  ∃a:Addr,(s.ptr=some a/\0<=i/\i<((s.len:Nat):Int))/\∃x:X,cellOf h (a.add (i.toNat*1))=some (g x)/\K x:=by
 subst k;obtain⟨b,o,j,_,h3⟩:=c.elem n l[n] (qd e);refine⟨_,⟨j,by omega,by rw[c.len];omega⟩,x,?_,m⟩;rw[d]at h3;have:=h3.1;rw[add_eq,yl]at this;rw[add_eq];simpa using this
theorem Seq.dD{X:Type}{g:X->List Value}(c:Seq h p s k f l){i:Int}(n:Nat)(m:i=n)(e:n<l.length)(x:X)(d:f l[n]=g x){K:X->Prop}(q:K x):
  ∃a:Addr,(s.ptr=some a/\0<=i/\i<((s.len:Nat):Int))/\∃x:X,aj h (a.add (i.toNat*k)) 0 (g x)/\K x:=by
 subst m;obtain⟨b,o,j,_,h3⟩:=c.elem n l[n] (qd e);refine⟨_,⟨j,by omega,by rw[c.len];omega⟩,x,?_,q⟩;rw[add_eq];rw[d]at h3;simpa using h3
end
def aE(n:Int):List Value:=[vL vR n]
def aC(n:UInt8):List Value:=[vL vS n.toNat]
def dY(b:Bool):List Value:=[.bool b]
def bI(s:Sl):List Value:=[.slice s.ptr s.len s.cap]
structure gG {α:Type} (h:Heap) (p:aA) (s:Sl) (k:Nat) (f:α->List Value) (ll:List (List α)) (rs:List Sl):Prop where
 top:Seq h p s 1 bI rs
 len:rs.length=ll.length
 row:∀(i:Nat) (r:Sl) (l:List α),rs[i]?=some r->ll[i]?=some l->Seq h p r k f l
section
variable {α:Type} {h h':Heap} {p q:aA} {s:Sl} {k:Nat} {f:α->List Value} {ll:List (List α)} {rs:List Sl}
theorem gG.ai(a:gG h p s k f ll rs)(b:aU p h h'):gG h' p s k f ll rs:=⟨a.top.ai b,a.len,fun i r l c d=>(a.row i r l c d).ai b⟩
theorem gG.mono(a:gG h p s k f ll rs)(c:∀b,p b->q b):gG h q s k f ll rs:=⟨a.top.mono c,a.len,fun i r l d e=>(a.row i r l d e).mono c⟩
theorem gG.Rj(a:gG h p s k f ll rs):s.len=ll.length:=by rw[a.top.len,a.len]
theorem gG.get(c:gG h p s k f ll rs){i:Int}(n:Nat)(g:i=n)(d:n<ll.length){K:Sl->Prop}(j:∀r,Seq h p r k f ll[n]->rs[n]?=some r->K r):
  ∃a:Addr,(s.ptr=some a/\0<=i/\i<((s.len:Nat):Int))/\∃x:Sl,cellOf h (a.add (i.toNat*1))=some (.slice x.ptr x.len x.cap)/\K x:=by
 have b:n<rs.length:=by rw[c.len];exact d
 have e:rs[n]?=some rs[n]:=qd b;exact c.top.bv n g b rs[n] rfl (j _ (c.row n _ _ e (qd d)) e)
end
structure Own {α:Type} (h:Heap) (e:TypeId) (s:Sl) (k:Nat) (f:α->List Value) (l:List α):Prop where
 len:s.len=l.length
 head:(s.ptr=none/\s.cap=0/\l=[])∨∃b rest,s.ptr=some ⟨b,0,none⟩/\h[b]?=some (.cells (l.flatMap f++rest).toArray e (0,0))/\rest.length=(s.cap-s.len)*k/\s.len<=s.cap
theorem cX{α:Type}{k:Nat}{f:α->List Value}(a:∀x,(f x).length=k):∀(l:List α),(l.flatMap f).length=l.length*k
 |[]=>by simp
 |x::r=>by rw[zr,qu,a,cX a r,zi,zI];omega
theorem Jp{α:Type}{k:Nat}{f:α->List Value}(a:∀x,(f x).length=k):∀(l:List α) (i:Nat) (x:α),l[i]?=some x->∃pre post,l.flatMap f=pre++f x++post/\pre.length=i*k
 |y::r,0,x,h=>by simp at h;subst h;exact⟨[],r.flatMap f,by simp,by simp⟩
 |y::r,i+1,x,h=>by
  obtain⟨pre,post,b,c⟩:=Jp a r i x (by simpa using h);exact⟨f y++pre,post,by simp[b],by rw[qu,a,c,zI];omega⟩
theorem AY{h:Heap}{b o:Nat}{e:TypeId}{fr:Nat×Nat}:∀{vs pre post:List Value} {i:Nat},h[b]?=some (.cells (pre++vs++post).toArray e fr)->pre.length=o+i->aj h ⟨b,o,none⟩ i vs
 |[],_,_,_,_,_=>trivial
 |v::r,pre,post,i,hb,hl=>by
  refine⟨?_,AY (pre:=pre++[v]) (post:=post) (by simpa using hb) (by simp;omega)⟩;rw[add_eq,Dh hb,<-hl];simp
def je(h:Heap)(b:Nat)(o:Obj):Heap:=h.setIfInBounds b o
theorem gV{h:Heap}{b c:Nat}{o x:Obj}(a:h[b]?=some x):(je h b o)[c]?=if b=c then some o else h[c]?:=by
 unfold je;rw[Array.getElem?_setIfInBounds];split
 ·rename_i e;subst e;rw[if_pos (lt_of_block a)]
 ·rfl
theorem Zc{h:Heap}{b o:Nat}{c:Array Value}{e:TypeId}{f:Nat×Nat}{v:Value}(a:h[b]?=some (.cells c e f)):WP h ⟨b,o,none⟩ v=je h b (.cells (c.setIfInBounds o v) e f):=by
 apply yq;intro i;rw[gV a];simp only[WP,wi];split
 ·rename_i d;subst d;rw[a];rfl
 ·rfl
theorem Zd(h:Heap)(b:Nat)(o a:Obj):je (je h b o) b a=je h b a:=by
 unfold je;simp
theorem aU.je{p:aA}{h:Heap}{b:Nat}{o x:Obj}(f:h[b]?=some x)(d:¬p b):aU p h (je h b o):=⟨by simp[Go.Vc.je],fun c _ a=>by
 rw[gV f,if_neg (fun e=>d (by rw[e];exact a))]⟩
theorem eN{P:Program}{b o:Nat}{e:TypeId}{K:Unit->Heap->Prop}:∀{vs pre old post:List Value} {i:Nat} {h:Heap},h[b]?=some (.cells (pre++old++post).toArray e (0,0))->old.length=vs.length->pre.length=o+i->
  (∀v∈vs,v.oneCell'=true)->K () (je h b (.cells (pre++vs++post).toArray e (0,0)))->ag P (storeCells ⟨b,o,none⟩ vs i) h K
 |[],pre,old,post,i,h,hb,hl,hp,hv,hk=>by
  have:old=[]:=qW (by simpa using hl);subst this;refine ag.pure' ?_;have g:je h b (.cells (pre++[]++post).toArray e (0,0))=h:=by
   apply yq;intro c;rw[gV hb];split
   ·rename_i d;subst d;exact hb.symm
   ·rfl
  rw[g]at hk;exact hk
 |v::r,pre,old,post,i,h,hb,hl,hp,hv,hk=>by
  cases old with
  |nil=>simp at hl
  |cons u old=>
   simp only[storeCells];refine ag.bind ?_;rw[add_eq];have d:cellOf h ⟨b,o+i,none⟩=some u:=by rw[Dh hb,<-hp];simp
   refine ag.aeY (hv v (by simp)) d (abI hb) ?_;rw[Zc hb];have a:(pre++(u::old)++post).toArray.setIfInBounds (o+i) v=((pre++[v])++old++post).toArray:=by
    rw[<-hp];apply yg;simp
   rw[a];refine eN (e:=e) (pre:=pre++[v]) (old:=old) (post:=post) ?_ (by simpa using hl) (by simp;omega) (fun x f=>hv x (by simp[f])) ?_
   ·rw[gV hb,if_pos rfl]
   ·rw[Zd];simpa using hk
theorem MW{P:Program}{h:Heap}{a:Addr}{vs:List Value}{n:Nat}{K:Array Value->Heap->Prop}(b:vs.length=n)(c:aj h a 0 vs)(d:K vs.toArray h):ag P (loadCells a n) h K:=fun w e=>by
 subst e;refine⟨vs.toArray,w,?_,cN.refl w,d⟩;have:=run_loadCells (P:=P) (w:=w) (a:=a) vs 0 #[] c;rw[b]at this;unfold loadCells;rw[this];simp
section
variable {α:Type} {h h':Heap} {p:aA} {e:TypeId} {s:Sl} {k:Nat} {f:α->List Value} {l:List α}
theorem Own.lt(c:Own h e s k f l){b:Nat}(a:s.on b):b<h.size:=by
 rcases c.head with⟨h1,_,_⟩|⟨b',rest,h1,h2,_,_⟩
 ·obtain⟨o,h0⟩:=a;rw[h1]at h0;cases h0
 ·obtain⟨o,h0⟩:=a;rw[h1]at h0;cases h0;exact lt_of_block h2
theorem Own.ai(c:Own h e s k f l)(d:aU p h h')(a:∀b,s.on b->p b):Own h' e s k f l:=⟨c.len,by
 rcases c.head with h1|⟨b,rest,h1,h2,h3,h4⟩
 ·exact .inl h1
 ·exact .inr ⟨b,rest,h1,d.block (a b ⟨0,h1⟩) h2,h3,h4⟩⟩
theorem Own.seq(d:Own h e s k f l)(j:∀x,(f x).length=k)(a:∀b,s.on b->p b):Seq h p s k f l:=⟨d.len,fun i x c=>by
 rcases d.head with⟨_,_,h1⟩|⟨b,rest,h1,h2,h3,h4⟩
 ·subst h1;simp at c
 ·obtain⟨pre,post,g,m⟩:=Jp j l i x c;refine⟨b,0,h1,a b ⟨0,h1⟩,AY (e:=e) (fr:=(0,0)) (pre:=pre) (post:=post++rest) ?_ (by omega)⟩;rw[h2,g];simp⟩
theorem Own.nil(h:Heap)(e:TypeId)(k:Nat)(f:α->List Value):Own h e ⟨none,0,0⟩ k f []:=⟨rfl,.inl ⟨rfl,rfl,rfl⟩⟩
theorem Own.cap(a:Own h e s k f l):s.len<=s.cap:=by
 rcases a.head with⟨h1,h2,h3⟩|⟨b,rest,h1,h2,h3,h4⟩
 ·have:=a.len;rw[h3]at this;simp at this;omega
 ·exact h4
end
theorem ag.always{α:Type}{P:Program}{s:Sem α}{v:α}{h:Heap}{K:α->Heap->Prop}(a:aI P s v)(c:K v h):ag P s h K:=fun w b=>⟨v,w,a w,cN.refl w,by rw[b];exact c⟩
structure bN (C:BR) (t e k:Nat) (z:List Value) (by_:Nat):Prop where
 ex:∃i j,C.T.get t=some i/\i.cE=.slice e/\C.T.get e=some j/\j.size=k/\j.zero=z/\j.bytes=by_
section
variable {C:Ctx} {t e k:Nat} {z:List Value} {by_:Nat}
theorem bN.under(d:bN C.toBR t e k z by_)(a:C.Ok):C.P.underlying t=some (.slice e):=by
 obtain⟨i,j,b,c,_⟩:=d.ex;have:=a.cE b;rw[c]at this;exact iS this
theorem bN.size(d:bN C.toBR t e k z by_)(a:C.Ok):aI C.P (sizeOf e) k:=by
 obtain⟨i,j,_,_,b,c,_⟩:=d.ex;rw[<-c];exact dC a.toOk b
theorem bN.info(p:bN C.toBR t e k z by_)(b:C.Ok):∃f,C.P.info? e=some f/\f.size=k/\f.bytes=by_/\∃a,f.zero=some a/\a.cells=z.toArray:=by
 obtain⟨i,j,_,_,c,d,h3,m⟩:=p.ex;obtain⟨f,o,l,g,a,h,n⟩:=b.info c;exact⟨f,o,l.trans d,g.trans m,a,h,by apply yg;rw[n,h3]⟩
end
def ij(z:List Value):Nat->List Value
 |0=>[]
 |n+1=>z++ij z n
theorem nW(z:List Value):∀n,(ij z n).length=n*z.length
 |0=>by simp[ij]
 |n+1=>by rw[ij,qu,nW z n,zI];omega
theorem Rk(z:List Value):∀(n i:Nat),i<n*z.length->(ij z n)[i]?=z[i%z.length]?
 |0,i,h=>by simp at h
 |n+1,i,h=>by
  have a:0<z.length:=Nat.pos_of_ne_zero fun e=>by rw[e]at h;simp at h
  rw[ij];by_cases b:i<z.length
  ·rw[qn b,yX b]
  ·rw[qj (by omega),Rk z n (i-z.length) (by rw[zI]at h;omega)];congr 1
   conv=>rhs;rw[show i=(i-z.length)+z.length by omega,Nat.add_mod_right]
theorem Rl(z:List Value)(n m:Nat)(c:m=n*z.length):((vD m).map (fun i=>z.toArray[i%z.toArray.size]!))=(ij z n).toArray:=by
 apply yq;intro i;subst c;simp only[Array.getElem?_map,Array.getElem?_range,zM];by_cases b:i<n*z.length
 ·rw[Rk z n i b];have a:0<z.length:=Nat.pos_of_ne_zero fun e=>by rw[e]at b;simp at b
  have:=yE i a;simp[b,this]
 ·rw[ze (by rw[nW];omega)];simp[b]
theorem FG(z:List Value)(n:Nat):yb z.toArray n=(ij z n).toArray:=Rl z n _ (by simp)
theorem Wd(a:Nat):∀(r c:Nat),Builtin.growBy a r c<=(c+768)*2^r
 |0,c=>by simp[Builtin.growBy]
 |r+1,c=>by
  unfold Builtin.growBy;split
  ·exact zl (Nat.le_add_right c 768) (Nat.le_mul_of_pos_right _ (Nat.two_pow_pos _))
  ·refine zl (Wd a r _) ?_;rw[Nat.pow_succ,Nat.mul_comm (2^r) 2,<-Nat.mul_assoc];exact zG _ (by omega)
theorem agm(o n:Nat)(h:o<n):(o+768)*2^4<=16*n+16*768:=by omega
theorem We(a b:Nat)(h:b<a):yT a b<=16*a+16*768:=by
 unfold yT;split
 ·omega
 ·split
  ·omega
  ·exact zl (Wd a 4 b) (agm _ _ h)
section
variable {C:Ctx} {t t2 e k:Nat} {z:List Value} {by_:Nat} {α:Type} {h:Heap} {p:aA} {s v:Sl} {f:α->List Value} {l l2:List α}
theorem fT{P:Program}{K:Array Value->Heap->Prop}(w:∀x,(f x).length=k)(g:Seq h p v k f l)(t:K (l.flatMap f).toArray h):
  ag P (wo k v.len (.slice v.ptr v.len v.cap)) h K:=by
 cases hp:v.ptr with
 |none=>
  have:l=[]:=by
   cases l with
   |nil=>rfl
   |cons x r=>obtain⟨b,o,c,_⟩:=g.elem 0 x (by simp);rw[hp]at c;cases c
  subst this;exact ag.pure' t
 |some a=>
  refine MW (by rw[cX w,<-g.len]) ?_ t;cases l with
  |nil=>trivial
  |cons q r0=>
   obtain⟨b,o,c,_,_⟩:=g.elem 0 q (by simp);rw[hp]at c;cases c;have j:∀(r:List α) (n:Nat),(∀i x,r[i]?=some x->aj h ⟨b,o+(n+i)*k,none⟩ 0 (f x))->aj h ⟨b,o,none⟩ (n*k) (r.flatMap f):=by
    intro r
    induction r with
    |nil=>intro n _;trivial
    |cons x r ih=>
     intro n s;have h0:=s 0 x (by simp);have e:=ih (n+1) (fun i y z=>by have:=s (i+1) y (by simpa using z);rw[show n+1+i=n+(i+1)by omega];exact this);rw[zr];have app:∀(us vs:List Value) (i:Nat),aj h ⟨b,o,none⟩ i us->aj h ⟨b,o,none⟩ (i+us.length) vs->aj h ⟨b,o,none⟩ i (us++vs):=by
      intro us
      induction us with
      |nil=>intro vs i _ e;simpa using e
      |cons u us ih=>intro vs i c e;exact⟨c.1,ih vs (i+1) c.2 (by rw[show i+1+us.length=i+(us.length+1)by omega];exact e)⟩
     refine app _ _ _ ?_ (by rw[w,<-zI];exact e);have d:∀(us:List Value) (i m:Nat),aj h ⟨b,o+m,none⟩ i us->aj h ⟨b,o,none⟩ (m+i) us:=by
      intro us
      induction us with
      |nil=>intros;trivial
      |cons u us ih=>
       intro i m c;refine⟨?_,ih (i+1) m c.2⟩;have:=c.1;rw[add_eq]at this⊢;rw[<-yn];exact this
     have:=d (f x) 0 ((n+0)*k) h0;simpa using this
   have:=j (q::r0) 0 (fun i x A=>by
    obtain⟨B,D,c,_,h3⟩:=g.elem i x A;rw[hp]at c;cases c;simpa using h3)
   simpa using this
theorem WX(y:C.Ok)(E:bN C.toBR t e k z by_)(Y:∃i e2,C.T.get t2=some i/\i.cE=.slice e2)(V:z.length=k)(L:0<by_/\by_<=128)(m:∀x,(f x).length=k)
  (A:Own h e s k f l) (F:Seq h p v k f l2) (u:∀x,∀c∈f x,c.oneCell'=true) (U:l.length+l2.length<=2^32) {ty:Nat} {K:Sl->Heap->Prop}
  (I:∀B h',Own h' e B k f (l++l2)->aU (fun b=>¬s.on b) h h'->(∀b,B.on b->s.on b∨h.size<=b)->K B h'):
  aw C.P (qq #[t,t2] ty #[.slice s.ptr s.len s.cap,.slice v.ptr v.len v.cap]) (.one (.sc .slc)) h K:=by
 obtain⟨i2,e2,X,g2⟩:=Y;have J:C.P.underlying t2=some (.slice e2):=by have:=y.cE X;rw[g2]at this;exact iS this
 obtain⟨Q,w,x2,x3,zv,x4,x5⟩:=E.info y;unfold aw qq;simp only[zM,yc,qz];refine ag.bind (ag.always (aN (E.under y)) ?_);refine ag.bind (ag.always (E.size y) ?_);refine ag.bind (ag.always (aN J) ?_);refine ag.bind (ag.pure' ?_);simp only[zd,if_false,wU,if_true];refine ag.bind (ag.pure' ?_);have r:=A.len;have D:=F.len;by_cases g:s.len+v.len<=s.cap
 ·rw[if_pos g];refine ag.bind (fT m F ?_);rcases A.head with⟨p1,p2,p3⟩|⟨b,rest,p1,p2,p3,p4⟩
  ·rw[p1];have G:l2=[]:=qW (by omega);subst G;refine ag.pure' ⟨⟨none,s.len+v.len,s.cap⟩,rfl,I _ _ ⟨?_,.inl ⟨rfl,p2,by simp[p3]⟩⟩ (aU.refl _ _) ?_⟩
   ·simp;omega
   ·rintro S ⟨o,d⟩;cases d
  ·rw[p1];refine ag.bind ?_;rw[add_eq,wk];have j:=cX m l;have a:=cX m l2;have H:(l2.flatMap f).length<=rest.length:=by
    rw[a,p3];exact zG k (by omega)
   refine eN (e:=e) (pre:=l.flatMap f) (old:=rest.take (l2.flatMap f).length) (post:=rest.drop (l2.flatMap f).length) ?_ ?_ ?_ ?_ ?_
   ·rw[qo,qD];exact p2
   ·rw[qX];exact wJ H
   ·rw[j,r];omega
   ·intro c hc;obtain⟨x,_,M⟩:=zO.1 hc;exact u x c M
   ·refine ag.pure' ⟨⟨some ⟨b,0,none⟩,s.len+v.len,s.cap⟩,rfl,I _ _ ⟨?_,.inr ⟨b,rest.drop (l2.flatMap f).length,rfl,?_,?_,g⟩⟩ ?_ ?_⟩
    ·simp;omega
    ·rw[gV p2,if_pos rfl];simp
    ·rw[qY,p3,a,<-Nat.sub_mul];show(s.cap-s.len-l2.length)*k=(s.cap-(s.len+v.len))*k;congr 1;omega
    ·exact aU.je p2 (fun hn=>hn ⟨0,p1⟩)
    ·rintro S ⟨o,d⟩;cases d;exact .inl ⟨0,p1⟩
 ·rw[if_neg g];have q:Seq h (fun _=>True) s k f l:=A.seq m (fun _ _=>trivial);have R:=A.cap;refine ag.bind (ag.always (cR w) ?_);rw[if_neg (fun hh=>by rcases hh.2 with h|h<;>first|exact h|(rw[x3]at h;omega))];refine ag.bind (ag.always (cR w) ?_);have ab:=We (s.len+v.len) s.cap (by omega);rw[if_neg (by
   have:yT (s.len+v.len) s.cap*Q.bytes<=(16*2^32+16*768)*128:=wb (by omega) (by rw[x3];exact L.2);omega)]
  refine ag.bind (ag.MR ⟨fun Z=>(by cases Z),fun _ W=>?_⟩);refine ag.bind (ag.always (cR w) ?_);refine ag.bind (ag.Jl ?_);refine ag.bind (fT m q ?_);refine ag.bind (fT m F ?_);have N:aI C.P (zeroValue e) zv:=(cR w).bind (by rw[x4];exact .pure);refine ag.bind (ag.always N ?_);rw[x5,FG];unfold newRow;refine ag.bind (ag.bind (ag.rk (ag.pure' (ag.pure' ?_))));generalize O:Question.cut (Question.appendCap (s.len+v.len) s.cap e) W=cc;have n:s.len+v.len<=cc:=by rw[<-O];simp only[Question.cut];omega
  refine⟨⟨some ⟨h.size,0,none⟩,s.len+v.len,cc⟩,rfl,I _ _ ⟨?_,.inr ⟨h.size,ij z (cc-(s.len+v.len)),rfl,?_,?_,n⟩⟩ (aU.push _ _ _) ?_⟩
  ·simp;omega
  ·simp
  ·rw[nW,V]
  ·rintro S ⟨o,d⟩;cases d;exact .inr (ql _)
end
structure cw (h:Heap) (a:Addr) (e:TypeId) (cs:List Value):Prop where
 off:a.off=0
 spot:a.spot=none
 fh:h[a.block]?=some (.cells cs.toArray e (0,0))
section
variable {h h':Heap} {a:Addr} {e:TypeId} {cs:List Value} {p:aA}
theorem cw.addr(c:cw h a e cs):a=⟨a.block,0,none⟩:=by
 obtain⟨b,o,s⟩:=a;have:=c.off;have:=c.spot
 simp_all
theorem cw.ai(b:cw h a e cs)(c:aU p h h')(d:p a.block):cw h' a e cs:=⟨b.off,b.spot,c.block d b.fh⟩
theorem cw.lt(b:cw h a e cs):a.block<h.size:=lt_of_block b.fh
theorem cw.cell(b:cw h a e cs){j:Nat}{v:Value}(c:cs[j]?=some v):cellOf h (a.add j)=some v:=by
 rw[b.addr,add_eq,Dh b.fh];simpa using c
theorem cw.cell0(b:cw h a e cs){v:Value}(c:cs[0]?=some v):cellOf h a=some v:=b.cell (j:=0) c
theorem cw.cells(c:cw h a e cs)(j:Nat)(vs:List Value)(d:(cs.drop j).take vs.length=vs):aj h (a.add j) 0 vs:=by
 rw[c.addr,add_eq,wk];have b:vs.length<=(cs.drop j).length:=by
  have:=congrArg vg d;rw[qX]at this;omega
 rcases Nat.lt_or_ge cs.length j with hj|hj
 ·rw[qY]at b;have:vs=[]:=qW (by omega);subst this;trivial
 ·refine AY (e:=e) (fr:=(0,0)) (pre:=cs.take j) (post:=(cs.drop j).drop vs.length) ?_ (by simp;omega);have:cs.take j++vs++(cs.drop j).drop vs.length=cs:=by
   conv=>lhs;rw[qo];arg 2;arg 1;rw[<-d]
   rw[qD,qD]
  rw[this];exact c.fh
theorem cw.aQ(b:cw h a e cs)(vs:List Value)(c:cs.take vs.length=vs):aj h a 0 vs:=b.cells 0 vs c
end
section
variable {C:Ctx} {t:Nat} {i:TI} {h:Heap}
theorem Ai(c:C.Ok)(e:C.T.get t=some i){K:Addr->Heap->Prop}(d:∀a h',a.block=h.size->cw h' a t i.zero->aU (fun _=>True) h h'->h'.size=h.size+1->K a h'):
  aO C.P (qJ t true (.tuple #[])) h K:=by
 obtain⟨z,f,b⟩:=rY c.toOk e;unfold aO qJ;refine ag.bind (ag.always f ?_);refine ag.bind (ag.bind (ag.bind (ag.rk (ag.pure' (ag.pure' (ag.pure' ?_))))));refine⟨⟨h.size,0,none⟩,rfl,d _ _ rfl ⟨rfl,rfl,?_⟩ (aU.push _ _ _) (by simp)⟩;rw[<-b];simp
theorem Wf{v:Value}{P:Program}{K:Addr->Heap->Prop}(b:∀a h',a.block=h.size->cw h' a t v.cells.toList->aU (fun _=>True) h h'->h'.size=h.size+1->K a h'):
  aO P (qL t v) h K:=by
 unfold aO qL;refine ag.bind (ag.bind (ag.bind (ag.rk (ag.pure' (ag.pure' (ag.pure' ?_))))));refine⟨⟨h.size,0,none⟩,rfl,b _ _ rfl ⟨rfl,rfl,?_⟩ (aU.push _ _ _) (by simp)⟩;simp
theorem run_store(m:C.Ok){a:Addr}{e:TypeId}{b:List Value}(c:cw h a e b)(j:C.T.get t=some i)(off:Nat){v:Value}(vs:List Value)(o:v.cells=vs.toArray)(f:i.size=vs.length)
  (d:vs.all (·.oneCell')=true) (g:off+vs.length<=b.length) {K:Unit->Heap->Prop}
  (l:∀h',cw h' a e (b.take off++vs++b.drop (off+vs.length))->aU (·≠a.block) h h'->h'.size=h.size->K () h'):
  ag C.P (qf t (.pointer (some (a.add off))) v) h K:=by
 have k:=c.addr;unfold qf;refine ag.bind (ag.pure' ?_);unfold storeVar;refine ag.bind (ag.always (dC m.toOk j) ?_);rw[o,f];simp only[wW,ne_eq,not_true,if_false];rw[k,add_eq,wk];refine eN (e:=e) (pre:=b.take off) (old:=(b.drop off).take vs.length) (post:=b.drop (off+vs.length)) ?_ ?_ ?_ ?_ ?_
 ·have:b.take off++(b.drop off).take vs.length++b.drop (off+vs.length)=b:=by
   rw[<-zx,qo,qD,qD]
  rw[this];exact c.fh
 ·simp;omega
 ·simp;omega
 ·intro x n;have:=qM.1 d x n;exact this
 ·refine l _ ⟨c.off,c.spot,?_⟩ (aU.je c.fh (by simp)) (by simp[je]);rw[gV c.fh,if_pos rfl]
theorem Di(g:C.Ok){a:Addr}{e:TypeId}{d:List Value}(k:cw h a e d)(l:C.T.get t=some i){v:Value}(vs:List Value)(m:v.cells=vs.toArray)(c:i.size=vs.length)
  (b:vs.all (·.oneCell')=true) (f:vs.length<=d.length) {K:Unit->Heap->Prop}
  (j:∀h',cw h' a e (vs++d.drop vs.length)->aU (·≠a.block) h h'->h'.size=h.size->K () h'):
  ag C.P (qf t (.pointer (some a)) v) h K:=
 run_store g k l 0 vs m c b (by omega) (fun h' x y z=>j h' (by simpa using x) y z)
end
section
variable {C:Ctx} {t e k:Nat} {z:List Value} {by_:Nat} {α:Type} {h:Heap} {p:aA} {s v:Sl} {f:α->List Value} {l l2:List α}
theorem FH{a:α}(b:f a=z):∀n,ij z n=(qh n a).flatMap f
 |0=>rfl
 |n+1=>by rw[ij,yG,zr,b,FH b n]
theorem wrap_small(x:Int)(b:-9223372036854775808<=x)(c:x<=9223372036854775807):qc vR x=x:=by
 show(if(true&&decide (x%2^64>=2^63))=true then x%2^64-2^64 else x%2^64)=x;by_cases a:x%2^64>=2^63
 ·rw[if_pos (by rw[zS];exact decide_eq_true a)];omega
 ·rw[if_neg (by rw[zS];exact fun h=>a (of_decide_eq_true h))];omega
theorem run_make(s:C.Ok)(l:bN C.toBR t e k z by_)(r:0<by_/\by_<=128)(o:α)(B:f o=z)(d:z.length=k){D E:IntKind}{n c:Int}(m b:Nat)(L:n=m)(M:c=b)(q:m<=b)(w:b<=2^32)
  {K:Sl->Heap->Prop} (F:∀j h',Own h' e j k f (qh m o)->j.ptr=some ⟨h.size,0,none⟩->j.cap=b->aU (fun _=>True) h h'->h'.size=h.size+1->K j h'):
  aw C.P (qB t (.int D n) (.int E c)) (.one (.sc .slc)) h K:=by
 subst L;subst M;obtain⟨y,A,x2,x3,G,H,J⟩:=l.info s;unfold aw qB;refine ag.bind (ag.always (aN (l.under s)) ?_);refine ag.bind (ag.pure' ?_);refine ag.bind (ag.pure' ?_);refine ag.bind (ag.always (cR A) ?_);have N:qc vR (m:Int)=m:=wrap_small _ (by omega) (by omega);have I:qc vR (b:Int)=b:=wrap_small _ (by omega) (by omega);have O:¬((y.bytes:Int)*(b:Int)>2^48):=by
  rw[x3];have:by_*b<=128*2^32:=wb r.2 w;have:((by_:Int)*(b:Int))<=((128*2^32:Nat):Int):=by exact_mod_cast this
  omega
 simp only[N,I];rw[if_neg (by simp;omega)];refine ag.bind (ag.Jl ?_);refine ag.bind (ag.always (l.size s) ?_);have u:aI C.P (zeroValue e) G:=(cR A).bind (by rw[H];exact .pure);have fin:∀g:Array Value,(b*k≠0->g=z.toArray)->ag C.P (do
   let a<-newRow e ((vD (b*k)).map (g[·%g.size]!))
   pure (Value.slice (some a) m b)) h (fun v h'=>∃x:(Rt.one (.sc .slc)).den,v=(Rt.one (.sc .slc)).enc x/\K x h'):=by
  intro g p;have i:((vD (b*k)).map (g[·%g.size]!))=(ij z b).toArray:=by
   by_cases h0:b*k=0
   ·rw[h0];have:ij z b=[]:=qW (by rw[nW,d,h0]);rw[this];simp
   ·rw[p h0];exact Rl z b _ (by rw[d])
  rw[i];refine ag.bind (ag.bind (ag.rk (ag.pure' (ag.pure' ?_))));refine⟨⟨some ⟨h.size,0,none⟩,m,b⟩,rfl,F _ _ ⟨by simp,.inr ⟨h.size,ij z (b-m),rfl,?_,?_,q⟩⟩ rfl rfl (aU.push _ _ _) (by simp)⟩
  ·have:ij z b=(qh m o).flatMap f++ij z (b-m):=by
    rw[FH B,FH B,<-zb,yF];congr 2;omega
   rw[this];simp
  ·rw[nW,d]
 simp only[qp];by_cases h0:b*k=0
 ·rw[if_pos h0];exact ag.bind (ag.pure' (fin _ (fun h=>absurd h0 h)))
 ·rw[if_neg h0];refine ag.bind (ag.always u ?_);exact ag.bind (ag.pure' (fin _ (fun _=>J)))
theorem MX(p:C.Ok)(m:bN C.toBR t e k z by_)(d:z.length=k){n:Nat}{parts:Array (Nat×Value)}(l:List α)(A:l.length=n)(B:n*k<=2^20)
  (b:wh (fun i=>some (i*k,k)) (ij z n).toArray parts.toList=some (l.flatMap f).toArray) {K:Sl->Heap->Prop}
  (s:∀j h',Own h' e j k f l->j.ptr=some ⟨h.size,0,none⟩->aU (fun _=>True) h h'->h'.size=h.size+1->K j h'):
  aw C.P (qt t n parts) (.one (.sc .slc)) h K:=by
 obtain⟨D,r,x2,x3,u,w,y⟩:=m.info p;unfold aw qt;refine ag.bind (ag.always (aN (m.under p)) ?_);refine ag.bind (ag.always (m.size p) ?_);rw[if_neg (by omega)];have q:aI C.P (zeroValue e) u:=(cR r).bind (by rw[w];exact .pure);have fin:∀c:Array Value,(n*k≠0->c=z.toArray)->ag C.P (do
   let some cells:=wh (fun i=>some (i*k,k)) ((vD (n*k)).map (c[·%c.size]!)) parts.toList
    |stuck "buildSlice: a part of the wrong size"
   pure (Value.slice (some (<-newRow e cells)) n n)) h (fun v h'=>∃x:(Rt.one (.sc .slc)).den,v=(Rt.one (.sc .slc)).enc x/\K x h'):=by
  intro c o;have g:((vD (n*k)).map (c[·%c.size]!))=(ij z n).toArray:=by
   by_cases h0:n*k=0
   ·rw[h0];have:ij z n=[]:=qW (by rw[nW,d,h0]);rw[this];simp
   ·rw[o h0];exact Rl z n _ (by rw[d])
  rw[g,b];refine ag.bind (ag.bind (ag.rk (ag.pure' (ag.pure' ?_))));refine⟨⟨some ⟨h.size,0,none⟩,n,n⟩,rfl,s _ _ ⟨A.symm,.inr ⟨h.size,[],rfl,by simp,by simp,ql _⟩⟩ rfl (aU.push _ _ _) (by simp)⟩
 by_cases h0:n*k=0
 ·rw[if_pos h0];exact ag.bind (ag.pure' (fin _ (fun h=>absurd h0 h)))
 ·rw[if_neg h0];refine ag.bind (ag.always q ?_);exact ag.bind (ag.pure' (fin _ (fun _=>y)))
theorem Own.set{i:TI}(B:C.Ok)(v:Own h e s k f l)(p:∀x,(f x).length=k)(z:C.T.get t=some i){x:Int}(n:Nat)(D:x=n)(u:n<l.length){m:Value}(y:α)(G:m.cells=(f y).toArray)(q:i.size=k)
  (o:(f y).all (·.oneCell')=true) {K:Heap->Prop} (A:∀h',Own h' e s k f (l.set n y)->aU (fun b=>¬s.on b) h h'->h'.size=h.size->K h'):
  ∃a:Addr,(s.ptr=some a/\0<=x/\x<((s.len:Nat):Int))/\ag C.P (qf t (.pointer (some (a.add (x.toNat*k)))) m) h fun _ h'=>K h':=by
 subst D;rcases v.head with⟨_,_,h3⟩|⟨b,rest,h1,h2,h3,h4⟩
 ·subst h3;simp at u
 ·refine⟨_,⟨h1,by omega,by rw[v.len];omega⟩,?_⟩;unfold qf;refine ag.bind (ag.pure' ?_);unfold storeVar;refine ag.bind (ag.always (dC B.toOk z) ?_);rw[G,q];have r:=p y;simp only[wW,r,ne_eq,not_true,if_false];rw[add_eq,wk,qp];have d:l=l.take n++l[n]::l.drop (n+1):=by rw[<-qT u,qD]
  have g:l.set n y=l.take n++y::l.drop (n+1):=yy.trans (if_pos u);have j:((l.take n).flatMap f).length=n*k:=by rw[cX p,qX,wJ (by omega)]
  refine eN (e:=e) (pre:=(l.take n).flatMap f) (old:=f l[n]) (post:=(l.drop (n+1)).flatMap f++rest) ?_ ?_ ?_ ?_ ?_
  ·have:l.flatMap f++rest=(l.take n).flatMap f++f l[n]++((l.drop (n+1)).flatMap f++rest):=by
    have w:=congrArg (List.flatMap f) d;rw[zb,zr]at w;rw[w];simp
   rw[<-this];exact h2
  ·rw[p,p]
  ·rw[j];omega
  ·intro c E;have:=qM.1 o c E;exact this
  ·refine A _ ⟨by rw[zE];exact v.len,.inr ⟨b,rest,h1,?_,h3,h4⟩⟩ (aU.je h2 (fun F=>F ⟨0,h1⟩)) (by simp[je]);rw[gV h2,if_pos rfl,g];simp
end
def grow(c:Nat->Nat)(n i:Nat):Nat->Nat:=fun b=>if b<n then c b else i
theorem fQ{c:Nat->Nat}{n i b:Nat}(h:b<n):grow c n i b=c b:=if_pos h
theorem ro{c:Nat->Nat}{n i b:Nat}(h:n<=b):grow c n i b=i:=if_neg (by omega)
structure dl {α:Type} (h:Heap) (c:Nat->Nat) (i:Nat) (e:TypeId) (s:Sl) (k:Nat) (f:α->List Value) (l:List α):Prop where
 own:Own h e s k f l
 bp:∀b,s.on b->c b=i
structure jT (h:Heap) (c:Nat->Nat) (i:Nat) (a:Addr) (e:TypeId) (cs:List Value):Prop where
 box:cw h a e cs
 bp:c a.block=i
structure md (h0 h:Heap) (c:Nat->Nat):Prop where
 ai:aU (fun b=>b<h0.size) h0 h
 bp:∀b,b<h0.size->c b=0
section
variable {α:Type} {h h' h0:Heap} {c:Nat->Nat} {i j n m:Nat} {e:TypeId} {s:Sl} {k:Nat} {f:α->List Value} {l:List α} {a:Addr} {cs:List Value}
theorem dl.keep(a:dl h c j e s k f l)(n:aU (fun b=>c b≠i) h h')(g:j≠i):dl h' (grow c h.size m) j e s k f l:=
 ⟨a.own.ai n fun b d=>by rw[a.bp b d];exact g,fun b d=>by rw[fQ (a.own.lt d)];exact a.bp b d⟩
theorem jT.keep(d:jT h c j a e cs)(g:aU (fun b=>c b≠i) h h')(f:j≠i):jT h' (grow c h.size m) j a e cs:=
 ⟨d.box.ai g (by rw[d.bp];exact f),by rw[fQ d.box.lt];exact d.bp⟩
theorem md.keep(a:md h0 h c)(e:aU (fun b=>c b≠i) h h')(f:i≠0):md h0 h' (grow c h.size m):=
 ⟨a.ai.then e fun b d _=>by rw[a.bp b d];exact f.symm,fun b d=>by rw[fQ (qV d a.ai.1)];exact a.bp b d⟩
theorem md.refl(h:Heap):md h h (fun _=>0):=⟨aU.refl _ _,fun _ _=>rfl⟩
theorem dl.seq(a:dl h c j e s k f l)(d:∀x,(f x).length=k):Seq h (fun b=>c b=j) s k f l:=a.own.seq d a.bp
theorem dl.WY(a:dl h c j e s k f l)(g:∀x,(f x).length=k):Seq h (fun b=>b<h.size) s k f l:=a.own.seq g fun _ d=>a.own.lt d
theorem dl.nil(h:Heap)(c:Nat->Nat)(i:Nat)(e:TypeId)(k:Nat)(f:α->List Value):dl h c i e ⟨none,0,0⟩ k f []:=⟨Own.nil h e k f,fun b d=>by obtain⟨o,a⟩:=d;cases a⟩
theorem aU.bp(a:aU (fun _=>True) h h')(c:Nat->Nat)(i:Nat):aU (fun b=>c b≠i) h h':=a.mono fun _ _ _=>trivial
end
section
variable {α:Type} {C:Ctx} {h h' h0:Heap} {c:Nat->Nat} {i:Nat} {e t t2:Nat} {s v:Sl} {k by_:Nat} {f:α->List Value} {l l2:List α} {a:Addr} {cs z:List Value} {p:aA} {ti:TI}
theorem uf(d:C.Ok)(_:md h0 h c)(i:Nat)(f:C.T.get t=some ti){K:Addr->Heap->Prop}(e:∀a h',jT h' (grow c h.size i) i a t ti.zero->aU (fun b=>c b≠i) h h'->K a h'):
  aO C.P (qJ t true (.tuple #[])) h K:=
 Ai d f fun a h' x y z _=>e a h' ⟨y,by rw[ro (by omega)]⟩ (z.bp c i)
theorem Rm(P:Program)(_:md h0 h c)(i:Nat){v:Value}{K:Addr->Heap->Prop}(d:∀a h',jT h' (grow c h.size i) i a t v.cells.toList->aU (fun b=>c b≠i) h h'->K a h'):
  aO P (qL t v) h K:=
 Wf fun a h' x y z _=>d a h' ⟨y,by rw[ro (by omega)]⟩ (z.bp c i)
theorem jT.store(o:C.Ok)(g:jT h c i a e cs)(l:C.T.get t=some ti)(off:Nat){v:Value}(vs:List Value)(p:v.cells=vs.toArray)(j:ti.size=vs.length)
  (d:vs.all (·.oneCell')=true) (f:off+vs.length<=cs.length) {K:Unit->Heap->Prop}
  (n:∀h',jT h' (grow c h.size i) i a e (cs.take off++vs++cs.drop (off+vs.length))->aU (fun b=>c b≠i) h h'->K () h'):
  ag C.P (qf t (.pointer (some (a.add off))) v) h K:=
 run_store o g.box l off vs p j d f fun h' x y z=>n h' ⟨x,by rw[fQ g.box.lt];exact g.bp⟩ (y.mono fun b _ k m=>k (by rw[m];exact g.bp))
theorem jT.jD(j:C.Ok)(l:jT h c i a e cs)(m:C.T.get t=some ti){v:Value}(vs:List Value)(n:v.cells=vs.toArray)(f:ti.size=vs.length)
  (d:vs.all (·.oneCell')=true) (g:vs.length<=cs.length) {K:Unit->Heap->Prop}
  (k:∀h',jT h' (grow c h.size i) i a e (vs++cs.drop vs.length)->aU (fun b=>c b≠i) h h'->K () h'):
  ag C.P (qf t (.pointer (some a)) v) h K:=
 l.store j m 0 vs n f d (by omega) (fun h' x y=>k h' (by simpa using x) y)
theorem Aj(B:C.Ok)(_:md h0 h c)(i:Nat)(f:α->List Value)(s:bN C.toBR t e k z by_)(g:0<by_/\by_<=128)(d:α)(r:f d=z)(j:z.length=k){u v:IntKind}{n p:Int}(m:Nat)(D:n=m)(E:p=m)(l:m<=2^32)
  {K:Sl->Heap->Prop} (w:∀a h',dl h' (grow c h.size i) i e a k f (qh m d)->aU (fun b=>c b≠i) h h'->K a h'):
  aw C.P (qB t (.int u n) (.int v p)) (.one (.sc .slc)) h K:=
 run_make B s g d r j m m D E (ql _) l fun a h' x y _ z _=>w a h' ⟨x,fun b A=>by obtain⟨o,q⟩:=A;rw[y]at q;cases q;rw[ro (ql _)]⟩ (z.bp c i)
theorem Jq(s:C.Ok)(_:md h0 h c)(i:Nat)(f:α->List Value)(p:bN C.toBR t e k z by_)(g:z.length=k){n:Nat}{parts:Array (Nat×Value)}(l:List α)(u:l.length=n)(j:n*k<=2^20)
  (a:wh (fun i=>some (i*k,k)) (ij z n).toArray parts.toList=some (l.flatMap f).toArray) {K:Sl->Heap->Prop}
  (q:∀d h',dl h' (grow c h.size i) i e d k f l->aU (fun b=>c b≠i) h h'->K d h'):
  aw C.P (qt t n parts) (.one (.sc .slc)) h K:=
 MX s p g l u j a fun d h' x y z _=>q d h' ⟨x,fun b r=>by obtain⟨o,m⟩:=r;rw[y]at m;cases m;rw[ro (ql _)]⟩ (z.bp c i)
theorem dl.append(B:C.Ok)(g:dl h c i e s k f l)(r:bN C.toBR t e k z by_)(m:∃i e2,C.T.get t2=some i/\i.cE=.slice e2)(q:z.length=k)(n:0<by_/\by_<=128)(E:∀x,(f x).length=k)
  (D:Seq h p v k f l2) (a:∀x,∀c∈f x,c.oneCell'=true) (j:l.length+l2.length<=2^32) {ty:Nat} {K:Sl->Heap->Prop}
  (u:∀d h',dl h' (grow c h.size i) i e d k f (l++l2)->aU (fun b=>c b≠i) h h'->K d h'):
  aw C.P (qq #[t,t2] ty #[.slice s.ptr s.len s.cap,.slice v.ptr v.len v.cap]) (.one (.sc .slc)) h K:=
 WX B r m q n E g.own D a j fun d h' x y w=>u d h' ⟨x,fun b A=>by
  rcases w b A with w|w
  ·rw[fQ (g.own.lt w)];exact g.bp b w
  ·exact ro w⟩ (y.mono fun b _ o m=>o (g.bp b m))
theorem dl.set(v:C.Ok)(j:dl h c i e s k f l)(E:∀x,(f x).length=k)(q:C.T.get t=some ti){x:Int}(n:Nat)(A:x=n)(B:n<l.length){d:Value}(y:α)(D:d.cells=(f y).toArray)(m:ti.size=k)
  (g:(f y).all (·.oneCell')=true) {K:Heap->Prop} (u:∀h',dl h' (grow c h.size i) i e s k f (l.set n y)->aU (fun b=>c b≠i) h h'->K h'):
  ∃a:Addr,(s.ptr=some a/\0<=x/\x<((s.len:Nat):Int))/\ag C.P (qf t (.pointer (some (a.add (x.toNat*k)))) d) h fun _ h'=>K h':=
 j.own.set v E q n A B y D m g fun h' z w _=>u h' ⟨z,fun b p=>by rw[fQ (j.own.lt p)];exact j.bp b p⟩ (w.mono fun b _ o r=>o (j.bp b r))
end
section
variable {α:Type} {C:Ctx} {h h' h0:Heap} {c:Nat->Nat} {i j n m:Nat} {e t:Nat} {s v:Sl} {k by_:Nat} {f:α->List Value} {l l2:List α} {z:List Value} {p:aA}
theorem grow_grow{c:Nat->Nat}{n m i:Nat}(h:n<=m):grow (grow c n i) m i=grow c n i:=by
 funext b;unfold grow;split
 ·rfl
 ·rw[if_neg (by omega)]
theorem aU.step(a:aU (fun b=>c b≠i) h h'){d:Heap}(b:aU (fun b=>grow c h.size i b≠i) h' d):aU (fun b=>c b≠i) h d:=
 a.then b fun x e f=>by rw[fQ e];exact f
theorem dl.push(H:C.Ok)(B:dl h c i e s k f l)(r:bN C.toBR t e k z by_)(E:z.length=k)(w:0<by_/\by_<=128)(F:∀x,(f x).length=k)
  (m:∀x,∀c∈f x,c.oneCell'=true) (x:α) {parts:Array (Nat×Value)} (a:wh (fun i=>some (i*k,k)) (ij z 1).toArray parts.toList=some ([x].flatMap f).toArray)
  (q:1*k<=2^20) (o:l.length+1<=2^32) {ty:Nat} {K:Sl->Heap->Prop}
  (M:∀n h',dl h' (grow c h.size i) i e n k f (l++[x])->aU (fun b=>c b≠i) h h'->K n h'):
  aw C.P (qt t 1 parts) (.one (.sc .slc)) h fun v j=>aw C.P (qq #[t,t] ty #[.slice s.ptr s.len s.cap,.slice v.ptr v.len v.cap]) (.one (.sc .slc)) j K:=by
 refine MX H r E [x] rfl q a fun v j N J y _=>?_;have D:aU (fun b=>c b≠i) h j:=y.bp c i;have A:dl j (grow c h.size i) i e s k f l:=⟨B.own.ai y fun _ _=>trivial,fun b G=>by rw[fQ (B.own.lt G)];exact B.bp b G⟩
 have g:h.size<=j.size:=y.1;obtain⟨O,Q,I,x2,_⟩:=r.ex;refine A.append H r ⟨O,e,I,x2⟩ E w F (N.seq (p:=fun _=>True) F fun _ _=>trivial) m o fun n L d u=>?_;rw[grow_grow g]at d;exact M n L d (D.step u)
structure agT (h:Heap) (c:Nat->Nat) (top lo:Nat) (e:TypeId) (s:Sl) (k:Nat) (f:α->List Value) (ll:List (List α)) (rs:List Sl):Prop where
 own:dl h c top e s 1 bI rs
 len:rs.length=ll.length
 row:∀(i:Nat) r l,rs[i]?=some r->ll[i]?=some l->Seq h (fun b=>b<h.size/\lo<=c b/\c b<lo+ll.length) r k f l
theorem me:∀x,∀c∈bI x,c.oneCell'=true:=by intro x c a;simp only[bI,qG]at a;subst a;rfl
end
structure agU {α:Type} (h:Heap) (r:Nat) (g:α->Value) (kvs:List (Int×α)):Prop where
 ex:∃es clock,h[r]?=some (.map es clock)/\es.toList.map (fun e=>(e.key,e.val))=kvs.map (fun p=>(Value.int .i64 p.1,g p.2))
section
variable {α:Type} {P:Program} {h h':Heap} {r:Nat} {g:α->Value} {kvs:List (Int×α)}
end
theorem Rn(x n:Int)(b:0<n):x%n=if x.tmod n<0 then x.tmod n+n else x.tmod n:=by
 have d:=va x b;have e:-n<x.tmod n:=Int.lt_tmod_of_pos x b;have c:=Int.tmod_add_mul_tdiv x n;have a:0<=(if x.tmod n<0 then x.tmod n+n else x.tmod n)/\(if x.tmod n<0 then x.tmod n+n else x.tmod n)<n:=by split<;>omega
 have e2:x=(if x.tmod n<0 then x.tmod n+n else x.tmod n)+n*(if x.tmod n<0 then x.tdiv n-1 else x.tdiv n):=by
  split
  ·rw[Int.mul_sub];omega
  ·omega
 conv=>lhs;rw[e2]
 rw[Int.add_mul_emod_self_left];exact Int.emod_eq_of_lt a.1 a.2
theorem aH{α:Type}(l:List α)(k:Nat)(h:k<l.length):l.take (k+1)=l.take k++[l[k]]:=zp h
theorem ja:∀x,∀c∈aE x,c.oneCell'=true:=by intro x c a;simp only[aE,qG]at a;subst a;rfl
theorem ge:∀x,∀c∈aC x,c.oneCell'=true:=by intro x c a;simp only[aC,qG]at a;subst a;rfl
theorem up{h c d:Heap}(a:aU (fun b=>b<h.size) h c)(b:aU (fun b=>b<c.size) c d):aU (fun b=>b<h.size) h d:=
 a.then b fun _ e _=>qV e a.1
theorem any{h c:Heap}(a:aU (fun _=>True) h c):aU (fun b=>b<h.size) h c:=a.mono fun _ _ _=>trivial
theorem Seq.up{α:Type}{h h':Heap}{s:Sl}{k:Nat}{f:α->List Value}{l:List α}(c:Seq h (fun b=>b<h.size) s k f l)(a:aU (fun b=>b<h.size) h h'):Seq h' (fun b=>b<h'.size) s k f l:=
 (c.ai a).mono fun _ d=>qV d a.1
theorem gG.up{α:Type}{h h':Heap}{s:Sl}{k:Nat}{f:α->List Value}{l:List (List α)}{rs:List Sl}(c:gG h (fun b=>b<h.size) s k f l rs)(a:aU (fun b=>b<h.size) h h'):gG h' (fun b=>b<h'.size) s k f l rs:=
 (c.ai a).mono fun _ d=>qV d a.1
theorem Seq.drop{α:Type}{h:Heap}{p:aA}{s:Sl}{w:Nat}{f:α->List Value}{l:List α}(c:Seq h p s w f l)(k:Nat)(m:s.len<=s.cap):
  Seq h p ⟨if s.cap=k then s.ptr else s.ptr.map (·.add (k*w)),s.len-k,s.cap-k⟩ w f (l.drop k):=by
 have g:=c.len;refine⟨by simp[g],fun i x a=>?_⟩;rw[wq]at a;obtain⟨b,o,e,d,h3⟩:=c.elem _ x a;have j:=(qm.1 a).1;refine⟨b,o+k*w,?_,d,?_⟩
 ·dsimp only;rw[if_neg (by omega),e,qO,add_eq]
 ·rw[show o+k*w+i*w=o+(k+i)*w by rw[Nat.add_mul];omega];exact h3
theorem Seq.take{α:Type}{h:Heap}{p:aA}{s:Sl}{w:Nat}{f:α->List Value}{l:List α}(b:Seq h p s w f l)(k:Nat)(c:k<=l.length):
  Seq h p ⟨s.ptr,k,s.cap⟩ w f (l.take k):=by
 refine⟨by simp;omega,fun i x a=>?_⟩;rw[vb]at a;split at a
 ·exact b.elem i x a
 ·cases a
theorem getD_lt{α:Type}{l:List α}{d:α}{i:Nat}(h:i<l.length):l.getD i d=l[i]:=by rw[qe,qd h];rfl
structure HP where
 p:Heap->aA->Prop
 loc:∀{h h':Heap} {q:aA},p h q->aU q h h'->p h' q
 mono:∀{h:Heap} {q q':aA},p h q->(∀b,q b->q' b)->p h q'
def emp:HP:=⟨fun _ _=>True,fun _ _=>trivial,fun _ _=>trivial⟩
def an{α:Type}(e:TypeId)(s:Sl)(k:Nat)(f:α->List Value)(l:List α):HP:=
 ⟨fun h q=>Own h e s k f l/\∀b,s.on b->q b,fun a d=>⟨a.1.ai d a.2,a.2⟩,fun a c=>⟨a.1,fun b g=>c b (a.2 b g)⟩⟩
def au(a:Addr)(e:TypeId)(d:List Value):HP:=
 ⟨fun h q=>cw h a e d/\q a.block,fun x c=>⟨x.1.ai c x.2,x.2⟩,fun x b=>⟨x.1,b _ x.2⟩⟩
def tu{α:Type}(s:Sl)(k:Nat)(f:α->List Value)(l:List α):HP:=
 ⟨fun h q=>Seq h q s k f l,fun a c=>a.ai c,fun a b=>a.mono b⟩
def fI{α:Type}(e:TypeId)(s:Sl)(k:Nat)(f:α->List Value)(m:List (List α)):HP:=
 ⟨fun h q=>∃(rs:List Sl) (j:aA),Own h e s 1 bI rs/\(∀b,s.on b->q b/\¬j b)/\(∀b,j b->q b)/\rs.length=m.length/\∀(i:Nat) r l,rs[i]?=some r->m[i]?=some l->Seq h j r k f l,
  fun⟨rs,j,a,b,c,d,e⟩ hp=>⟨rs,j,a.ai hp fun x g=>(b x g).1,b,c,d,fun i r l o n=>(e i r l o n).ai (hp.mono fun x _ g=>c x g)⟩,
  fun⟨rs,j,a,b,c,d,e⟩ hq=>⟨rs,j,a,fun x g=>⟨hq x (b x g).1,(b x g).2⟩,fun x g=>hq x (c x g),d,e⟩⟩
structure aa (B:aA) (h0 h:Heap) (As:List HP):Prop where
 low:∀b,B b->b<h0.size
 ai:aU B h0 h
 ex:∃c:Nat->Nat,(∀b,B b->c b=0)/\∀(i:Nat) (A:HP),As[i]?=some A->A.p h (fun b=>b<h.size/\c b=i+1)
abbrev Sp(a h:Heap)(As:List HP):Prop:=aa (fun b=>b<a.size) a h As
section
variable {B:aA} {h0 h h':Heap} {As Bs:List HP} {A A2 D:HP} {c:Nat->Nat} {i j:Nat}
theorem Sp.refl(h:Heap):Sp h h []:=⟨fun _ h=>h,aU.refl _ _,fun _=>0,fun _ _=>rfl,fun i A a=>by simp at a⟩
theorem aa.at(H:aa B h0 h As)(i:Nat)(e:As[i]?=some A):A.p h (fun b=>b<h.size):=by
 obtain⟨c,_,a⟩:=H.ex;exact A.mono (a i A e) fun _ d=>d.1
theorem aa.fin(H:aa B h0 h As)(i:Nat)(g:As[i]?=some A):A.p h (fun b=>¬B b/\b<h.size):=by
 obtain⟨c,d,e⟩:=H.ex;exact A.mono (e i A g) fun b f=>⟨fun a=>by have:=d b a;omega,f.1⟩
theorem Sp.fresh(H:Sp h0 h As)(i:Nat)(c:As[i]?=some A):A.p h (fun b=>h0.size<=b/\b<h.size):=
 A.mono (aa.fin H i c) fun b a=>⟨by omega,a.2⟩
theorem aa.comp(H:aa B h0 h As)(R:Sp h h' Bs):aa B h0 h' (As++Bs):=by
 obtain⟨g,j,l,o,n⟩:=H;obtain⟨_,e,k,m,p⟩:=R;have c:=j.1;refine⟨g,j.then e fun b a _=>qV a c,fun b=>if b<h.size then l b else if k b=0 then 0 else As.length+k b,fun b a=>?_,fun i A d=>?_⟩
 ·dsimp only;rw[if_pos (qV (g b a) c)];exact o b a
 ·by_cases q:i<As.length
  ·rw[qn q]at d;refine A.mono (A.loc (n i A d) (e.mono fun b _ a=>a.1)) fun b a=>⟨qV a.1 e.1,?_⟩
   dsimp only;rw[if_pos a.1];exact a.2
  ·rw[qj (by omega)]at d;refine A.mono (p _ A d) fun b a=>⟨a.1,?_⟩
   have:¬b<h.size:=fun f=>by have:=m b f;omega
   dsimp only;rw[if_neg this,if_neg (by omega)];omega
theorem aa.up(H:aa B h0 h As)(R:aU (fun b=>b<h.size) h h'):aa B h0 h' As:=by
 have:=H.comp (Bs:=[]) ⟨fun _ h=>h,R,fun _=>0,fun _ _=>rfl,fun i A a=>by simp at a⟩;simpa using this
theorem Sp.one(R:aU (fun b=>b<h.size) h h')(d:A.p h' (fun b=>h.size<=b/\b<h'.size)):Sp h h' [A]:=by
 refine⟨fun _ h=>h,R,fun b=>if b<h.size then 0 else 1,fun b a=>if_pos a,fun i A2 c=>?_⟩;cases i with
 |succ i=>simp at c
 |zero=>
  simp at c;subst c;exact A.mono d fun b a=>⟨a.2,by dsimp only;rw[if_neg (by omega)]⟩
theorem Sp.zip(R:aU (fun b=>b<h.size) h h'):Sp h h' []:=aa.up (Sp.refl h) R
theorem aa.enter(q:aA)(c:Nat->Nat)(e:∀b,q b->b<h.size)(a:∀(i:Nat) (A:HP),As[i]?=some A->A.p h (fun b=>q b/\c b=i+1)):aa (fun b=>b<h.size/\¬q b) h h As:=by
 classical
 refine⟨fun b d=>d.1,aU.refl _ _,fun b=>if q b then c b else 0,fun b d=>if_neg d.2,fun i A f=>A.mono (a i A f) fun b d=>⟨e b d.1,?_⟩⟩;dsimp only;rw[if_pos d.1];exact d.2
theorem aa.Ze(q:aA)(d:∀b,q b->b<h.size)(a:A.p h q):aa (fun b=>b<h.size/\¬q b) h h [A]:=
 .enter q (fun _=>1) d fun i A2 c=>by
  cases i with
  |succ i=>simp at c
  |zero=>simp at c;subst c;exact A.mono a fun b e=>⟨e,rfl⟩
theorem aa.Dj(l:∀b,B b->b<h0.size)(f:aU B h0 h)(z:∀b,B b->c b=0)(a:∀(i:Nat) (A:HP),As[i]?=some A->A.p h (fun b=>b<h.size/\c b=i+1))
  (k:aU (fun b=>¬(b<h.size/\c b=i+1)) h h') (n:D.p h' (fun b=>b<h'.size/\((b<h.size/\c b=i+1)∨h.size<=b))):aa B h0 h' (As.set i D):=by
 refine⟨l,f.then k fun b _ d m=>by have:=z b d;omega,grow c h.size (i+1),fun b d=>?_,fun j A e=>?_⟩
 ·rw[fQ (qV (l b d) f.1)];exact z b d
 ·rw[qZ]at e;split at e
  ·rename_i g;subst g;split at e
   ·injection e with e
    subst e;refine D.mono n fun b d=>⟨d.1,?_⟩
    rcases d.2 with h1|h1
    ·rw[fQ h1.1];exact h1.2
    ·exact ro h1
   ·cases e
  ·rename_i g;refine A.mono (A.loc (a j A e) (k.mono fun b _ d m=>by omega)) fun b d=>⟨qV d.1 k.1,?_⟩
   rw[fQ d.1];exact d.2
theorem aa.step(H:aa B h0 h As)(i:Nat)(k:As[i]?=some A)(d:∀q:aA,A.p h q->(∀b,q b->b<h.size)->aU (fun b=>¬q b) h h'/\D.p h' (fun b=>b<h'.size/\(q b∨h.size<=b))):aa B h0 h' (As.set i D):=by
 obtain⟨g,p,c,z,a⟩:=H;obtain⟨e,f⟩:=d _ (a i A k) fun b j=>j.1;exact aa.Dj g p z a e f
theorem aa.gf(H:aa B h0 h As)(i:Nat)(f:As[i]?=some A)(d:∀q:aA,A.p h q->D.p h q):aa B h0 h (As.set i D):=
 H.step i f fun q e a=>⟨aU.refl _ _,D.mono (d q e) fun b c=>⟨a b c,.inl c⟩⟩
theorem aa.merge(H:aa B h0 h As)(i j:Nat)(t:i≠j)(q:As[i]?=some A)(s:As[j]?=some A2)
  (o:∀l m:aA,(∀b,l b->¬m b)->A.p h l->A2.p h m->D.p h (fun b=>l b∨m b)):aa B h0 h ((As.set i D).set j emp):=by
 obtain⟨r,p,c,z,a⟩:=H;refine⟨r,p,fun b=>if c b=j+1 then i+1 else c b,fun b e=>?_,fun k n d=>?_⟩
 ·have:=z b e;dsimp only;rw[if_neg (by omega)];exact this
 ·rw[qZ]at d;split at d
  ·split at d
   ·cases d;trivial
   ·cases d
  ·rename_i u;rw[qZ]at d;split at d
   ·rename_i g;subst g;split at d
    ·injection d with d
     subst d;refine D.mono (o _ _ (fun b f v=>by omega) (a i A q) (a j A2 s)) fun b e=>?_;rcases e with f|f
     ·exact⟨f.1,by dsimp only;rw[if_neg (by omega)];exact f.2⟩
     ·exact⟨f.1,by dsimp only;rw[if_pos f.2]⟩
    ·cases d
   ·rename_i g;refine n.mono (a k n d) fun b e=>⟨e.1,?_⟩
    dsimp only;rw[if_neg (by omega)];exact e.2
theorem aa.pick(H:aa B h0 h As)(f:Nat->Nat)(l:∀i j,f i=f j->i=j)(n:∀(i:Nat) (A2:HP),Bs[i]?=some A2->As[f i]?=some A2):aa B h0 h Bs:=by
 obtain⟨m,p,c,z,a⟩:=H
 classical
 refine⟨m,p,fun b=>if e:∃i,c b=f i+1 then e.choose+1 else 0,fun b e=>?_,fun i A2 g=>?_⟩
 ·have:=z b e;dsimp only;rw[dif_neg];rintro⟨i,g⟩;omega
 ·refine A2.mono (a _ _ (n i A2 g)) fun b e=>⟨e.1,?_⟩
  have d:∃i,c b=f i+1:=⟨i,e.2⟩
  dsimp only;rw[dif_pos d];have o:=d.choose_spec;have k:=l d.choose i (by omega);rw[k]
theorem aa.take(H:aa B h0 h As)(n:Nat)(a:∀(i:Nat) (A2:HP),Bs[i]?=some A2->As[n+i]?=some A2):aa B h0 h Bs:=H.pick (fun i=>n+i) (fun _ _ h=>by omega) a
end
section
variable {B:aA} {α:Type} {C:Ctx} {h0 h h':Heap} {As:List HP} {i e t t2:Nat} {s v:Sl} {k by_:Nat} {f:α->List Value} {l l2:List α} {a:Addr} {cs z:List Value} {p:aA} {ti:TI}
theorem aa.own(H:aa B h0 h As)(i:Nat)(a:As[i]?=some (an e s k f l)):Own h e s k f l:=(H.at i a).1
theorem aa.seq(H:aa B h0 h As)(i:Nat)(a:As[i]?=some (an e s k f l))(c:∀x,(f x).length=k):Seq h (fun b=>b<h.size) s k f l:=(H.at i a).1.seq c (H.at i a).2
theorem aa.rd(H:aa B h0 h As)(i:Nat)(a:As[i]?=some (tu s k f l)):Seq h (fun b=>b<h.size) s k f l:=H.at i a
theorem aa.box(H:aa B h0 h As)(i:Nat)(b:As[i]?=some (au a e cs)):cw h a e cs:=(H.at i b).1
theorem aa.oq(H:aa B h0 h As)(i:Nat)(r:As[i]?=some (an e s k f l)){β:Type}{m n:Nat}{g:β->List Value}{o:List β}(p:aU (fun b=>¬s.on b) h h')(q:Own h' m s n g o):aa B h0 h' (As.set i (an m s n g o)):=
 H.step i r fun _ d j=>⟨p.mono fun b _ a c=>a (d.2 b c),q,fun b a=>⟨qV (j b (d.2 b a)) p.1,.inl (d.2 b a)⟩⟩
theorem aa.BU(H:aa B h0 h As)(i:Nat)(m:As[i]?=some (au a e cs)){c:List Value}(j:aU (fun b=>b≠a.block) h h')(l:cw h' a e c):aa B h0 h' (As.set i (au a e c)):=
 H.step i m fun q f g=>⟨j.mono fun b _ k d=>k (by rw[d];exact f.2),l,⟨qV (g _ f.2) j.1,.inl f.2⟩⟩
theorem aa.freeze(H:aa B h0 h As)(i:Nat)(b:As[i]?=some (an e s k f l))(c:∀x,(f x).length=k):aa B h0 h (As.set i (tu s k f l)):=H.gf i b fun _ a=>a.1.seq c a.2
theorem aa.set(o:C.Ok)(H:aa B h0 h As)(i:Nat)(g:As[i]?=some (an e s k f l))(u:∀x,(f x).length=k)(j:C.T.get t=some ti){x:Int}(n:Nat)(p:x=n)(q:n<l.length){b:Value}(y:α)(r:b.cells=(f y).toArray)(d:ti.size=k)
  (c:(f y).all (·.oneCell')=true) {K:Heap->Prop} (m:∀h',aa B h0 h' (As.set i (an e s k f (l.set n y)))->K h'):
  ∃a:Addr,(s.ptr=some a/\0<=x/\x<((s.len:Nat):Int))/\ag C.P (qf t (.pointer (some (a.add (x.toNat*k)))) b) h fun _ h'=>K h':=
 (H.own i g).set o u j n p q y r d c fun h' z w _=>m h' (H.oq i g w z)
theorem aa.push(J:C.Ok)(H:aa B h0 h As)(i:Nat)(y:As[i]?=some (an e s k f l))(E:bN C.toBR t e k z by_)(A:z.length=k)(r:0<by_/\by_<=128)(Q:∀x,(f x).length=k)
  (m:∀x,∀c∈f x,c.oneCell'=true) (x:α) {parts:Array (Nat×Value)} (d:wh (fun i=>some (i*k,k)) (ij z 1).toArray parts.toList=some ([x].flatMap f).toArray)
  (q:1*k<=2^20) (p:l.length+1<=2^32) {ty:Nat} {K:Sl->Heap->Prop}
  (I:∀o h',aa B h0 h' (As.set i (an e o k f (l++[x])))->K o h'):
  aw C.P (qt t 1 parts) (.one (.sc .slc)) h fun v M=>aw C.P (qq #[t,t] ty #[.slice s.ptr s.len s.cap,.slice v.ptr v.len v.cap]) (.one (.sc .slc)) M K:=by
 obtain⟨G,F,c,D,a⟩:=H;have w:=a i _ y;have O:dl h c (i+1) e s k f l:=⟨w.1,fun b j=>(w.2 b j).2⟩
 refine O.push J E A r Q m x d q p fun o h' g u=>I o h' ?_;refine aa.Dj G F D a (u.mono fun b j L N=>L ⟨j,N⟩) ⟨g.own,fun b j=>⟨g.own.lt j,?_⟩⟩;have:=g.bp b j;by_cases n:b<h.size
 ·rw[fQ n]at this;exact .inl ⟨n,this⟩
 ·exact .inr (by omega)
theorem aa.append(J:C.Ok)(H:aa B h0 h As)(i:Nat)(w:As[i]?=some (an e s k f l))(D:bN C.toBR t e k z by_)(E:∃i e2,C.T.get t2=some i/\i.cE=.slice e2)(y:z.length=k)(q:0<by_/\by_<=128)(Q:∀x,(f x).length=k)
  (O:Seq h p v k f l2) (j:∀x,∀c∈f x,c.oneCell'=true) (o:l.length+l2.length<=2^32) {ty:Nat} {K:Sl->Heap->Prop}
  (I:∀n h',aa B h0 h' (As.set i (an e n k f (l++l2)))->K n h'):
  aw C.P (qq #[t,t2] ty #[.slice s.ptr s.len s.cap,.slice v.ptr v.len v.cap]) (.one (.sc .slc)) h K:=by
 obtain⟨G,F,c,A,a⟩:=H;have u:=a i _ w;have N:dl h c (i+1) e s k f l:=⟨u.1,fun b g=>(u.2 b g).2⟩
 refine N.append J D E y q Q O j o fun n h' d r=>I n h' ?_;refine aa.Dj G F A a (r.mono fun b g L M=>L ⟨g,M⟩) ⟨d.own,fun b g=>⟨d.own.lt g,?_⟩⟩;have:=d.bp b g;by_cases m:b<h.size
 ·rw[fQ m]at this;exact .inl ⟨m,this⟩
 ·exact .inr (by omega)
theorem MY{h h':Heap}{n:Nat}(i:n=h.size)(d:Own h' e s k f l)(g:s.ptr=some ⟨n,0,none⟩)(c:aU (fun _=>True) h h'):Sp h h' [an e s k f l]:=
 .one (any c) ⟨d,fun b a=>⟨by obtain⟨o,a⟩:=a;rw[g]at a;cases a;omega,d.lt a⟩⟩
theorem aa.make(v:C.Ok)(H:aa B h0 h As)(f:α->List Value)(q:bN C.toBR t e k z by_)(g:0<by_/\by_<=128)(c:α)(o:f c=z)(i:z.length=k){r s:IntKind}{n l:Int}(m b:Nat)(A:n=m)(D:l=b)(d:m<=b)(j:b<=2^32)
  {K:Sl->Heap->Prop} (u:∀a h',a.len=m->a.cap=b->aa B h0 h' (As++[an e a k f (qh m c)])->K a h'):
  aw C.P (qB t (.int r n) (.int s l)) (.one (.sc .slc)) h K:=
 run_make v q g c o i m b A D d j fun a h' x y w p _=>u a h' (by rw[x.len];simp) w (H.comp (MY rfl x y p))
theorem aa.lit(o:C.Ok)(H:aa B h0 h As)(f:α->List Value)(j:bN C.toBR t e k z by_)(c:z.length=k){n:Nat}{parts:Array (Nat×Value)}(l:List α)(p:l.length=n)(d:n*k<=2^20)
  (a:wh (fun i=>some (i*k,k)) (ij z n).toArray parts.toList=some (l.flatMap f).toArray) {K:Sl->Heap->Prop}
  (m:∀b h',aa B h0 h' (As++[an e b k f l])->K b h'):
  aw C.P (qt t n parts) (.one (.sc .slc)) h K:=
 MX o j c l p d a fun b h' x y g _=>m b h' (H.comp (MY rfl x y g))
theorem MZ{h h':Heap}(d:a.block=h.size)(c:cw h' a e cs)(b:aU (fun _=>True) h h'):Sp h h' [au a e cs]:=
 .one (any b) ⟨c,by omega,c.lt⟩
theorem aa.alloc(b:C.Ok)(H:aa B h0 h As)(d:C.T.get t=some ti){K:Addr->Heap->Prop}(c:∀a h',aa B h0 h' (As++[au a t ti.zero])->K a h'):
  aO C.P (qJ t true (.tuple #[])) h K:=
 Ai b d fun a h' x y e _=>c a h' (H.comp (MZ x y e))
theorem aa.boxed(H:aa B h0 h As){P:Program}{v:Value}{K:Addr->Heap->Prop}(b:∀a h',aa B h0 h' (As++[au a t v.cells.toList])->K a h'):
  aO P (qL t v) h K:=
 Wf fun a h' x y c _=>b a h' (H.comp (MZ x y c))
theorem aa.store(g:C.Ok)(H:aa B h0 h As)(i:Nat)(f:As[i]?=some (au a e cs))(j:C.T.get t=some ti)(off:Nat){v:Value}(vs:List Value)(l:v.cells=vs.toArray)(d:ti.size=vs.length)
  (c:vs.all (·.oneCell')=true) (b:off+vs.length<=cs.length) {K:Unit->Heap->Prop}
  (k:∀h',aa B h0 h' (As.set i (au a e (cs.take off++vs++cs.drop (off+vs.length))))->K () h'):
  ag C.P (qf t (.pointer (some (a.add off))) v) h K:=
 run_store g (H.box i f) j off vs l d c b fun h' x y _=>k h' (H.BU i f y x)
theorem aa.jD(f:C.Ok)(H:aa B h0 h As)(i:Nat)(j:As[i]?=some (au a e cs))(g:C.T.get t=some ti){v:Value}(vs:List Value)(k:v.cells=vs.toArray)(c:ti.size=vs.length)
  (b:vs.all (·.oneCell')=true) (d:vs.length<=cs.length) {K:Unit->Heap->Prop}
  (l:∀h',aa B h0 h' (As.set i (au a e (vs++cs.drop vs.length)))->K () h'):
  ag C.P (qf t (.pointer (some a)) v) h K:=
 H.store f i j g 0 vs k c b (by omega) (fun h' x=>l h' (by simpa using x))
theorem aa.nil(H:aa B h0 h As)(e k:Nat)(f:α->List Value):aa B h0 h (As++[an e ⟨none,0,0⟩ k f []]):=
 H.comp (.one (aU.refl _ _) ⟨Own.nil h e k f,fun b a=>by obtain⟨o,a⟩:=a;cases a⟩)
theorem aa.KA(H:aa B h0 h As)(e k:Nat)(f:α->List Value):aa B h0 h (As++[fI e ⟨none,0,0⟩ k f []]):=
 H.comp (.one (aU.refl _ _) ⟨[],fun _=>False,Own.nil h e 1 bI,fun b a=>(by obtain⟨o,a⟩:=a;cases a),fun _ a=>a.elim,rfl,fun i r l h=>by simp at h⟩)
theorem aa.uI(hC:C.Ok)(H:aa B h0 h As)(i j:Nat)(E:i≠j){N:List (List α)}{r:Sl}{x:List α}(S:As[i]?=some (fI e s k f N))(hj:As[j]?=some (tu r k f x))(he:bN C.toBR t e 1 [.slice none 0 0] 24)
  (W:N.length+1<=2^32) {ty:Nat} {K:Sl->Heap->Prop} (hk:∀O h',aa B h0 h' ((As.set j emp).set i (fI e O k f (N++[x])))->K O h'):
  aw C.P (qt t 1 #[(0,.slice r.ptr r.len r.cap)]) (.one (.sc .slc)) h fun v u=>aw C.P (qq #[t,t] ty #[.slice s.ptr s.len s.cap,.slice v.ptr v.len v.cap]) (.one (.sc .slc)) u K:=by
 have Y:=H.merge i j E S hj (D:=⟨fun h q=>∃(rs:List Sl) (g:aA),Own h e s 1 bI rs/\(∀b,s.on b->q b/\¬g b)/\(∀b,g b->q b)/\rs.length=N.length/\(∀(i:Nat) r l,rs[i]?=some r->N[i]?=some l->Seq h g r k f l)/\Seq h g r k f x,
  fun⟨rs,g,a,b,c,d,e,f⟩ hp=>⟨rs,g,a.ai hp fun x n=>(b x n).1,b,c,d,fun i r l u z=>(e i r l u z).ai (hp.mono fun x _ n=>c x n),f.ai (hp.mono fun x _ n=>c x n)⟩,
  fun⟨rs,g,a,b,c,d,e,f⟩ hq=>⟨rs,g,a,fun x n=>⟨hq x (b x n).1,(b x n).2⟩,fun x n=>hq x (c x n),d,e,f⟩⟩)
  (fun g q2 X hA hB=>by
   obtain⟨rs,q3,a,b,c,d,e'⟩:=hA;refine⟨rs,fun b=>q3 b∨q2 b,a,fun x n=>⟨.inl (b x n).1,fun M=>M.elim (b x n).2 (X x (b x n).1)⟩,fun x n=>n.elim (fun h=>.inl (c x h)) .inr,d,fun i r l u z=>(e' i r l u z).mono fun _ h=>.inl h,Seq.mono hB fun _ h=>.inr h⟩)
 have w:i<As.length:=(qm.1 S).1;obtain⟨lo,pp,c,Z,a⟩:=Y;have ha:=a i _ (by rw[z6 (Ne.symm E),zy w]);obtain⟨rs,g,a1,a2,a3,a4,a5,a6⟩:=ha;let T:Nat->Nat:=fun b=> @ite _ (g b) (Classical.propDecidable _) (As.length+2) (c b);have F:∀b,g b->b<h.size/\c b=i+1:=a3;have ho:dl h T (i+1) e s 1 bI rs:=⟨a1,fun b m=>by
  have:=a2 b m;show @ite _ (g b) (Classical.propDecidable _) _ _=_;rw[if_neg this.2];exact this.1.2⟩
 refine ho.push hC he rfl (by decide) (fun _=>rfl) me r rfl (by decide) (by omega) fun O h' A G=>hk O h' ?_;rw[y7 _ _ (Ne.symm E)];rw[<-yY (l:=As) (i:=i),y7 _ _ E];have J:∀b,g b->T b≠i+1:=fun b m=>by
  show @ite _ (g b) (Classical.propDecidable _) _ _≠_;rw[if_pos m];omega
 refine aa.Dj lo pp Z a (G.mono fun b m hn hc=>hn ⟨m,?_⟩) ⟨rs++[r],fun b=>g b/\b<h.size,A.own,fun b m=>?_,fun b m=>⟨qV m.2 G.1,.inl ⟨m.2,(F b m.1).2⟩⟩,by simp[a4],fun Q r' l' u z=>?_⟩
 ·by_cases y:g b
  ·exact(F b y).2
  ·have o: @ite _ (g b) (Classical.propDecidable _) (As.length+2) (c b)=i+1:=hc;rw[if_neg y]at o;exact o
 ·have p:=A.bp b m;by_cases w:b<h.size
  ·rw[fQ w]at p;have L:¬g b:=fun y=>J b y p;have o: @ite _ (g b) (Classical.propDecidable _) (As.length+2) (c b)=i+1:=p;rw[if_neg L]at o;exact⟨⟨A.own.lt m,.inl ⟨w,o⟩⟩,fun M=>L M.1⟩
  ·exact⟨⟨A.own.lt m,.inr (by omega)⟩,fun M=>w M.2⟩
 ·have I:∀{U:Sl} {l:List α},Seq h g U k f l->Seq h' (fun b=>g b/\b<h.size) U k f l:=fun V=>
   (V.mono (q:=fun b=>g b/\b<h.size) fun b m=>⟨m,(F b m).1⟩).ai (G.mono fun b _ m=>J b m.1)
  by_cases R:Q<rs.length
  ·rw[qn R]at u;rw[qn (by omega)]at z;exact I (a5 Q r' l' u z)
  ·have:Q=rs.length:=by
    have:=(qm.1 u).1;simp at this;omega
   subst this;simp at u;rw[a4]at z;simp at z;subst u;subst z;exact I a6
theorem aa.rows(H:aa B h0 h As)(i:Nat){g:List (List α)}(o:As[i]?=some (fI e s k f g)):∃rs,gG h (fun b=>b<h.size) s k f g rs:=by
 obtain⟨rs,p,a,b,c,d,e⟩:=H.at i o;exact⟨rs,a.seq (fun _=>rfl) fun x j=>(b x j).1,d,fun i r l m n=>(e i r l m n).mono c⟩
end
theorem abJ(vs:List Value):∀(pre old post:List Value),old.length=vs.length->((vs.zipIdx 0).foldl (fun(cs:Array Value) (p:Value×Nat)=>cs.setIfInBounds (pre.length+p.2) p.1) (pre++old++post).toArray)=(pre++vs++post).toArray:=by
 have b:∀(vs pre old post:List Value) (k:Nat),old.length=vs.length->pre.length=pre.length->∀n,n+k=pre.length->((vs.zipIdx k).foldl (fun(cs:Array Value) (p:Value×Nat)=>cs.setIfInBounds (n+p.2) p.1) (pre++old++post).toArray)=(pre++vs++post).toArray:=by
  intro vs
  induction vs with
  |nil=>intro pre old post k a _ n _;rw[qW a];rfl
  |cons v vs ih=>
   intro pre old post k a _ n c;cases old with
   |nil=>simp at a
   |cons u old=>
    rw[List.zipIdx_cons,zB];have e:(pre++(u::old)++post).toArray.setIfInBounds (n+k) v=((pre++[v])++old++post).toArray:=by
     rw[c];apply yg;simp
    dsimp only;rw[e,ih (pre++[v]) old post (k+1) (by simpa using a) rfl n (by simp;omega)];simp
 intro pre old post h;exact b vs pre old post 0 h rfl pre.length (by omega)
theorem Ro{a:Nat->Option (Nat×Nat)}{i:Nat}{v:Value}{vs pre old post:List Value}{rest:List (Nat×Value)}(d:v.cells=vs.toArray)(b:a i=some (pre.length,vs.length))(c:old.length=vs.length):
  wh a (pre++old++post).toArray ((i,v)::rest)=wh a (pre++vs++post).toArray rest:=by
 conv=>lhs;unfold wh
 simp only[b,d];rw[if_neg (by simp;omega)];congr 1;have:=abJ vs pre old post c;simpa using this
section
variable {C:Ctx} {t:Nat} {i:TI} {h:Heap}
theorem FI(g:C.Ok)(m:C.T.get t=some i){o:List (Nat×TypeId)}(h:i.cE=.struct o){c:List (Nat×Nat)}(d:placesOf C.T o=some c){vs:List (Nat×Value)}{cells:Array Value}
  (a:wh (fun n=>c[n]?) i.zero.toArray vs=some cells):aI C.P (vy t vs.toArray) (.agg cells):=by
 obtain⟨z,q,j⟩:=rY g.toOk m;have b:i.zero.toArray=z.cells:=by rw[<-j]
 have l:=g.cE m;rw[h]at l;obtain⟨p,r,rfl⟩:=oT l;refine q.bind ((aN r).bind ?_);have e:aI C.P (p.mapM fun f=>(do pure (f.offset,<-sizeOf f.type):Sem (Nat×Nat))) c.toArray:=by
  rw[yZ];intro w;have:=nB g.toOk d w;rw[map_eq_pure_bind,Sem.run_bind,this];rfl
 refine e.bind ?_;have k:wh (fun n=>c.toArray[n]?) z.cells vs.toArray.toList=some cells:=by
  rw[<-b];simpa using a
 rw[k];exact .pure
end
theorem take_set{α:Type}(l:List α)(n:Nat)(x:α)(h:n<l.length):l.take n++[x]++l.drop (n+1)=l.set n x:=by
 rw[yy,if_pos h];simp
section
variable {B:aA} {C:Ctx} {h0 h h':Heap} {As:List HP} {e t:Nat} {a:Addr} {cs:List Value} {ti:TI}
theorem aa.storeAt(f:C.Ok)(H:aa B h0 h As)(i:Nat)(j:As[i]?=some (au a e cs))(g:C.T.get t=some ti){off:Nat}{v:Value}(k:v.cells=#[v])(d:ti.size=1)
  (b:v.oneCell'=true) (c:off<cs.length) {K:Unit->Heap->Prop}
  (l:∀h',aa B h0 h' (As.set i (au a e (cs.set off v)))->K () h'):
  ag C.P (qf t (.pointer (some (a.add off))) v) h K:=
 H.store f i j g off [v] k d (by simp[b]) (by simp;omega) fun h' x=>l h' (by rw[<-take_set _ _ _ c];simpa using x)
theorem aa.storeAll(f:C.Ok)(H:aa B h0 h As)(i:Nat)(j:As[i]?=some (au a e cs))(g:C.T.get t=some ti){v:Value}(vs:List Value)(k:v.cells=vs.toArray)(c:ti.size=vs.length)
  (b:vs.all (·.oneCell')=true) (d:vs.length=cs.length) {K:Unit->Heap->Prop}
  (l:∀h',aa B h0 h' (As.set i (au a e vs))->K () h'):
  ag C.P (qf t (.pointer (some a)) v) h K:=
 H.jD f i j g vs k c b (by omega) fun h' x=>l h' (by rw[q9 (by omega),qP]at x;exact x)
end
theorem ug(n:Nat)(a:n<=9223372036854775807):qc vR (n:Int)=n:=wrap_small _ (by omega) (by omega)
abbrev Rd{α:Type}(h:Heap)(s:Sl)(k:Nat)(f:α->List Value)(l:List α):Prop:=Seq h (fun b=>b<h.size) s k f l
abbrev gg{α:Type}(h:Heap)(s:Sl)(k:Nat)(f:α->List Value)(a:List (List α)):Prop:=∃rs,gG h (fun b=>b<h.size) s k f a rs
section
variable {α:Type} {B:aA} {h0 h h':Heap} {As:List HP} {s:Sl} {k e:Nat} {f:α->List Value} {l:List α} {ll:List (List α)}
theorem gg.up(a:gg h s k f ll)(c:aU (fun b=>b<h.size) h h'):gg h' s k f ll:=by
 obtain⟨rs,a⟩:=a;exact⟨rs,gG.up a c⟩
theorem gg.len(a:gg h s k f ll):s.len=ll.length:=by obtain⟨rs,a⟩:=a;exact a.Rj
theorem gg.get(b:gg h s k f ll){i:Int}(n:Nat)(e:i=n)(c:n<ll.length){K:Sl->Prop}(g:∀r,Rd h r k f ll[n]->K r):
  ∃a:Addr,(s.ptr=some a/\0<=i/\i<((s.len:Nat):Int))/\∃x:Sl,cellOf h (a.add (i.toNat*1))=some (.slice x.ptr x.len x.cap)/\K x:=by
 obtain⟨rs,b⟩:=b;exact b.get n e c fun r d _=>g r d
theorem Seq.isSome{p:aA}(a:Seq h p s k f l)(d:l≠[]):s.ptr.isNone=false:=by
 cases l with
 |nil=>exact absurd rfl d
 |cons x t=>obtain⟨b,o,c,_⟩:=a.elem 0 x (by simp);rw[c];rfl
theorem Seq.isNil{p:aA}(b:Seq h p s k f l)(a:s.ptr.isNone=true):l=[]:=by
 cases l with
 |nil=>rfl
 |cons x t=>rw[b.isSome (by simp)]at a;cases a
theorem aa.IH(H:aa B h0 h As)(i:Nat)(a:As[i]?=some (fI e s k f ll)):gg h s k f ll:=H.rows i a
end
section
variable {B:aA} {h0 h h':Heap} {As Bs:List HP} {A D:HP}
theorem aa.del(H:aa B h0 h As)(i:Nat):aa B h0 h (As.eraseIdx i):=
 H.pick (fun j=>if j<i then j else j+1) (fun a b d=>by split at d<;>split at d<;>omega) fun j A e=>by
  rw[List.getElem?_eraseIdx]at e;split at e
  ·rename_i c;rw[if_pos c];exact e
  ·rename_i c;rw[if_neg c];exact e
theorem aa.call(H:aa B h0 h As)(i:Nat)(u:As[i]?=some A)(q:aA)(K:∀q':aA,A.p h q'->∀b,q b->q' b)(R:aa (fun b=>b<h.size/\¬q b) h h' (D::Bs)):aa B h0 h' (As.set i D++Bs):=by
 classical
 obtain⟨v,w,g,y,x⟩:=H;obtain⟨_,t,j,I,E⟩:=R;have s:=w.1;have F:=(qm.1 u).1;have m:∀b,q b->b<h.size/\g b=i+1:=K _ (x i A u);have z:∀b,B b->b<h.size/\¬q b:=fun b a=>⟨qV (v b a) s,fun r=>by have:=y b a;have:=m b r;omega⟩
 let c:Nat->Nat:=fun b=>if b<h.size/\¬q b then(if g b=i+1 then 0 else g b)else if j b=0 then 0 else if j b=1 then i+1 else As.length+j b-1
 have e:∀b,b<h.size/\¬q b->g b≠i+1->c b=g b:=fun b a L=>by show ite _ _ _=_;rw[if_pos a,if_neg L]
 have f:∀b,j b≠0->c b=if j b=1 then i+1 else As.length+j b-1:=fun b a=>by
  have:¬(b<h.size/\¬q b):=fun r=>a (I b r);show ite _ _ _=_;rw[if_neg this,if_neg a]
 refine⟨v,w.then t fun b _ a=>z b a,c,fun b a=>?_,fun k o d=>?_⟩
 ·have:=y b a;rw[e b (z b a) (by omega)];exact this
 ·by_cases G:k<As.length
  ·rw[qn (by simpa using G),qZ]at d;split at d
   ·rename_i n;subst n;injection d with d
    subst d;refine D.mono (E 0 D rfl) fun b a=>⟨a.1,?_⟩
    rw[f b (by omega),if_pos a.2]
   ·rename_i n;have l:∀b,b<h.size/\g b=k+1->b<h.size/\¬q b:=fun b a=>⟨a.1,fun r=>by have:=m b r;omega⟩
    refine o.mono (o.loc (x k o d) (t.mono fun b _ a=>l b a)) fun b a=>⟨qV a.1 t.1,?_⟩
    rw[e b (l b a) (by omega)];exact a.2
  ·rw[qj (by simpa using G)]at d;rw[zE]at d;have J:=E (k-As.length+1) o (by simpa using d);refine o.mono J fun b a=>⟨a.1,?_⟩
   rw[f b (by omega),if_neg (by omega)];omega
end
section
variable {B:aA} {α:Type} {h0 h h':Heap} {As Bs:List HP} {A D:HP} {e k:Nat} {s:Sl} {f:α->List Value} {l:List α}
theorem aa.off(H:aa B h0 h As)(i j:Nat)(n:i≠j)(m:As[i]?=some (an e s k f l))(o:As[j]?=some A):A.p h (fun b=>b<h.size/\¬s.on b):=by
 obtain⟨_,_,c,_,a⟩:=H;refine A.mono (a j A o) fun b g=>⟨g.1,fun d=>?_⟩
 have:=(a i _ m).2 b d;omega
theorem aa.base(H:aa B h0 h As)(i:Nat)(j:As[i]?=some (an e s k f l)){b:Nat}(g:B b):¬s.on b:=fun d=>by
 obtain⟨_,_,c,z,a⟩:=H;have:=(a i _ j).2 b d;have:=z b g;omega
theorem aa.aff(H:aa B h0 h (As++[D]))(i:Nat)(k:i<As.length):aa B h0 h (As.set i D):=
 H.pick (fun j=>if j<As.length then(if j=i then As.length else j)else j+1) (fun a b c=>by split at c<;>split at c<;>(try split at c)<;>(try split at c)<;>omega) fun j A f=>by
  have e:j<As.length:=by have:=(qm.1 f).1;simpa using this
  rw[if_pos e];rw[qZ]at f;split at f
  ·rename_i d;subst d;rw[if_pos rfl,qj (ql _),zf];exact f
  ·rename_i d;rw[if_neg (fun g=>d g.symm),qn e];exact f
theorem aa.adA(H:aa B h0 h As)(i j:Nat){A2:HP}(m:As[i]?=some A)(n:As[j]?=some A2):aa B h0 h ((As.set i A2).set j A):=by
 have l:=(qm.1 m).1;have g:=(qm.1 n).1;refine H.pick (fun x=>if x=j then i else if x=i then j else x) (fun a b c=>by split at c<;>split at c<;>(try split at c)<;>(try split at c)<;>omega) fun x o d=>?_;rw[qZ,qZ]at d;by_cases e:j=x
 ·subst e;simp[g]at d;subst d;simpa using m
 ·by_cases k:i=x
  ·subst k;simp[e,l]at d;subst d;rw[if_neg (fun f=>e f.symm),if_pos rfl];exact n
  ·simp[e,k]at d;rw[if_neg (fun f=>e f.symm),if_neg (fun f=>k f.symm)];exact d
end
def bP{α:Type}(e k:Nat)(f:α->List Value)(rs:List Sl)(a:List (List α)):List HP:=zj (fun r l=>an e r k f l) rs a
section
variable {α:Type} {e k:Nat} {f:α->List Value} {rs:List Sl} {ll:List (List α)}
theorem Uq(h:rs.length=ll.length):(bP e k f rs ll).length=ll.length:=by simp[bP,h]
theorem jU(h:rs.length=ll.length)(i:Nat)(a:i<ll.length):(bP e k f rs ll)[i]?=some (an e (rs[i]'(by omega)) k f ll[i]):=by
 have b:i<rs.length:=by omega
 simp[bP,wG,qd a,qd b]
theorem uU(h:rs.length=ll.length)(r:Sl)(l:List α):bP e k f (rs++[r]) (ll++[l])=bP e k f rs ll++[an e r k f l]:=by
 unfold bP;rw[yH h];rfl
theorem lC(h:rs.length=ll.length)(i:Nat)(r:Sl)(l:List α):(bP e k f rs ll).set i (an e r k f l)=bP e k f (rs.set i r) (ll.set i l):=by
 apply zH;intro j;simp only[bP,qZ,wG,List.length_zipWith];by_cases a:i=j
 ·subst a;by_cases b:i<ll.length
  ·have:i<rs.length:=by omega
   simp[b,this];omega
  ·have:¬i<rs.length:=by omega
   simp[b];omega
 ·simp[a]
theorem Rp(h:rs.length=ll.length)(i:Nat)(a:i<ll.length)(l:List α):(bP e k f rs ll).set i (an e (rs[i]'(by omega)) k f l)=bP e k f rs (ll.set i l):=by
 rw[lC h,List.set_getElem_self]
theorem aa.Rq{B:aA}{j h:Heap}{s:Sl}{b:Nat}(H:aa B j h (an b s 1 bI rs::bP e k f rs ll))(g:rs.length=ll.length)(n:∀x,(f x).length=k):gg h s k f ll:=by
 refine⟨rs,H.seq 0 rfl (fun _=>rfl),g,fun i r l d a=>?_⟩;have c:i<ll.length:=(qm.1 a).1;have m:=jU (e:=e) (k:=k) (f:=f) g i c;have h3:=H.seq (i+1) (by simpa using m) n;have b:rs[i]'(by omega)=r:=by rw[qd (by omega)]at d;simpa using d
 have e2:ll[i]=l:=by rw[qd c]at a;simpa using a
 rw[b,e2]at h3;exact h3
end
section
variable {α:Type} {h:Heap} {p:aA} {s:Sl} {f:α->List Value} {l:List α}
theorem Seq.QN{X:Type}{g:X->Value}(c:Seq h p s 1 f l){i:Int}(n:Nat)(j:i=n)(q:n<l.length)(x:X)(m:f l[n]=[g x]){K:Addr->X->Prop}(k:∀a:Addr,cellOf h (a.add (i.toNat*1))=some (g x)->K a x):
  ∃a:Addr,(s.ptr=some a/\0<=i/\i<((s.len:Nat):Int))/\∃x:X,cellOf h (a.add (i.toNat*1))=some (g x)/\K a x:=by
 subst j;obtain⟨b,o,r,_,h3⟩:=c.elem n l[n] (qd q);rw[m]at h3;have d:=h3.1;rw[add_eq,yl]at d;have e:cellOf h ((⟨b,o,none⟩:Addr).add ((n:Int).toNat*1))=some (g x):=by rw[add_eq];simpa using d
 exact⟨_,⟨r,by omega,by rw[c.len];omega⟩,x,e,k _ e⟩
end
theorem Seq.oV{h:Heap}{p:aA}{s:Sl}{rs:List Sl}(c:Seq h p s 1 bI rs){i:Int}(n:Nat)(f:i=n)(k:n<rs.length){K:Addr->Sl->Prop}
  (j:∀a:Addr,cellOf h (a.add (i.toNat*1))=some (.slice rs[n].ptr rs[n].len rs[n].cap)->p (a.add (i.toNat*1)).block->K a rs[n]):
  ∃a:Addr,(s.ptr=some a/\0<=i/\i<((s.len:Nat):Int))/\∃x:Sl,cellOf h (a.add (i.toNat*1))=some (.slice x.ptr x.len x.cap)/\K a x:=by
 subst f;obtain⟨b,o,l,g,h3⟩:=c.elem n rs[n] (qd k);have d:=h3.1;rw[add_eq,yl]at d;have e:cellOf h ((⟨b,o,none⟩:Addr).add ((n:Int).toNat*1))=some (.slice rs[n].ptr rs[n].len rs[n].cap):=by rw[add_eq];simpa using d
 exact⟨_,⟨l,by omega,by rw[c.len];omega⟩,rs[n],e,j _ e (by rw[add_eq];exact g)⟩
section
variable {B:aA} {α:Type} {h0 h:Heap} {As:List HP} {e k:Nat} {s:Sl} {f:α->List Value} {l:List α}
theorem Own.cut(a:Own h e s k f l)(c:∀x,(f x).length=k)(j:Nat)(g:j<=l.length):Own h e ⟨s.ptr,j,s.cap⟩ k f (l.take j):=by
 have d:=a.len;refine⟨by simp;omega,?_⟩;rcases a.head with⟨h1,h2,h3⟩|⟨b,rest,h1,h2,h3,h4⟩
 ·subst h3;exact .inl ⟨h1,h2,by simp⟩
 ·refine .inr ⟨b,(l.drop j).flatMap f++rest,h1,?_,?_,by dsimp only;omega⟩
  ·rw[<-qo,<-zb,qD];exact h2
  ·rw[qu,cX c,qY,h3,<-Nat.add_mul];dsimp only;congr 1;omega
end
section
variable {B:aA} {α:Type} {C:Ctx} {h0 h:Heap} {As:List HP} {e t k:Nat} {s:Sl} {f:α->List Value} {l:List α} {ti:TI}
end
section
variable {C:Ctx} {t t2 ty e k:Nat} {z:List Value} {by_:Nat} {α:Type} {h h0:Heap} {p B:aA} {s v:Sl} {f:α->List Value} {l l2:List α} {As:List HP}
theorem Own.KB(E:C.Ok)(D:bN C.toBR t e k z by_)(B:∀x,(f x).length=k)(A:Own h e s k f l)(F:Seq h p v k f l2)(g:∀x,∀c∈f x,c.oneCell'=true){K:Int->Heap->Prop}
  (u:∀n h',Own h' e s k f (l2.take l.length++l.drop l2.length)->aU (fun b=>¬s.on b) h h'->K n h'):
  aw C.P (wT #[t,t2] ty #[.slice s.ptr s.len s.cap,.slice v.ptr v.len v.cap]) (.one (.sc (.int .i64))) h K:=by
 unfold aw wT;simp only[zM,yc,qz];refine ag.bind (ag.always (aN (D.under E)) ?_);refine ag.bind (ag.pure' ?_);refine ag.bind (ag.always (D.size E) ?_);have a:=A.len;have d:=F.len;obtain⟨m,i⟩:∃m,m=Nat.min v.len s.len:=⟨_,rfl⟩
 rw[<-i];have y:m<=l2.length:=by rw[i,<-d];exact Nat.min_le_left _ _
 have j:m<=l.length:=by rw[i,<-a];exact Nat.min_le_right _ _
 have H:m=min l2.length l.length:=by rw[i,a,d]
 have o:=F.take m y;have G:l2.take l.length++l.drop l2.length=l2.take m++l.drop m:=by
  rcases Nat.le_total l2.length l.length with hh|hh
  ·rw[qi hh,show m=l2.length by omega,qR]
  ·rw[show m=l.length by omega,q9 hh,List.drop_length]
 rw[G]at u;have q:wo k m (.slice v.ptr v.len v.cap)=wo k m (.slice v.ptr m v.cap):=by cases v.ptr<;>rfl
 rw[q];refine ag.bind (fT (v:=⟨v.ptr,m,v.cap⟩) B o ?_);rcases A.head with⟨h1,h2,h3⟩|⟨b,rest,h1,h2,h3,h4⟩
 ·rw[h1];subst h3;have:m=0:=by simpa using j
  subst this;refine ag.pure' ⟨_,rfl,u _ h ?_ (aU.refl _ _)⟩;simpa using A
 ·rw[h1];refine ag.bind ?_;have r:l.flatMap f++rest=(l.take m).flatMap f++((l.drop m).flatMap f++rest):=by
   rw[<-qo,<-zb,qD]
  rw[r]at h2;refine eN (e:=e) (pre:=[]) (old:=(l.take m).flatMap f) (post:=(l.drop m).flatMap f++rest) (by simpa using h2) (by rw[cX B,cX B,qX,qX];congr 1;omega) rfl ?_ ?_
  ·intro c J;obtain⟨x,_,w⟩:=zO.1 J;exact g x c w
  ·refine ag.pure' ⟨_,rfl,u _ _ ⟨by rw[a,qu,qX,qY];omega,.inr ⟨b,rest,h1,?_,h3,h4⟩⟩ (aU.je h2 (fun I=>I ⟨0,h1⟩))⟩;rw[gV h2,if_pos rfl,zb];simp
theorem aa.KB(d:C.Ok)(H:aa B h0 h As)(i:Nat)(b:As[i]?=some (an e s k f l))(m:bN C.toBR t e k z by_)(o:∀x,(f x).length=k)(g:Seq h p v k f l2)(a:∀x,∀c∈f x,c.oneCell'=true){K:Int->Heap->Prop}
  (j:∀n h',aa B h0 h' (As.set i (an e s k f (l2.take l.length++l.drop l2.length)))->K n h'):
  aw C.P (wT #[t,t2] ty #[.slice s.ptr s.len s.cap,.slice v.ptr v.len v.cap]) (.one (.sc (.int .i64))) h K:=
 (H.own i b).KB d m o g a fun n h' x y=>j n h' (H.oq i b y x)
end
def Na(d:Sl)(w i:Nat):Sl:=⟨if d.cap=i*w then d.ptr else d.ptr.map (·.add (i*w*1)),(i+1)*w-i*w,d.cap-i*w⟩
def FJ{α:Type}(l:List α)(w i:Nat):List α:=(l.drop (i*w)).take w
theorem Seq.piece{α:Type}{h:Heap}{p:aA}{s:Sl}{f:α->List Value}{l:List α}(a:Seq h p s 1 f l)(d:s.len<=s.cap)(w i:Nat)(g:(i+1)*w<=l.length):Seq h p (Na s w i) 1 f (FJ l w i):=by
 have b:=a.drop (i*w) d;have e:(i+1)*w=i*w+w:=zI i w;have c:=b.take w (by rw[qY];omega);have e2:(i+1)*w-i*w=w:=by omega
 unfold Na FJ;rw[e2];exact c
theorem aea{α:Type}{l:List α}{w i:Nat}(a:(i+1)*w<=l.length):(FJ l w i).length=w:=by
 have e:(i+1)*w=i*w+w:=zI i w;simp only[FJ,qX,qY];omega
def HP.sep(A D:HP):HP:=
 ⟨fun h q=>∃f i:aA,(∀b,f b->¬i b)/\(∀b,f b->q b)/\(∀b,i b->q b)/\A.p h f/\D.p h i,
  fun⟨f,i,a,b,c,d,e⟩ hp=>⟨f,i,a,b,c,A.loc d (hp.mono fun x _ g=>b x g),D.loc e (hp.mono fun x _ g=>c x g)⟩,
  fun⟨f,i,a,b,c,d,e⟩ hq=>⟨f,i,a,fun x g=>hq x (b x g),fun x g=>hq x (c x g),d,e⟩⟩
def HP.ex{ι:Type}(F:ι->HP):HP:=⟨fun h q=>∃i,(F i).p h q,fun⟨i,a⟩ hp=>⟨i,(F i).loc a hp⟩,fun⟨i,a⟩ hq=>⟨i,(F i).mono a hq⟩⟩
def HP.and(A:HP)(P:Prop):HP:=⟨fun h q=>A.p h q/\P,fun a c=>⟨A.loc a.1 c,a.2⟩,fun a b=>⟨A.mono a.1 b,a.2⟩⟩
section
variable {B:aA} {h0 h h':Heap} {As Bs:List HP} {A D E:HP} {i j:Nat}
theorem aa.split(H:aa B h0 h As)(i:Nat)(n:As[i]?=some (A.sep D)):aa B h0 h (As.set i A++[D]):=by
 classical
 obtain⟨r,p,c,z,a⟩:=H;obtain⟨x,v,q,o,g,t,s⟩:=a i _ n;have w:=(qm.1 n).1;refine⟨r,p,fun b=>if v b then As.length+1 else c b,fun b e=>?_,fun j X d=>?_⟩
 ·have u:=z b e;dsimp only;rw[if_neg];exact u;intro k;have:=(g b k).2;omega
 ·by_cases m:j<As.length
  ·rw[qn (by simpa using m),qZ]at d;split at d
   ·rename_i f;subst f
    first|rw[if_pos m]at d|skip
    injection d with d
    subst d;refine A.mono t fun b e=>⟨(o b e).1,?_⟩
    dsimp only;rw[if_neg (q b e)];exact(o b e).2
   ·rename_i f;refine X.mono (a j X d) fun b e=>⟨e.1,?_⟩
    dsimp only;rw[if_neg];exact e.2;intro k;have:=(g b k).2;omega
  ·rw[qj (by simpa using m)]at d;rw[zE]at d;have l:j=As.length:=by
    have:=(qm.1 d).1;simp at this;omega
   subst l;simp at d;subst d;refine D.mono s fun b e=>⟨(g b e).1,?_⟩
   dsimp only;rw[if_pos e]
theorem aa.join(H:aa B h0 h As)(i j:Nat)(b:i≠j)(k:As[i]?=some A)(l:As[j]?=some D):aa B h0 h ((As.set i (A.sep D)).set j emp):=
 H.merge i j b k l fun c d g f e=>⟨c,d,g,fun _ a=>.inl a,fun _ a=>.inr a,f,e⟩
theorem aa.WZ{ι:Type}{F:ι->HP}(H:aa B h0 h As)(i:Nat)(g:As[i]?=some (HP.ex F)):∃x,aa B h0 h (As.set i (F x)):=by
 obtain⟨f,p,c,z,a⟩:=H;obtain⟨x,e⟩:=a i _ g;refine⟨x,f,p,c,z,fun j X b=>?_⟩;rw[qZ]at b;split at b
 ·rename_i d;subst d;split at b
  ·injection b with b;subst b;exact e
  ·cases b
 ·exact a j X b
theorem aa.close'{ι:Type}{F:ι->HP}(H:aa B h0 h As)(i:Nat)(x:ι)(b:As[i]?=some (F x)):aa B h0 h (As.set i (HP.ex F)):=H.gf i b fun _ a=>⟨x,a⟩
theorem aa.fact{P:Prop}(H:aa B h0 h As)(i:Nat)(a:As[i]?=some (A.and P)):P:=(H.at i a).2
theorem aa.adB{P:Prop}(H:aa B h0 h As)(i:Nat)(b:As[i]?=some (A.and P)):aa B h0 h (As.set i A):=H.gf i b fun _ a=>a.1
theorem aa.agn{P:Prop}(H:aa B h0 h As)(i:Nat)(c:As[i]?=some A)(b:P):aa B h0 h (As.set i (A.and P)):=H.gf i c fun _ a=>⟨a,b⟩
theorem aa.cons(H:aa B h0 h As)(i:Nat)(g:As[i]?=some A):aa B h0 h (A::As.set i emp):=by
 obtain⟨k,p,c,z,a⟩:=H;have l:=(qm.1 g).1;refine⟨k,p,fun b=>if c b=i+1 then 1 else if c b=0 then 0 else c b+1,fun b e=>?_,fun j X d=>?_⟩
 ·have:=z b e;dsimp only;rw[if_neg (by omega),if_pos this]
 ·cases j with
  |zero=>
   simp at d;subst d;refine A.mono (a i A g) fun b e=>⟨e.1,by dsimp only;rw[if_pos e.2]⟩
  |succ j=>
   rw[qz,qZ]at d;split at d
   ·rename_i f;injection d with d;subst d;trivial
   ·rename_i f;refine X.mono (a j X d) fun b e=>⟨e.1,by dsimp only;rw[if_neg (by omega),if_neg (by omega)];omega⟩
theorem aa.rest(H:aa B h0 h (A::As)):aa B h0 h As:=H.pick (fun j=>j+1) (fun a b h=>by omega) fun j X c=>by simpa using c
end
structure iC (α β:Type) where
 p:Heap->aA->α->β->Prop
 loc:∀{h h':Heap} {q:aA} {a:α} {b:β},p h q a b->aU q h h'->p h' q a b
 mono:∀{h:Heap} {q q':aA} {a:α} {b:β},p h q a b->(∀x,q x->q' x)->p h q' a b
def gh{α:Type}(k:Nat)(f:α->List Value):iC Sl (List α):=⟨fun h q s l=>Seq h q s k f l,fun a c=>a.ai c,fun a b=>a.mono b⟩
def tv{α:Type}(k:Nat)(f:α->List Value):iC Sl (List α):=⟨fun h q s l=>Seq h q s k f l/\(l=[]->s.ptr=none),fun a c=>⟨a.1.ai c,a.2⟩,fun a b=>⟨a.1.mono b,a.2⟩⟩
def cm{α β:Type}(E:iC α β)(k:Nat)(f:α->List Value):iC Sl (List β):=
 ⟨fun h q s ll=>∃rs:List α,Seq h q s k f rs/\rs.length=ll.length/\∀(i:Nat) r l,rs[i]?=some r->ll[i]?=some l->E.p h q r l,
  fun⟨rs,a,b,c⟩ hp=>⟨rs,a.ai hp,b,fun i r l d e=>E.loc (c i r l d e) hp⟩,fun⟨rs,a,b,c⟩ hq=>⟨rs,a.mono hq,b,fun i r l d e=>E.mono (c i r l d e) hq⟩⟩
def afg{α β:Type}(E:iC α β)(P:α->β->Prop):iC α β:=⟨fun h q a b=>E.p h q a b/\P a b,fun a d=>⟨E.loc a.1 d,a.2⟩,fun a c=>⟨E.mono a.1 c,a.2⟩⟩
def EA{α β:Type}(E:iC α β)(a:α)(b:β):HP:=⟨fun h q=>E.p h q a b,fun x d=>E.loc x d,fun x c=>E.mono x c⟩
abbrev fA{α β:Type}(E:iC α β)(h:Heap)(a:α)(b:β):Prop:=E.p h (fun b=>b<h.size) a b
def dv{α β:Type}(e:TypeId)(s:Sl)(k:Nat)(f:α->List Value)(E:iC α β)(m:List β):HP:=
 ⟨fun h q=>∃(rs:List α) (j:aA),Own h e s k f rs/\(∀b,s.on b->q b/\¬j b)/\(∀b,j b->q b)/\rs.length=m.length/\∀(i:Nat) r l,rs[i]?=some r->m[i]?=some l->E.p h j r l,
  fun⟨rs,j,a,b,c,d,e⟩ hp=>⟨rs,j,a.ai hp fun x g=>(b x g).1,b,c,d,fun i r l o n=>E.loc (e i r l o n) (hp.mono fun x _ g=>c x g)⟩,
  fun⟨rs,j,a,b,c,d,e⟩ hq=>⟨rs,j,a,fun x g=>⟨hq x (b x g).1,(b x g).2⟩,fun x g=>hq x (c x g),d,e⟩⟩
section
variable {α β:Type} {E:iC α β} {k:Nat} {f:α->List Value} {h h':Heap} {q:aA} {s:Sl} {ll:List β} {a:α} {b:β}
theorem fA.up(x:fA E h a b)(c:aU (fun b=>b<h.size) h h'):fA E h' a b:=E.mono (E.loc x c) fun _ d=>qV d c.1
theorem cm.oW(x:(cm E k f).p h q s ll):∃rs:List α,Seq h q s k f rs/\rs.length=ll.length/\∀(i:Nat) (d:i<rs.length) (e:i<ll.length),E.p h q rs[i] ll[i]:=by
 obtain⟨rs,a,b,c⟩:=x;exact⟨rs,a,b,fun i d e=>c i _ _ (qd d) (qd e)⟩
theorem cm.len(x:(cm E k f).p h q s ll):s.len=ll.length:=by obtain⟨rs,a,b,c⟩:=x;rw[a.len,b]
theorem cm.nil(h:Heap)(q:aA)(a:Option Addr)(c:Nat):(cm E k f).p h q ⟨a,0,c⟩ []:=⟨[],Seq.nil h q c a k f,rfl,fun i r l b=>by simp at b⟩
theorem cm.take(x:(cm E k f).p h q s ll)(n:Nat)(j:n<=ll.length):(cm E k f).p h q ⟨s.ptr,n,s.cap⟩ (ll.take n):=by
 obtain⟨rs,a,b,c⟩:=x;refine⟨rs.take n,a.take n (by omega),by simp[b],fun i r l d e=>?_⟩;rw[vb]at d e;split at d
 ·rename_i g;rw[if_pos g]at e;exact c i r l d e
 ·cases d
theorem cm.get{X:Type}{g:X->Value}(x:(cm E 1 f).p h q s ll){i:Int}(n:Nat)(e:i=n)(b:n<ll.length)(u:α->X)(d:∀r,f r=[g (u r)]){K:X->Prop}(j:∀r,E.p h q r ll[n]->K (u r)):
  ∃a:Addr,(s.ptr=some a/\0<=i/\i<((s.len:Nat):Int))/\∃x:X,cellOf h (a.add (i.toNat*1))=some (g x)/\K x:=by
 obtain⟨rs,c,k,h3⟩:=cm.oW x;exact c.bv n e (by omega) (u (rs[n]'(by omega))) (d _) (j _ (h3 n (by omega) b))
theorem cm.oV{E:iC Sl β}(x:(cm E 1 bI).p h q s ll){i:Int}(n:Nat)(c:i=n)(b:n<ll.length){K:Sl->Prop}(d:∀r,E.p h q r ll[n]->K r):
  ∃a:Addr,(s.ptr=some a/\0<=i/\i<((s.len:Nat):Int))/\∃x:Sl,cellOf h (a.add (i.toNat*1))=some (.slice x.ptr x.len x.cap)/\K x:=
 cm.get (g:=fun r:Sl=>Value.slice r.ptr r.len r.cap) x n c b id (fun _=>rfl) d
theorem cm.togg{γ:Type}{d:Nat}{g:γ->List Value}{l:List (List γ)}(x:fA (cm (gh d g) 1 bI) h s l):gg h s d g l:=by
 obtain⟨rs,a,b,c⟩:=x;exact⟨rs,a,b,c⟩
theorem cm.impl{α':Type}{e:Type}{E':iC α e}(u:β->e)(g:∀{h q a b},E.p h q a b->E'.p h q a (u b))(x:(cm E k f).p h q s ll):(cm E' k f).p h q s (ll.map u):=by
 obtain⟨rs,a,b,c⟩:=x;refine⟨rs,a,by simp[b],fun i r l j d=>?_⟩;rw[qN]at d;cases h3:ll[i]? with
 |none=>rw[h3]at d;cases d
 |some y=>rw[h3]at d;simp at d;subst d;exact g (c i r y j h3)
end
section
variable {α β:Type} {E:iC α β} {C:Ctx} {k e t:Nat} {f:α->List Value} {B:aA} {h0 h h':Heap} {As:List HP} {s:Sl} {ll:List β} {z:List Value} {by_:Nat}
theorem aa.Rr(H:aa B h0 h As)(e k:Nat)(f:α->List Value)(E:iC α β):aa B h0 h (As++[dv e ⟨none,0,0⟩ k f E []]):=
 H.comp (.one (aU.refl _ _) ⟨[],fun _=>False,Own.nil h e k f,fun b a=>(by obtain⟨o,a⟩:=a;cases a),fun _ a=>a.elim,rfl,fun i r l h=>by simp at h⟩)
theorem aa.eRd(H:aa B h0 h As)(i:Nat)(o:As[i]?=some (dv e s k f E ll))(j:∀x,(f x).length=k):fA (cm E k f) h s ll:=by
 obtain⟨rs,p,a,b,c,d,e⟩:=H.at i o;exact⟨rs,a.seq j fun x g=>(b x g).1,d,fun i r l m n=>E.mono (e i r l m n) c⟩
theorem aa.eAt{a:α}{b:β}(H:aa B h0 h As)(i:Nat)(c:As[i]?=some (EA E a b)):fA E h a b:=H.at i c
theorem aa.afh(H:aa B h0 h As)(i:Nat)(g:As[i]?=some (dv e s k f E ll)):s.len=ll.length/\s.len<=s.cap:=by
 obtain⟨rs,j,a,b,c,d,e⟩:=H.at i g;exact⟨by rw[a.len,d],a.cap⟩
theorem aa.HR(hC:C.Ok)(H:aa B h0 h As)(i j:Nat)(G:i≠j){a:α}{b:β}(Y:As[i]?=some (dv e s k f E ll))(hj:As[j]?=some (EA E a b))(he:bN C.toBR t e k z by_)(hz:z.length=k)(V:0<by_/\by_<=128)(hw:∀x,(f x).length=k)
  (S:∀x,∀c∈f x,c.oneCell'=true) {parts:Array (Nat×Value)} (J:wh (fun i=>some (i*k,k)) (ij z 1).toArray parts.toList=some ([a].flatMap f).toArray) (U:1*k<=2^20)
  (ab:ll.length+1<=2^32) {ty:Nat} {K:Sl->Heap->Prop} (hk:∀T h',aa B h0 h' ((As.set j emp).set i (dv e T k f E (ll++[b])))->K T h'):
  aw C.P (qt t 1 parts) (.one (.sc .slc)) h fun v y=>aw C.P (qq #[t,t] ty #[.slice s.ptr s.len s.cap,.slice v.ptr v.len v.cap]) (.one (.sc .slc)) y K:=by
 have H2:=H.merge i j G Y hj (D:=⟨fun h q=>∃(rs:List α) (g:aA),Own h e s k f rs/\(∀b,s.on b->q b/\¬g b)/\(∀b,g b->q b)/\rs.length=ll.length/\(∀(i:Nat) r l,rs[i]?=some r->ll[i]?=some l->E.p h g r l)/\E.p h g a b,
  fun⟨rs,g,a,b,c,d,e,f⟩ hp=>⟨rs,g,a.ai hp fun x n=>(b x n).1,b,c,d,fun i r l y I=>E.loc (e i r l y I) (hp.mono fun x _ n=>c x n),E.loc f (hp.mono fun x _ n=>c x n)⟩,
  fun⟨rs,g,a,b,c,d,e,f⟩ hq=>⟨rs,g,a,fun x n=>⟨hq x (b x n).1,(b x n).2⟩,fun x n=>hq x (c x n),d,e,f⟩⟩)
  (fun g q2 hd hA hB=>by
   obtain⟨rs,q3,a,b,c,d,e'⟩:=hA;refine⟨rs,fun b=>q3 b∨q2 b,a,fun x n=>⟨.inl (b x n).1,fun O=>O.elim (b x n).2 (hd x (b x n).1)⟩,fun x n=>n.elim (fun h=>.inl (c x h)) .inr,d,fun i r l y I=>E.mono (e' i r l y I) fun _ h=>.inl h,E.mono hB fun _ h=>.inr h⟩)
 have w:i<As.length:=(qm.1 Y).1;obtain⟨lo,pp,c,zz,ax⟩:=H2;have ha:=ax i _ (by rw[z6 (Ne.symm G),zy w]);obtain⟨rs,g,a1,a2,a3,a4,a5,a6⟩:=ha;let Z:Nat->Nat:=fun b=> @ite _ (g b) (Classical.propDecidable _) (As.length+2) (c b);have M:∀b,g b->b<h.size/\c b=i+1:=a3;have ho:dl h Z (i+1) e s k f rs:=⟨a1,fun b m=>by
  have:=a2 b m;show @ite _ (g b) (Classical.propDecidable _) _ _=_;rw[if_neg this.2];exact this.1.2⟩
 refine ho.push hC he hz V hw S a J U (by omega) fun T h' F L=>hk T h' ?_;rw[y7 _ _ (Ne.symm G)];rw[<-yY (l:=As) (i:=i),y7 _ _ G];have N:∀b,g b->Z b≠i+1:=fun b m=>by
  show @ite _ (g b) (Classical.propDecidable _) _ _≠_;rw[if_pos m];omega
 refine aa.Dj lo pp zz ax (L.mono fun b m hn hc=>hn ⟨m,?_⟩) ⟨rs++[a],fun b=>g b/\b<h.size,F.own,fun b m=>?_,fun b m=>⟨qV m.2 L.1,.inl ⟨m.2,(M b m.1).2⟩⟩,by simp[a4],fun X r' l' y I=>?_⟩
 ·by_cases A:g b
  ·exact(M b A).2
  ·have o: @ite _ (g b) (Classical.propDecidable _) (As.length+2) (c b)=i+1:=hc;rw[if_neg A]at o;exact o
 ·have u:=F.bp b m;by_cases w:b<h.size
  ·rw[fQ w]at u;have R:¬g b:=fun A=>N b A u;have o: @ite _ (g b) (Classical.propDecidable _) (As.length+2) (c b)=i+1:=u;rw[if_neg R]at o;exact⟨⟨F.own.lt m,.inl ⟨w,o⟩⟩,fun O=>R O.1⟩
  ·exact⟨⟨F.own.lt m,.inr (by omega)⟩,fun O=>w O.2⟩
 ·have Q:∀{rr:α} {l:β},E.p h g rr l->E.p h' (fun b=>g b/\b<h.size) rr l:=fun hs=>
   E.loc (E.mono hs (q':=fun b=>g b/\b<h.size) fun b m=>⟨m,(M b m).1⟩) (L.mono fun b _ m=>N b m.1)
  by_cases W:X<rs.length
  ·rw[qn W]at y;rw[qn (by omega)]at I;exact Q (a5 X r' l' y I)
  ·have:X=rs.length:=by
    have:=(qm.1 y).1;simp at this;omega
   subst this;simp at y;rw[a4]at I;simp at I;subst y;subst I;exact Q a6
theorem aa.agE{R:TI}(hC:C.Ok)(H:aa B h0 h As)(i j:Nat)(y:i≠j){a:α}{b:β}(N:As[i]?=some (dv e s k f E ll))(hj:As[j]?=some (EA E a b))(hw:∀x,(f x).length=k)(Z:C.T.get t=some R){x:Int}(n:Nat)(g:x=n)(hn:n<ll.length){I:Value}(Y:I.cells=(f a).toArray)(L:R.size=k)
  (J:(f a).all (·.oneCell')=true) {K:Heap->Prop} (hk:∀h',aa B h0 h' ((As.set j emp).set i (dv e s k f E (ll.set n b)))->K h'):
  ∃a:Addr,(s.ptr=some a/\0<=x/\x<((s.len:Nat):Int))/\ag C.P (qf t (.pointer (some (a.add (x.toNat*k)))) I) h fun _ h'=>K h':=by
 have V:=H.merge i j y N hj (D:=⟨fun h q=>∃(rs:List α) (m:aA),Own h e s k f rs/\(∀b,s.on b->q b/\¬m b)/\(∀b,m b->q b)/\rs.length=ll.length/\(∀(i:Nat) r l,rs[i]?=some r->ll[i]?=some l->E.p h m r l)/\E.p h m a b,
  fun⟨rs,m,a,b,c,d,e,f⟩ hp=>⟨rs,m,a.ai hp fun x g=>(b x g).1,b,c,d,fun i r l o u=>E.loc (e i r l o u) (hp.mono fun x _ g=>c x g),E.loc f (hp.mono fun x _ g=>c x g)⟩,
  fun⟨rs,m,a,b,c,d,e,f⟩ hq=>⟨rs,m,a,fun x g=>⟨hq x (b x g).1,(b x g).2⟩,fun x g=>hq x (c x g),d,e,f⟩⟩)
  (fun m q2 U hA hB=>by
   obtain⟨rs,q3,a,b,c,d,e'⟩:=hA;refine⟨rs,fun b=>q3 b∨q2 b,a,fun x g=>⟨.inl (b x g).1,fun hh=>hh.elim (b x g).2 (U x (b x g).1)⟩,fun x g=>g.elim (fun h=>.inl (c x h)) .inr,d,fun i r l o u=>E.mono (e' i r l o u) fun _ h=>.inl h,E.mono hB fun _ h=>.inr h⟩)
 have M:i<As.length:=(qm.1 N).1;obtain⟨lo,pp,c,W,ax⟩:=V;have ha:=ax i _ (by rw[z6 (Ne.symm y),zy M]);obtain⟨rs,m,a1,G,a3,a4,a5,a6⟩:=ha;refine a1.set hC hw Z n g (by omega) a Y L J fun h' z w _=>hk h' ?_;rw[y7 _ _ (Ne.symm y)];rw[<-yY (l:=As) (i:=i),y7 _ _ y];have keep:∀{Q:α} {l:β},E.p h m Q l->E.p h' m Q l:=fun S=>E.loc S (w.mono fun b _ v A=>(G b A).2 v);refine aa.Dj lo pp W ax (w.mono fun b _ v A=>v (G b A).1) ⟨rs.set n a,m,z,fun b v=>⟨⟨qV (G b v).1.1 w.1,.inl (G b v).1⟩,(G b v).2⟩,fun b v=>⟨qV (a3 b v).1 w.1,.inl (a3 b v)⟩,by simp[a4],fun X r' O o u=>?_⟩;rw[qZ]at o u;split at o
 ·rename_i F;rw[if_pos F]at u;split at o
  ·injection o with o;subst o
   have e:O=b:=by
    rw[if_pos (by omega)]at u;exact(zJ.inj u).symm
   subst e;exact keep a6
  ·cases o
 ·rename_i F;rw[if_neg F]at u;exact keep (a5 X r' O o u)
end
section
variable {α β:Type} {E:iC α β} {k e:Nat} {f:α->List Value} {B:aA} {h0 h:Heap} {As:List HP} {s:Sl}
theorem aa.Xa{α:Type}{f:α->List Value}{l:List α}(H:aa B h0 h As)(i:Nat)(c:As[i]?=some (an e s k f l))(b:∀x,(f x).length=k):aa B h0 h (As.set i (EA (gh k f) s l)):=H.gf i c fun _ a=>a.1.seq b a.2
end
section
variable {α:Type} {B:aA} {h0 h:Heap} {As:List HP} {e e2 k:Nat} {s:Sl} {f:α->List Value} {rs:List Sl} {ll:List (List α)}
theorem aa.Xb{s:Sl}{a:List (List α)}(H:aa B h0 h As)(i:Nat)(c:As[i]?=some (fI e s k f a)):aa B h0 h (As.set i (dv e s 1 bI (gh k f) a)):=H.gf i c fun _ b=>b
end
theorem OD{h h':Heap}{p:aA}(a:aU p h h'):∀{L:aq},L.ok h->(∀x∈L,p x.1.block)->L.ok h'
 |[],_,_=>trivial
 |x::L,hk,hq=>⟨a.cell (hq x (by simp)) hk.1,OD a hk.2 fun y b=>hq y (by simp[b])⟩
theorem jE{h h':Heap}(d:aU (fun b=>b<h.size) h h'){L:aq}(c:L.ok h):L.ok h':=OD d c (by
 clear d
 induction L with
 |nil=>intro x a;cases a
 |cons y L ih=>
  intro x a;rcases zc.1 a with rfl|a
  ·exact cS c.1
  ·exact ih c.2 x a)
theorem aw.both{P:Program}{s:Sem Value}{h:Heap}{K:Sl->Heap->Prop}{Q:Heap->Prop}(g:aw P s (.one (.sc .slc)) h fun _ h'=>Q h')(e:aw P s (.one (.sc .slc)) h K):aw P s (.one (.sc .slc)) h fun x h'=>Q h'/\K x h':=by
 intro w c;obtain⟨m,o,a,f,j,a3,a4⟩:=g w c;obtain⟨n,l,b,k,x2,d,i⟩:=e w c;rw[a]at b;cases b;exact⟨_,_,a,f,x2,d,a4,i⟩
theorem aa.rp{α:Type}{B:aA}{C:Ctx}{g h:Heap}{As:List HP}{e t k b:Nat}{z:List Value}{K:Sl->Heap->Prop}(q:C.Ok)(H:aa B g h As)(f:α->List Value)(o:bN C.toBR t e k z b)(c:z.length=k){n:Nat}{parts:Array (Nat×Value)}(l:List α)(r:l.length=n)(d:n*k<=2^20)
  (a:wh (fun i=>some (i*k,k)) (ij z n).toArray parts.toList=some (l.flatMap f).toArray) {L:aq} (j:L.ok h) (p:aw C.P (qt t n parts) (.one (.sc .slc)) h K):
  aw C.P (qt t n parts) (.one (.sc .slc)) h fun x h'=>L.ok h'/\K x h':=
 aw.both ((Sp.refl h).lit q f o c l r d a fun _ _ m=>jE m.ai j) p
section
variable {B:aA} {h0 h h':Heap} {As Bs:List HP} {A D E:HP} {i j:Nat}
theorem aa.front(H:aa B h0 h (As++Bs)):aa B h0 h (Bs++As):=
 H.pick (fun j=>if j<Bs.length then As.length+j else if j<Bs.length+As.length then j-Bs.length else j)
  (fun a b c=>by(try dsimp only at c);split at c<;>split at c<;>(try split at c)<;>(try split at c)<;>omega) fun j X d=>by
  try dsimp only
  split
  ·rename_i e;rw[qn e]at d;rw[qj (by omega),zk];exact d
  ·rename_i e;rw[qj (by omega)]at d;have:=(qm.1 d).1;rw[if_pos (by omega),qn this];exact d
theorem aa.bL(H:aa B h0 h (As++[A])):aa B h0 h (A::As):=H.front
theorem aa.cY(H:aa B h0 h As)(R:Sp h h' [A]):aa B h0 h' (A::As):=(H.comp R).bL
theorem aa.KC(H:aa B h0 h (A::As)):aa B h0 h As:=H.rest
theorem aa.HS(H:aa B h0 h (A::D::As)):aa B h0 h (A::As):=H.del 1
theorem aa.HT{ι:Type}{F:ι->HP}(H:aa B h0 h (HP.ex F::As)):∃x,aa B h0 h (F x::As):=H.WZ 0 rfl
theorem aa.KD{ι:Type}{F:ι->HP}(x:ι)(H:aa B h0 h (F x::As)):aa B h0 h (HP.ex F::As):=H.close' 0 x rfl
theorem aa.KE(H:aa B h0 h (A.sep D::As)):aa B h0 h (D::A::As):=(H.split 0 rfl).bL
theorem aa.oX(H:aa B h0 h (D::A::As)):aa B h0 h (A.sep D::As):=by
 have a:aa B h0 h (emp::A.sep D::As):=H.join 1 0 (by decide) rfl rfl;exact a.rest
theorem aa.uV(H:aa B h0 h (A::D::As)):aa B h0 h (D::A::As):=H.adA 0 1 rfl rfl
end
theorem Seq.nX{h:Heap}{p:aA}{s:Sl}{rs:List Sl}(b:Seq h p s 1 bI rs){i:Int}(n:Nat)(d:i=n)(c:n<rs.length){K:Sl->Prop}(e:K rs[n]):
  ∃a:Addr,(s.ptr=some a/\0<=i/\i<((s.len:Nat):Int))/\∃x:Sl,cellOf h (a.add (i.toNat*1))=some (.slice x.ptr x.len x.cap)/\K x:=
 b.bv (g:=fun r:Sl=>Value.slice r.ptr r.len r.cap) n d c rs[n] rfl e
def St(B:aA)(a:Heap)(As:List HP)(Q:Heap->Prop):Prop:=∀(Bs:List HP) (h':Heap),aa B a h' (Bs++As)->Q h'
section
variable {B:aA} {h0 h h':Heap} {As Bs:List HP} {A:HP} {Q:Heap->Prop}
theorem St.at(x:St B h0 As Q)(Bs:List HP)(H:aa B h0 h (Bs++As)):Q h:=x Bs h H
theorem St.gK(j:Nat)(c:As[j]?=some A)(a:∀h',A.p h' (fun b=>b<h'.size)->Q h'):St B h0 As Q:=fun Bs h' H=>a _ (H.at (Bs.length+j) (by rw[qj (by omega),zk];exact c))
theorem St.cons(x:St B h0 As Q):St B h0 (A::As) Q:=fun Bs h' H=>x (Bs++[A]) h' (by rw[qo];exact H)
end
section
variable {β:Type} {E:iC Sl β} {h:Heap} {q:aA} {s:Sl} {ll:List β}
end
theorem FK{α:Type}{l:List α}(f:l.Nodup){a b:Nat}(e:a<l.length)(d:b<l.length)(h:l[a]=l[b]):a=b:=by
 have c:=zq.1 f;rcases yd a b with hlt|he|hgt
 ·exact absurd h (c a b e d hlt)
 ·exact he
 ·exact absurd h.symm (c b a d e hgt)
theorem aa.bV{B:aA}{k h:Heap}{As:List HP}(H:aa B k h As)(L:List Nat)(g:∀j∈L,j<As.length:=by simp)(m:L.Nodup:=by decide):aa B k h (L.map fun j=>As.getD j emp):=by
 refine H.pick (fun i=>if h:i<L.length then L[i]else As.length+i) (fun a b c=>?_) fun i A2 e=>?_
 ·try dsimp only at c
  split at c<;>split at c
  ·exact FK m _ _ c
  ·have:=g _ (qg (l:=L) (n:=a) (by assumption));omega
  ·have:=g _ (qg (l:=L) (n:=b) (by assumption));omega
  ·omega
 ·try dsimp only
  rw[qN]at e;split
  ·rename_i d;rw[qd d]at e;have f:=g _ (qg d);simp only[qO,zJ.injEq]at e;rw[<-e,qe,qd f];rfl
  ·rename_i d;rw[ze (by omega)]at e;simp at e
theorem St.mk'{B:aA}{a:Heap}{As:List HP}{Q:Heap->Prop}(x:∀h',aa B a h' As->Q h'):St B a As Q:=fun Bs h' H=>x h' (H.take Bs.length fun i A b=>by
 rw[qj (by omega),zk];exact b)
theorem aa.bo{B:aA}{g h:Heap}{As:List HP}(H:aa B g h As)(k:Nat)(L:List Nat)(p:k<=As.length:=by simp)(f:∀j∈L,j<k:=by simp)(o:L.Nodup:=by decide):aa B g h (L.map (fun j=>As.getD j emp)++As.drop k):=by
 refine H.pick (fun i=>if h:i<L.length then L[i]else k+(i-L.length)) (fun a b d=>?_) fun i A2 e=>?_
 ·try dsimp only at d
  split at d<;>split at d
  ·exact FK o _ _ d
  ·have:=f _ (qg (l:=L) (n:=a) (by assumption));omega
  ·have:=f _ (qg (l:=L) (n:=b) (by assumption));omega
  ·omega
 ·try dsimp only
  by_cases c:i<L.length
  ·rw[dif_pos c];rw[qn (by simpa using c),qN,qd c]at e;have m:=f _ (qg c);simp only[qO,zJ.injEq]at e;rw[<-e,qe,qd (by omega)];rfl
  ·rw[dif_neg c];rw[qj (by simpa using c),qw,wq]at e;exact e
section
variable {α β:Type} {E:iC α β} {C:Ctx} {k e t by_:Nat} {f:α->List Value} {B:aA} {h0 h h':Heap} {As:List HP} {q:aA} {s:Sl} {rs:List α} {ll:List β} {ti:TI} {z:List Value}
def Fix(E:iC α β)(k:Nat)(f:α->List Value)(h:Heap)(q:aA)(s:Sl)(rs:List α)(a:List β):Prop:=Seq h q s k f rs/\rs.length=a.length/\∀(i:Nat) r l,rs[i]?=some r->a[i]?=some l->E.p h q r l
theorem Fix.ai(x:Fix E k f h q s rs ll)(a:aU q h h'):Fix E k f h' q s rs ll:=⟨x.1.ai a,x.2.1,fun i r l b c=>E.loc (x.2.2 i r l b c) a⟩
theorem Fix.mono{q':aA}(x:Fix E k f h q s rs ll)(a:∀b,q b->q' b):Fix E k f h q' s rs ll:=⟨x.1.mono a,x.2.1,fun i r l c d=>E.mono (x.2.2 i r l c d) a⟩
abbrev nE(E:iC α β)(k:Nat)(f:α->List Value)(h:Heap)(s:Sl)(rs:List α)(a:List β):Prop:=Fix E k f h (fun b=>b<h.size) s rs a
theorem nE.up(x:nE E k f h s rs ll)(a:aU (fun b=>b<h.size) h h'):nE E k f h' s rs ll:=(Fix.ai x a).mono fun _ c=>qV c a.1
theorem Fix.row(x:Fix E k f h q s rs ll){i:Nat}(a:i<ll.length):E.p h q (rs[i]'(by rw[x.2.1];exact a)) ll[i]:=x.2.2 i _ _ (qd _) (qd _)
theorem cm.fix(x:(cm E k f).p h q s ll):∃rs,Fix E k f h q s rs ll:=x
theorem Fix.elt(x:Fix E k f h q s rs ll):(cm E k f).p h q s ll:=⟨rs,x⟩
def cH(E:iC α β)(k:Nat)(f:α->List Value)(s:Sl)(rs:List α)(c:List β):HP:=⟨fun h q=>Fix E k f h q s rs c,fun x b=>x.ai b,fun x a=>x.mono a⟩
theorem aa.Nb(H:aa B h0 h As)(i:Nat)(m:As[i]?=some (dv e s k f E ll))(u:∀x,(f x).length=k):∃rs,aa B h0 h (As.set i (cH E k f s rs ll)):=by
 have g:i<As.length:=(qm.1 m).1;have n:aa B h0 h (As.set i (HP.ex fun rs=>cH E k f s rs ll)):=H.gf i m fun q ⟨rs,v,a,b,c,d,e⟩=>⟨rs,a.seq u fun x p=>(b x p).1,d,fun i r l t o=>E.mono (e i r l t o) c⟩
 obtain⟨rs,j⟩:=n.WZ i (zy g);exact⟨rs,by rw[yY]at j;exact j⟩
theorem aa.eJ(H:aa B h0 h As)(i:Nat)(a:As[i]?=some (cH E k f s rs ll)):nE E k f h s rs ll:=H.at i a
theorem aa.FL(d:C.Ok)(H:aa B h0 h As)(f:C.T.get t=some ti){K:Addr->Heap->Prop}(e:∀a h',aU (fun b=>b<h.size) h h'->aa B h0 h' (As++[au a t ti.zero])->K a h'):
  aO C.P (qJ t true (.tuple #[])) h K:=
 Ai d f fun a h' x y c _=>e a h' (c.mono fun _ _ _=>trivial) (H.comp (MZ x y c))
theorem aa.KF(A:C.Ok)(H:aa B h0 h As)(f:α->List Value)(r:bN C.toBR t e k z by_)(i:0<by_/\by_<=128)(d:α)(q:f d=z)(j:z.length=k){s u:IntKind}{n o:Int}(m c:Nat)(D:n=m)(E:o=c)(g:m<=c)(l:c<=2^32)
  {K:Sl->Heap->Prop} (v:∀a h',a.len=m->aU (fun b=>b<h.size) h h'->aa B h0 h' (As++[an e a k f (qh m d)])->K a h'):
  aw C.P (qB t (.int s n) (.int u o)) (.one (.sc .slc)) h K:=
 run_make A r i d q j m c D E g l fun a h' x y w p _=>v a h' (by rw[x.len];simp) (p.mono fun _ _ _=>trivial) (H.comp (MY rfl x y p))
end
section
variable {α:Type} {C:Ctx} {B:aA} {h0 h:Heap} {As:List HP} {e t k:Nat} {s:Sl} {f:α->List Value} {l:List α} {i:TI}
theorem Own.abK(G:C.Ok)(v:Own h e s k f l)(A:∀x,(f x).length=k)(D:C.T.get t=some i){x:Int}(n:Nat)(H:x=n)(u:n<l.length)(j:Nat)(vs:List Value)(M:j+vs.length<=k){p:Value}(y:α)(L:p.cells=vs.toArray)(r:i.size=vs.length)
  (q:vs.all (·.oneCell')=true) (E:f y=(f l[n]).take j++vs++(f l[n]).drop (j+vs.length)) {K:Heap->Prop} (F:∀h',Own h' e s k f (l.set n y)->aU (fun b=>¬s.on b) h h'->K h'):
  ∃a:Addr,(s.ptr=some a/\0<=x/\x<((s.len:Nat):Int))/\ag C.P (qf t (.pointer (some ((a.add (x.toNat*k)).add j))) p) h fun _ h'=>K h':=by
 subst H;rcases v.head with⟨_,_,h3⟩|⟨b,rest,h1,h2,h3,h4⟩
 ·subst h3;simp at u
 ·refine⟨_,⟨h1,by omega,by rw[v.len];omega⟩,?_⟩;unfold qf;refine ag.bind (ag.pure' ?_);unfold storeVar;refine ag.bind (ag.always (dC G.toOk D) ?_);rw[L,r];simp only[wW,ne_eq,not_true,if_false];rw[add_eq,add_eq,wk,qp];have g:l=l.take n++l[n]::l.drop (n+1):=by rw[<-qT u,qD]
  have m:l.set n y=l.take n++y::l.drop (n+1):=yy.trans (if_pos u);have o:((l.take n).flatMap f).length=n*k:=by rw[cX A,qX,wJ (by omega)]
  have B:=A l[n];have d:f l[n]=(f l[n]).take j++((f l[n]).drop j).take vs.length++(f l[n]).drop (j+vs.length):=by
   rw[qo,<-zx,qD,qD]
  refine eN (e:=e) (pre:=(l.take n).flatMap f++(f l[n]).take j) (old:=((f l[n]).drop j).take vs.length) (post:=(f l[n]).drop (j+vs.length)++((l.drop (n+1)).flatMap f++rest)) ?_ ?_ ?_ ?_ ?_
  ·have:l.flatMap f++rest=(l.take n).flatMap f++(f l[n]).take j++((f l[n]).drop j).take vs.length++((f l[n]).drop (j+vs.length)++((l.drop (n+1)).flatMap f++rest)):=by
    have w:=congrArg (List.flatMap f) g;rw[zb,zr]at w;rw[w];generalize f l[n]=z at d;rw[qo]at d;simp only[qo];congr 1
    conv=>lhs;rw[d]
    simp only[qo]
   rw[<-this];exact h2
  ·simp;omega
  ·rw[qu,o,qX];omega
  ·intro c I;exact qM.1 q c I
  ·refine F _ ⟨by rw[zE];exact v.len,.inr ⟨b,rest,h1,?_,h3,h4⟩⟩ (aU.je h2 (fun J=>J ⟨0,h1⟩));rw[gV h2,if_pos rfl,m,zb,zr,E];simp[qo]
theorem aa.abK(v:C.Ok)(H:aa B h0 h As)(g:Nat)(b:As[g]?=some (an e s k f l))(E:∀x,(f x).length=k)(o:C.T.get t=some i){x:Int}(n:Nat)(A:x=n)(D:n<l.length)(j:Nat)(vs:List Value)(u:j+vs.length<=k){c:Value}(y:α)(q:c.cells=vs.toArray)(m:i.size=vs.length)
  (d:vs.all (·.oneCell')=true) (p:f y=(f l[n]).take j++vs++(f l[n]).drop (j+vs.length)) {K:Heap->Prop} (r:∀h',aa B h0 h' (As.set g (an e s k f (l.set n y)))->K h'):
  ∃a:Addr,(s.ptr=some a/\0<=x/\x<((s.len:Nat):Int))/\ag C.P (qf t (.pointer (some ((a.add (x.toNat*k)).add j))) c) h fun _ h'=>K h':=
 (H.own g b).abK v E o n A D j vs u y q m d p fun h' z w=>r h' (H.oq g b w z)
end
def HP.all:List HP->HP
 |[]=>emp
 |A::L=>A.sep (HP.all L)
section
variable {B:aA} {h0 h h':Heap} {As L:List HP} {A D E:HP}
theorem aa.BV:∀{L:List HP} {As:List HP},aa B h0 h (HP.all L::As)->aa B h0 h (L++As)
 |[],_,H=>H.rest
 |A::L,As,H=>by
  have f:aa B h0 h (HP.all L::A::As):=H.KE;have g:=aa.BV f;exact g.pick (fun i=>if i=0 then L.length else if i<=L.length then i-1 else i) (fun a b c=>by(try dsimp only at c);split at c<;>split at c<;>(try split at c)<;>(try split at c)<;>omega) fun i X d=>by
   try dsimp only
   rw[zu]at d;cases i with
   |zero=>simp at d;subst d;rw[if_pos rfl,qj (ql _),zf];rfl
   |succ i=>
    rw[qz]at d;rw[if_neg (by omega)];by_cases e:i<L.length
    ·rw[qn e]at d;rw[if_pos (by omega),qn (by omega)];simpa using d
    ·rw[qj (by omega)]at d;rw[if_neg (by omega),qj (by omega)];rw[show i+1-L.length=(i-L.length)+1 by omega,qz];exact d
theorem aa.closeAll:∀(L:List HP) {As:List HP},aa B h0 h (L++As)->aa B h0 h (HP.all L::As)
 |[],As,H=>((H.comp (.one (A:=emp) (aU.refl _ _) trivial)).bL:aa B h0 h (emp::As))
 |A::L,As,H=>by
  have g:aa B h0 h (L++(A::As)):=H.pick (fun i=>if i<L.length then i+1 else if i=L.length then 0 else i) (fun a b c=>by(try dsimp only at c);split at c<;>split at c<;>(try split at c)<;>(try split at c)<;>omega) fun i X d=>by
   try dsimp only
   by_cases e:i<L.length
   ·rw[qn e]at d;rw[if_pos e,zu,qz,qn e];exact d
   ·rw[qj (by omega)]at d;by_cases f:i=L.length
    ·subst f;rw[zf]at d;rw[if_neg (by omega),if_pos rfl];simpa using d
    ·rw[if_neg e,if_neg f,zu];obtain⟨j,rfl⟩:∃j,i=L.length+(j+1):=⟨i-L.length-1,by omega⟩
     rw[zk,qz]at d;rw[show L.length+(j+1)=(L.length+j)+1 by omega,qz,qj (by omega),zk];exact d
  exact(aa.closeAll L g).oX
theorem aa.Jr{P:Prop}(H:aa B h0 h (A.and P::As)):aa B h0 h (A::As)/\P:=⟨H.adB 0 rfl,H.fact 0 rfl⟩
theorem aa.toJr{P:Prop}(H:aa B h0 h (A::As))(p:P):aa B h0 h (A.and P::As):=H.agn 0 rfl p
end
def lP{α:Type}(e:TypeId)(s:Sl)(b:TypeId)(k:Nat)(f:α->List Value)(a:List (List α)):HP:=
 HP.ex fun rs:List Sl=>(HP.all (an e s 1 bI rs::bP b k f rs a)).and (rs.length=a.length)
section
variable {α:Type} {C:Ctx} {B:aA} {h0 h h':Heap} {As:List HP} {e e2 k t by_:Nat} {s:Sl} {f:α->List Value} {ll:List (List α)}
theorem aa.KG(H:aa B h0 h (lP e s e2 k f ll::As)):∃rs:List Sl,rs.length=ll.length/\aa B h0 h ((an e s 1 bI rs::bP e2 k f rs ll)++As):=by
 obtain⟨rs,H⟩:=H.HT;obtain⟨H,a⟩:=H.Jr;exact⟨rs,a,H.BV⟩
theorem aa.Rs{rs:List Sl}(a:rs.length=ll.length)(H:aa B h0 h ((an e s 1 bI rs::bP e2 k f rs ll)++As)):aa B h0 h (lP e s e2 k f ll::As):=
 ((aa.closeAll _ H).toJr a).KD (F:=fun rs:List Sl=>(HP.all (an e s 1 bI rs::bP e2 k f rs ll)).and (rs.length=ll.length)) rs
theorem aa.FN(H:aa B h0 h As)(e a k:Nat)(f:α->List Value):aa B h0 h (lP e ⟨none,0,0⟩ a k f []::As):=
 aa.Rs (rs:=[]) rfl ((H.nil e 1 bI).bL)
theorem aa.Ru{Bs:List HP}(H:aa B h0 h (As++Bs)):aa B h0 h As:=H.pick id (fun _ _ h=>h) fun i A a=>by
 rw[id,qn (qm.1 a).1];exact a
theorem aa.OE(H:aa B h0 h (lP e s e2 k f ll::As))(b:∀x,(f x).length=k):gg h s k f ll:=by
 obtain⟨rs,a,H⟩:=H.KG;exact aa.Rq (aa.Ru H) a b
theorem aa.Dk(H:aa B h0 h (lP e s e2 k f ll::As)):s.len=ll.length/\s.len<=s.cap:=by
 obtain⟨rs,a,H⟩:=H.KG;exact⟨by rw[(H.own 0 rfl).len,a],(H.own 0 rfl).cap⟩
theorem aa.HU(j:C.Ok){r:Sl}{x:List α}(H:aa B h0 h (lP e s e2 k f ll::an e2 r k f x::As))(g:bN C.toBR t e 1 [.slice none 0 0] 24)(d:ll.length+1<=2^32){ty:Nat}{K:Sl->Heap->Prop}
  (i:∀a h',aa B h0 h' (lP e a e2 k f (ll++[x])::As)->K a h'):
  aw C.P (qt t 1 #[(0,.slice r.ptr r.len r.cap)]) (.one (.sc .slc)) h fun v m=>aw C.P (qq #[t,t] ty #[.slice s.ptr s.len s.cap,.slice v.ptr v.len v.cap]) (.one (.sc .slc)) m K:=by
 obtain⟨rs,c,H⟩:=H.KG;refine H.push j 0 rfl g rfl (by decide) (fun _=>rfl) me r rfl (by decide) (by omega) fun a h' b=>i a h' ?_;refine aa.Rs (rs:=rs++[r]) (by simp[c]) ?_;rw[uU c];have b:aa B h0 h' (an e a 1 bI (rs++[r])::(bP e2 k f rs ll++an e2 r k f x::As)):=b;have l:an e a 1 bI (rs++[r])::(bP e2 k f rs ll++[an e2 r k f x])++As=an e a 1 bI (rs++[r])::(bP e2 k f rs ll++an e2 r k f x::As):=by simp
 rw[l];exact b
end
end Go.Vc
namespace Gf
theorem abL{p:UInt8->Prop}(h:∀n,n<256->p (yo n))(a:UInt8):p a:=by
 have:=h a.toNat (wH a)
 rwa [yC]at this
def x2(a:UInt8):UInt8:=(a<<<1)^^^(if a&&&0x80=0 then 0 else 0x1b)
def x3(a:UInt8):UInt8:=x2 a^^^a
def pw:Nat->UInt8
 |0=>1
 |n+1=>x3 (pw n)
theorem aeb(a b c:UInt8):(a^^^b)&&&c=(a&&&c)^^^(b&&&c):=by
 apply UInt8.toBitVec_inj.1;simp[UInt8.toBitVec_xor,UInt8.toBitVec_and];ext i hi;simp[Bool.and_xor_distrib_right]
theorem aec(a b:UInt8):(a^^^b)<<<1=(a<<<1)^^^(b<<<1):=by
 apply UInt8.toBitVec_inj.1;simp[UInt8.toBitVec_xor,UInt8.toBitVec_shiftLeft,BitVec.shiftLeft_xor_distrib]
theorem Rv:∀a:UInt8,a&&&0x80=0∨a&&&0x80=0x80:=abL (by decide+kernel)
theorem abM(a b c d:UInt8):(a^^^b)^^^(c^^^d)=(a^^^c)^^^(b^^^d):=by ac_rfl
theorem afi(a b:UInt8):x2 (a^^^b)=x2 a^^^x2 b:=by
 unfold x2;rw[aeb,aec];rcases Rv a with ha|ha<;>rcases Rv b with hb|hb<;>rw[ha,hb]
 ·simp
 ·simp[UInt8.xor_assoc]
 ·rw[abM];simp
 ·rw[abM];simp
theorem afj(a b:UInt8):x3 (a^^^b)=x3 a^^^x3 b:=by unfold x3;rw[afi,abM]
def uW:Nat->UInt8->UInt8
 |0,a=>a
 |n+1,a=>x3 (uW n a)
theorem Wg(a b:UInt8):∀n,uW n (a^^^b)=uW n a^^^uW n b
 |0=>rfl
 |n+1=>by simp only[uW,Wg a b n,afj]
theorem Nc(a:UInt8)(m:Nat):∀n,uW (n+m) a=uW n (uW m a)
 |0=>by simp[uW]
 |n+1=>by rw[Nat.add_right_comm];simp only[uW,Nc a m n]
theorem Rw:∀n,uW n 0=0
 |0=>rfl
 |n+1=>by rw[uW,Rw n];rfl
theorem BW:∀n,pw n=uW n 1
 |0=>rfl
 |n+1=>by rw[pw,uW,BW n]
def agF:Nat:=939374623831894136699086600277250597547650664638770418422125146541797353646788332867483593573384618611044815625336497665827114626705134492515730415652478061620339993830966980270842846318821775850471098591710629241171812800746666233448222972174585295916389942636813666312872914849454985560152530477328703759683306625234997237483834721220409437442253146756845415190424543171129629468776480674528486868811725071010351012234056630775688111116293610821126543142160426617079940511630006820862697466582575257349116925728488930366609138264019883664906661504235885380294353134295748489096855100647154935187045898006656778240
def lg(a:UInt8):Nat:=(agF>>>(8*a.toNat))%256
theorem KH:∀a:UInt8,lg a<255:=abL (by decide+kernel)
theorem Xc:∀a:UInt8,a≠0->pw (lg a)=a:=abL (by decide+kernel)
theorem Xd:∀n,n<255->lg (pw n)=n:=by decide+kernel
theorem afk:pw 255=1:=by decide+kernel
theorem Xe:∀n,n<255->pw n≠0:=by decide+kernel
theorem Zf(n:Nat):pw (n+255)=pw n:=by
 rw[BW,Nc,<-BW 255,afk,<-BW]
theorem Zg(n:Nat):pw (n%255)=pw n:=by
 have:∀k m,pw (m+255*k)=pw m:=by
  intro k
  induction k with
  |zero=>intro m;rfl
  |succ k ih=>intro m;rw[Nat.mul_succ,<-yn,Zf,ih]
 have h:=this (n/255) (n%255);rw[Nat.mod_add_div]at h;exact h.symm
def mul(a b:UInt8):UInt8:=if a=0∨b=0 then 0 else pw ((lg a+lg b)%255)
def inv(a:UInt8):UInt8:=if a=0 then 0 else pw ((255-lg a)%255)
theorem mul_zero(a:UInt8):mul a 0=0:=by simp[mul]
theorem zero_mul(a:UInt8):mul 0 a=0:=by simp[mul]
theorem mul_comm(a b:UInt8):mul a b=mul b a:=by
 unfold mul;rw[Nat.add_comm];by_cases h:a=0∨b=0
 ·rw[if_pos h,if_pos h.symm]
 ·rw[if_neg h,if_neg fun x=>h x.symm]
theorem Rx(a b:UInt8)(d:a≠0):mul a b=uW (lg a) b:=by
 by_cases c:b=0
 ·subst c;rw[mul_zero,Rw]
 ·rw[mul,if_neg (by simp[d,c]),Zg,BW,Nc,<-BW,Xc b c]
theorem jz(a b c:UInt8):mul a (b^^^c)=mul a b^^^mul a c:=by
 by_cases d:a=0
 ·subst d;simp[zero_mul]
 ·rw[Rx _ _ d,Rx _ _ d,Rx _ _ d,Wg]
theorem Wh(a b c:UInt8):mul (a^^^b) c=mul a c^^^mul b c:=by rw[mul_comm,jz,mul_comm c a,mul_comm c b]
theorem Zh{a b:UInt8}(d:a≠0)(c:b≠0):mul a b≠0:=by
 rw[mul,if_neg (by simp[d,c])];exact Xe _ (yE _ (by decide))
theorem Zi{a b:UInt8}(d:a≠0)(c:b≠0):lg (mul a b)=(lg a+lg b)%255:=by
 rw[mul,if_neg (by simp[d,c]),Xd _ (yE _ (by decide))]
theorem mul_assoc(a b c:UInt8):mul (mul a b) c=mul a (mul b c):=by
 by_cases f:a=0
 ·subst f;simp[zero_mul]
 by_cases d:b=0
 ·subst d;simp[zero_mul,mul_zero]
 by_cases e:c=0
 ·subst e;simp[mul_zero]
 rw[mul,if_neg (by simp[Zh f d,e]),Zi f d,mul,if_neg (by simp[f,Zh d e]),Zi d e];congr 1;omega
theorem afl:lg 1=0:=by decide+kernel
theorem one_mul(a:UInt8):mul 1 a=a:=by
 by_cases b:a=0
 ·subst b;rfl
 ·rw[mul,if_neg (by simp[b]),afl,wk,Zg,Xc a b]
theorem mul_one(a:UInt8):mul a 1=a:=by rw[mul_comm,one_mul]
theorem afm{a:UInt8}(b:a≠0):inv a≠0:=by
 rw[inv,if_neg b];exact Xe _ (yE _ (by decide))
theorem Nd{a:UInt8}(b:a≠0):mul a (inv a)=1:=by
 have c:=KH a;rw[mul,if_neg (by simp[b,afm b]),inv,if_neg b,Xd _ (yE _ (by decide))];have:(lg a+(255-lg a)%255)%255=0:=by omega
 rw[this];rfl
end Gf
