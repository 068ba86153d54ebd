/- Lemmas for the proof of the law; no condition. -/
import Derived.Test.YtnjommcknbionaaGreatDoorVcA
set_option linter.unusedVariables false
set_option linter.unusedSimpArgs false
open Nat renaming add_assoc -> w5, add_sub_cancel_left -> zd, add_zero -> wH, le_of_not_lt -> vi, le_refl -> qt, le_trans -> zh, lt_of_lt_of_le -> qG, min_eq_left -> wu, mod_lt -> yE, mul_le_mul -> wE, mul_le_mul_right -> ze, sub_self -> q5, succ_mul -> zy, zero_add -> zU
open Array renaming ext' -> wY, ext_getElem? -> w7, getElem?_eq_some_iff -> yD, getElem?_modify -> wB, range -> vC
open List renaming all_eq_true -> qT, append_assoc -> qm, cons_append -> zk, drop_drop -> zo, drop_eq_getElem_cons -> qL, drop_of_length_le -> q9, eq_nil_of_length_eq_zero -> qM, flatMap_append -> q7, flatMap_cons -> zg, getD_eq_getElem?_getD -> qg, getElem?_append_left -> ql, getElem?_append_right -> qh, getElem?_cons_succ -> qw, getElem?_cons_zero -> wU, getElem?_drop -> wh, getElem?_eq_getElem -> qd, getElem?_eq_none -> qX, getElem?_eq_some_iff -> qk, getElem?_map -> qN, getElem?_set -> qW, getElem?_set_ne -> zG, getElem?_set_self -> zH, getElem?_take -> yv, getElem?_toArray -> zB, getElem?_zipWith -> wC, getElem_mem -> qn, length_append -> qp, length_drop -> qR, length_set -> qZ, length_take -> qO, map_cons -> zS, mem_flatMap -> zZ, mem_singleton -> qB, replicate -> qi, set_comm -> vE, set_eq_take_append_cons_drop -> zX, set_set -> vI, size_toArray -> z8, take_append_drop -> qy
open Go.Value renaming int -> vL
open Go.IntKind renaming i64 -> vR, u8 -> vS, wrap -> qc
open Go.Builtin renaming append_ -> qx, copy_ -> wq, firstCells -> wg, nextslicecap -> yF
open Go.Instr renaming alloc -> qJ, box -> qI, buildSlice -> qu, fill -> wc, findNow -> vl, makeSlice -> zA, storeAt -> qe
open Bool renaming true_and -> zK
open Int renaming toNat_natCast -> qo
open Option renaming map_some -> qK, some -> wL
set_option maxRecDepth 100000
namespace Go.Vc
open Go
section
variable {A B:Prop}
theorem aj{p:Prop}[Decidable p](a:p->A)(b:¬p->B):Br (decide p) A B:=by
 by_cases h:p
 ·rw[decide_eq_true h];exact a h
 ·rw[decide_eq_false h];exact b h
theorem bt{a b:Int}(d:a=b->A)(c:a≠b->B):Br (a==b) A B:=by
 by_cases h:a=b
 ·rw[beq_iff_eq.2 h];exact d h
 ·rw[beq_eq_false_iff_ne.2 h];exact c h
theorem cq{a b:Int}(d:a≠b->A)(c:a=b->B):Br (a !=b) A B:=by
 by_cases h:a=b
 ·rw[show(a !=b)=false by simp[h]];exact c h
 ·rw[show(a !=b)=true by simp[h]];exact d h
theorem bn{b:Bool}(a:b=true->A)(c:b=false->B):Br b A B:=by
 cases b
 ·exact c rfl
 ·exact a rfl
theorem bf{b:Bool}(a:b=false->A)(c:b=true->B):Br (!b) A B:=by
 cases b
 ·exact a rfl
 ·exact c rfl
theorem QW{b:Bool}(h:b=true)(a:A):Br b A B:=by subst h;exact a
theorem Ca{b:Bool}(h:b=false)(a:B):Br b A B:=by subst h;exact a
end
theorem aP{σ:Type}{rest:σ->Heap->Prop}{B:(σ->Heap->Prop)->Prop}(h:B rest):aV rest B:=⟨rest,fun _ _ x=>x,h⟩
theorem cg{σ:Type}{rest:σ->Heap->Prop}{B:(σ->Heap->Prop)->Prop}(R:σ->Heap->Prop)(b:B R)(a:∀s h,R s h->rest s h):aV rest B:=⟨R,a,b⟩
theorem aA{σ:Type}{B:σ->(σ->Heap->Prop)->Heap->Prop}{s:σ}{h:Heap}{τ:Type}(V:τ->σ)(I:τ->Heap->Prop)(μ:τ->Nat)(t0:τ)(e:s=V t0)(c:I t0 h)
  (b:∀t h,I t h->B (V t) (fun d h'=>∃a,d=V a/\I a h'/\μ a<μ t) h):aS B s h:=⟨τ,V,I,μ,t0,e,c,b⟩
abbrev ap:=Nat->Prop
def aH(p:ap)(h a:Heap):Prop:=h.size<=a.size/\∀b,b<h.size->p b->a[b]?=h[b]?
def Sl.on(s:Sl)(b:Nat):Prop:=∃o,s.ptr=some ⟨b,o,none⟩
section
variable {p q:ap} {h h' h'':Heap}
theorem aH.refl(p:ap)(h:Heap):aH p h h:=⟨qt _,fun _ _ _=>rfl⟩
theorem aH.trans(a:aH p h h')(b:aH p h' h''):aH p h h'':=⟨zh a.1 b.1,fun k d c=>(b.2 k (qG d a.1) c).trans (a.2 k d c)⟩
theorem aH.then(a:aH p h h')(b:aH q h' h'')(e:∀k,k<h.size->p k->q k):aH p h h'':=⟨zh a.1 b.1,fun k c d=>(b.2 k (qG c a.1) (e k c d)).trans (a.2 k c d)⟩
theorem aH.mono(a:aH p h h')(d:∀b,b<h.size->q b->p b):aH q h h':=⟨a.1,fun k c e=>a.2 k c (d k c e)⟩
theorem aH.push(p:ap)(h:Heap)(o:Obj):aH p h (h.push o):=⟨by simp,fun b a _=>by rw[Array.getElem?_push,if_neg (by omega)]⟩
theorem aH.vb{a:Addr}{v:Value}(d:¬p a.block):aH p h (vb h a v):=⟨by simp[Go.Vc.vb],fun b _ c=>by
 simp only[Go.Vc.vb,wB];rw[if_neg (fun e=>d (by rw[e];exact c))]⟩
theorem lt_of_cell{a:Addr}{v:Value}(b:cellOf h a=some v):a.block<h.size:=by
 unfold cellOf at b;cases hb:h[a.block]? with
 |none=>rw[hb]at b;cases b
 |some o=>exact(yD.1 hb).1
theorem lt_of_block{b:Nat}{o:Obj}(a:h[b]?=some o):b<h.size:=(yD.1 a).1
theorem aH.cell(a:aH p h h'){x:Addr}{v:Value}(c:p x.block)(b:cellOf h x=some v):cellOf h' x=some v:=by
 have:=a.2 _ (lt_of_cell b) c;unfold cellOf at*;rw[this];exact b
theorem aH.block(a:aH p h h'){b:Nat}{o:Obj}(d:p b)(c:h[b]?=some o):h'[b]?=some o:=by rw[a.2 b (lt_of_block c) d];exact c
theorem aH.cells(a:aH p h h'){x:Addr}(b:p x.block):∀{vs:aM} {i:Nat},ah h x i vs->ah h' x i vs
 |[],_,_=>trivial
 |v::r,i,hc=>⟨a.cell (by unfold Addr.add;split<;>exact b) hc.1,aH.cells a b hc.2⟩
end
theorem add_eq(b o n:Nat):(⟨b,o,none⟩:Addr).add n=⟨b,o+n,none⟩:=by
 unfold Addr.add;split
 ·rename_i h;subst h;rfl
 ·rfl
theorem add_zero(a:Addr):a.add 0=a:=rfl
theorem sW{h:Heap}{b o:Nat}{c:Array Value}{e:TypeId}{f:Nat×Nat}(a:h[b]?=some (.cells c e f)):cellOf h ⟨b,o,none⟩=c[o]?:=by
 unfold cellOf;rw[a];rfl
theorem QX{h:Heap}{b o:Nat}{c:Array Value}{e:TypeId}(a:h[b]?=some (.cells c e (0,0))):Mn h ⟨b,o,none⟩=false:=by
 unfold Mn;rw[a];simp
structure Seq {α:Type} (h:Heap) (p:ap) (s:Sl) (k:Nat) (f:α->aM) (l:List α):Prop where
 len:s.len=l.length
 elem:∀i x,l[i]?=some x->∃b o,s.ptr=some ⟨b,o,none⟩/\p b/\ah h ⟨b,o+i*k,none⟩ 0 (f x)
section
variable {α:Type} {h h':Heap} {p q:ap} {s:Sl} {k:Nat} {f:α->aM} {l:List α}
theorem Seq.ag(c:Seq h p s k f l)(d:aH p h h'):Seq h' p s k f l:=⟨c.len,fun i x g=>by
 obtain⟨b,o,e,a,h3⟩:=c.elem i x g;exact⟨b,o,e,a,d.cells a h3⟩⟩
theorem Seq.mono(a:Seq h p s k f l)(d:∀b,p b->q b):Seq h q s k f l:=⟨a.len,fun i x g=>by
 obtain⟨b,o,e,c,h3⟩:=a.elem i x g;exact⟨b,o,e,d b c,h3⟩⟩
theorem Seq.nil(h:Heap)(p:ap)(c:Nat)(a:aK)(k:Nat)(f:α->aM):Seq h p ⟨a,0,c⟩ k f []:=⟨rfl,fun i x b=>by simp at b⟩
theorem Seq.cA{X:Type}{g:X->Value}(c:Seq h p s 1 f l){i:Int}(n:Nat)(d:i=n)(j:n<l.length)(x:X)(m:f l[n]=[g x]){K:X->Prop}(k:K x):
  ∃a:Addr,(s.ptr=some a/\0<=i/\i<((s.len:Nat):Int))/\∃x:X,cellOf h (a.add (i.toNat*1))=some (g x)/\K x:=by
 subst d;obtain⟨b,o,e,_,h3⟩:=c.elem n l[n] (qd j);refine⟨_,⟨e,by omega,by rw[c.len];omega⟩,x,?_,k⟩;rw[m]at h3;have:=h3.1;rw[add_eq,wH]at this;rw[add_eq];simpa using this
theorem Seq.fF{X:Type}{g:X->aM}(c:Seq h p s k f l){i:Int}(n:Nat)(d:i=n)(j:n<l.length)(x:X)(q:f l[n]=g x){K:X->Prop}(m:K x):
  ∃a:Addr,(s.ptr=some a/\0<=i/\i<((s.len:Nat):Int))/\∃x:X,ah h (a.add (i.toNat*k)) 0 (g x)/\K x:=by
 subst d;obtain⟨b,o,e,_,h3⟩:=c.elem n l[n] (qd j);refine⟨_,⟨e,by omega,by rw[c.len];omega⟩,x,?_,m⟩;rw[add_eq];rw[q]at h3;simpa using h3
end
def aG(n:Int):aM:=[vL vR n]
def av(n:UInt8):aM:=[vL vS n.toNat]
def Mw(b:Bool):aM:=[.bool b]
def cx(s:Sl):aM:=[.slice s.ptr s.len s.cap]
structure gN {α:Type} (h:Heap) (p:ap) (s:Sl) (k:Nat) (f:α->aM) (ll:List (List α)) (rs:List Sl):Prop where
 top:Seq h p s 1 cx rs
 len:rs.length=ll.length
 row:∀(i:Nat) (r:Sl) (l:List α),rs[i]?=some r->ll[i]?=some l->Seq h p r k f l
section
variable {α:Type} {h h':Heap} {p q:ap} {s:Sl} {k:Nat} {f:α->aM} {ll:List (List α)} {rs:List Sl}
theorem gN.ag(a:gN h p s k f ll rs)(b:aH p h h'):gN h' p s k f ll rs:=⟨a.top.ag b,a.len,fun i r l d c=>(a.row i r l d c).ag b⟩
theorem gN.mono(a:gN h p s k f ll rs)(c:∀b,p b->q b):gN h q s k f ll rs:=⟨a.top.mono c,a.len,fun i r l e d=>(a.row i r l e d).mono c⟩
theorem gN.WB(a:gN h p s k f ll rs):s.len=ll.length:=by rw[a.top.len,a.len]
theorem gN.get(c:gN h p s k f ll rs){i:Int}(n:Nat)(g:i=n)(e:n<ll.length){K:Sl->Prop}(j:∀r,Seq h p r k f ll[n]->rs[n]?=some r->K r):
  ∃a:Addr,(s.ptr=some a/\0<=i/\i<((s.len:Nat):Int))/\∃x:Sl,cellOf h (a.add (i.toNat*1))=some (.slice x.ptr x.len x.cap)/\K x:=by
 have b:n<rs.length:=by rw[c.len];exact e
 have d:rs[n]?=some rs[n]:=qd b;exact c.top.cA n g b rs[n] rfl (j _ (c.row n _ _ d (qd e)) d)
end
structure Own {α:Type} (h:Heap) (e:TypeId) (s:Sl) (k:Nat) (f:α->aM) (l:List α):Prop where
 len:s.len=l.length
 head:(s.ptr=none/\s.cap=0/\l=[])∨∃b rest,s.ptr=some ⟨b,0,none⟩/\h[b]?=some (.cells (l.flatMap f++rest).toArray e (0,0))/\rest.length=(s.cap-s.len)*k/\s.len<=s.cap
theorem cD{α:Type}{k:Nat}{f:α->aM}(a:∀x,(f x).length=k):∀(l:List α),(l.flatMap f).length=l.length*k
 |[]=>by simp
 |x::r=>by rw[zg,qp,a,cD a r,List.length_cons,zy];omega
theorem Cb{α:Type}{k:Nat}{f:α->aM}(a:∀x,(f x).length=k):∀(l:List α) (i:Nat) (x:α),l[i]?=some x->∃pre post,l.flatMap f=pre++f x++post/\pre.length=i*k
 |y::r,0,x,h=>by simp at h;subst h;exact⟨[],r.flatMap f,by simp,by simp⟩
 |y::r,i+1,x,h=>by
  obtain⟨pre,post,c,b⟩:=Cb a r i x (by simpa using h);exact⟨f y++pre,post,by simp[c],by rw[qp,a,b,zy];omega⟩
theorem ru{h:Heap}{b o:Nat}{e:TypeId}{fr:Nat×Nat}:∀{vs pre post:aM} {i:Nat},h[b]?=some (.cells (pre++vs++post).toArray e fr)->pre.length=o+i->ah h ⟨b,o,none⟩ i vs
 |[],_,_,_,_,_=>trivial
 |v::r,pre,post,i,hb,hl=>by
  refine⟨?_,ru (pre:=pre++[v]) (post:=post) (by simpa using hb) (by simp;omega)⟩;rw[add_eq,sW hb,<-hl];simp
def fG(h:Heap)(b:Nat)(o:Obj):Heap:=h.setIfInBounds b o
theorem eG{h:Heap}{b c:Nat}{o x:Obj}(a:h[b]?=some x):(fG h b o)[c]?=if b=c then some o else h[c]?:=by
 unfold fG;rw[Array.getElem?_setIfInBounds];split
 ·rename_i e;subst e;rw[if_pos (lt_of_block a)]
 ·rfl
theorem Oq{h:Heap}{b o:Nat}{c:Array Value}{e:TypeId}{f:Nat×Nat}{v:Value}(a:h[b]?=some (.cells c e f)):vb h ⟨b,o,none⟩ v=fG h b (.cells (c.setIfInBounds o v) e f):=by
 apply w7;intro i;rw[eG a];simp only[vb,wB];split
 ·rename_i d;subst d;rw[a];rfl
 ·rfl
theorem Ot(h:Heap)(b:Nat)(o a:Obj):fG (fG h b o) b a=fG h b a:=by
 unfold fG;simp
theorem aH.fG{p:ap}{h:Heap}{b:Nat}{o x:Obj}(f:h[b]?=some x)(d:¬p b):aH p h (fG h b o):=⟨by simp[Go.Vc.fG],fun c _ a=>by
 rw[eG f,if_neg (fun e=>d (by rw[e];exact a))]⟩
theorem cN{P:Program}{b o:Nat}{e:TypeId}{K:Unit->Heap->Prop}:∀{vs pre old post:aM} {i:Nat} {h:Heap},h[b]?=some (.cells (pre++old++post).toArray e (0,0))->old.length=vs.length->pre.length=o+i->
  (∀v∈vs,v.oneCell'=true)->K () (fG h b (.cells (pre++vs++post).toArray e (0,0)))->ae P (storeCells ⟨b,o,none⟩ vs i) h K
 |[],pre,old,post,i,h,hb,hl,hp,hv,hk=>by
  have:old=[]:=qM (by simpa using hl);subst this;refine ae.pure' ?_;have f:fG h b (.cells (pre++[]++post).toArray e (0,0))=h:=by
   apply w7;intro c;rw[eG hb];split
   ·rename_i d;subst d;exact hb.symm
   ·rfl
  rw[f]at hk;exact hk
 |v::r,pre,old,post,i,h,hb,hl,hp,hv,hk=>by
  cases old with
  |nil=>simp at hl
  |cons u old=>
   simp only[storeCells];refine ae.bind ?_;rw[add_eq];have d:cellOf h ⟨b,o+i,none⟩=some u:=by rw[sW hb,<-hp];simp
   refine ae.UP (hv v (by simp)) d (QX hb) ?_;rw[Oq hb];have a:(pre++(u::old)++post).toArray.setIfInBounds (o+i) v=((pre++[v])++old++post).toArray:=by
    rw[<-hp];apply wY;simp
   rw[a];refine cN (e:=e) (pre:=pre++[v]) (old:=old) (post:=post) ?_ (by simpa using hl) (by simp;omega) (fun x g=>hv x (by simp[g])) ?_
   ·rw[eG hb,if_pos rfl]
   ·rw[Ot];simpa using hk
theorem Fe{P:Program}{h:Heap}{a:Addr}{vs:aM}{n:Nat}{K:Array Value->Heap->Prop}(b:vs.length=n)(d:ah h a 0 vs)(e:K vs.toArray h):ae P (loadCells a n) h K:=fun w c=>by
 subst c;refine⟨vs.toArray,w,?_,ct.refl w,e⟩;have:=run_loadCells (P:=P) (w:=w) (a:=a) vs 0 #[] d;rw[b]at this;unfold loadCells;rw[this];simp
section
variable {α:Type} {h h':Heap} {p:ap} {e:TypeId} {s:Sl} {k:Nat} {f:α->aM} {l:List α}
theorem Own.lt(c:Own h e s k f l){b:Nat}(a:s.on b):b<h.size:=by
 rcases c.head with⟨h1,_,_⟩|⟨b',rest,h1,h2,_,_⟩
 ·obtain⟨o,h0⟩:=a;rw[h1]at h0;cases h0
 ·obtain⟨o,h0⟩:=a;rw[h1]at h0;cases h0;exact lt_of_block h2
theorem Own.ag(c:Own h e s k f l)(d:aH p h h')(a:∀b,s.on b->p b):Own h' e s k f l:=⟨c.len,by
 rcases c.head with h1|⟨b,rest,h1,h2,h3,h4⟩
 ·exact .inl h1
 ·exact .inr ⟨b,rest,h1,d.block (a b ⟨0,h1⟩) h2,h3,h4⟩⟩
theorem Own.seq(c:Own h e s k f l)(j:∀x,(f x).length=k)(a:∀b,s.on b->p b):Seq h p s k f l:=⟨c.len,fun i x d=>by
 rcases c.head with⟨_,_,h1⟩|⟨b,rest,h1,h2,h3,h4⟩
 ·subst h1;simp at d
 ·obtain⟨pre,post,g,m⟩:=Cb j l i x d;refine⟨b,0,h1,a b ⟨0,h1⟩,ru (e:=e) (fr:=(0,0)) (pre:=pre) (post:=post++rest) ?_ (by omega)⟩;rw[h2,g];simp⟩
theorem Own.nil(h:Heap)(e:TypeId)(k:Nat)(f:α->aM):Own h e ⟨none,0,0⟩ k f []:=⟨rfl,.inl ⟨rfl,rfl,rfl⟩⟩
theorem Own.cap(a:Own h e s k f l):s.len<=s.cap:=by
 rcases a.head with⟨h1,h2,h3⟩|⟨b,rest,h1,h2,h3,h4⟩
 ·have:=a.len;rw[h3]at this;simp at this;omega
 ·exact h4
end
theorem ae.always{α:Type}{P:Program}{s:Sem α}{v:α}{h:Heap}{K:α->Heap->Prop}(a:au P s v)(c:K v h):ae P s h K:=fun w b=>⟨v,w,a w,ct.refl w,by rw[b];exact c⟩
structure bP (C:rQ) (t e k:Nat) (z:aM) (by_:Nat):Prop where
 ex:∃i j,C.T.get t=some i/\i.cj=.slice e/\C.T.get e=some j/\j.size=k/\j.zero=z/\j.bytes=by_
section
variable {C:Ctx} {t e k:Nat} {z:aM} {by_:Nat}
theorem bP.under(b:bP C.torQ t e k z by_)(d:C.Ok):C.P.underlying t=some (.slice e):=by
 obtain⟨i,j,c,a,_⟩:=b.ex;have:=d.cj c;rw[a]at this;exact gS this
theorem bP.size(b:bP C.torQ t e k z by_)(d:C.Ok):au C.P (sizeOf e) k:=by
 obtain⟨i,j,_,_,c,a,_⟩:=b.ex;rw[<-a];exact cz d.toOk c
theorem bP.info(h:bP C.torQ t e k z by_)(p:C.Ok):∃f,C.P.info? e=some f/\f.size=k/\f.bytes=by_/\∃a,f.zero=some a/\a.cells=z.toArray:=by
 obtain⟨i,j,_,_,l,b,h3,c⟩:=h.ex;obtain⟨f,m,d,o,a,g,n⟩:=p.info l;exact⟨f,m,d.trans b,o.trans c,a,g,by apply wY;rw[n,h3]⟩
end
def fU(z:aM):Nat->aM
 |0=>[]
 |n+1=>z++fU z n
theorem kK(z:aM):∀n,(fU z n).length=n*z.length
 |0=>by simp[fU]
 |n+1=>by rw[fU,qp,kK z n,zy];omega
theorem Ik(z:aM):∀(n i:Nat),i<n*z.length->(fU z n)[i]?=z[i%z.length]?
 |0,i,h=>by simp at h
 |n+1,i,h=>by
  have b:0<z.length:=Nat.pos_of_ne_zero fun e=>by rw[e]at h;simp at h
  rw[fU];by_cases a:i<z.length
  ·rw[ql a,Nat.mod_eq_of_lt a]
  ·rw[qh (by omega),Ik z n (i-z.length) (by rw[zy]at h;omega)];congr 1
   conv=>rhs;rw[show i=(i-z.length)+z.length by omega,Nat.add_mod_right]
theorem Il(z:aM)(n m:Nat)(c:m=n*z.length):((vC m).map (fun i=>z.toArray[i%z.toArray.size]!))=(fU z n).toArray:=by
 apply w7;intro i;subst c;simp only[Array.getElem?_map,Array.getElem?_range,zB];by_cases a:i<n*z.length
 ·rw[Ik z n i a];have b:0<z.length:=Nat.pos_of_ne_zero fun e=>by rw[e]at a;simp at a
  have:=yE i b;simp[a,this]
 ·rw[qX (by rw[kK];omega)];simp[a]
theorem ww(z:aM)(n:Nat):Builtin.zeroCells z.toArray n=(fU z n).toArray:=Il z n _ (by simp)
theorem LJ(a:Nat):∀(r c:Nat),Builtin.growBy a r c<=(c+768)*2^r
 |0,c=>by simp[Builtin.growBy]
 |r+1,c=>by
  unfold Builtin.growBy;split
  ·exact zh (Nat.le_add_right c 768) (Nat.le_mul_of_pos_right _ (Nat.two_pow_pos _))
  ·refine zh (LJ a r _) ?_;rw[Nat.pow_succ,Nat.mul_comm (2^r) 2,<-Nat.mul_assoc];exact ze _ (by omega)
theorem Wd(o n:Nat)(h:o<n):(o+768)*2^4<=16*n+16*768:=by omega
theorem LK(a b:Nat)(h:b<a:=by omega):yF a b<=16*a+16*768:=by
 unfold yF;split
 ·omega
 ·split
  ·omega
  ·exact zh (LJ a 4 b) (Wd _ _ h)
section
variable {C:Ctx} {t t2 e k:Nat} {z:aM} {by_:Nat} {α:Type} {h:Heap} {p:ap} {s v:Sl} {f:α->aM} {l l2:List α}
theorem eJ{P:Program}{K:Array Value->Heap->Prop}(z:∀x,(f x).length=k)(j:Seq h p v k f l)(t:K (l.flatMap f).toArray h):
  ae P (wg k v.len (.slice v.ptr v.len v.cap)) h K:=by
 cases hp:v.ptr with
 |none=>
  have:l=[]:=by
   cases l with
   |nil=>rfl
   |cons x r=>obtain⟨b,o,d,_⟩:=j.elem 0 x (by simp);rw[hp]at d;cases d
  subst this;exact ae.pure' t
 |some a=>
  refine Fe (by rw[cD z,<-j.len]) ?_ t;cases l with
  |nil=>trivial
  |cons w r0=>
   obtain⟨b,o,d,_,_⟩:=j.elem 0 w (by simp);rw[hp]at d;cases d;have q:∀(r:List α) (n:Nat),(∀i x,r[i]?=some x->ah h ⟨b,o+(n+i)*k,none⟩ 0 (f x))->ah h ⟨b,o,none⟩ (n*k) (r.flatMap f):=by
    intro r
    induction r with
    |nil=>intro n _;trivial
    |cons x r ih=>
     intro n s;have h0:=s 0 x (by simp);have g:=ih (n+1) (fun i y A=>by have:=s (i+1) y (by simpa using A);rw[show n+1+i=n+(i+1)by omega];exact this);rw[zg];have app:∀(c vs:aM) (i:Nat),ah h ⟨b,o,none⟩ i c->ah h ⟨b,o,none⟩ (i+c.length) vs->ah h ⟨b,o,none⟩ i (c++vs):=by
      intro c
      induction c with
      |nil=>intro vs i _ g;simpa using g
      |cons u c ih=>intro vs i d g;exact⟨d.1,ih vs (i+1) d.2 (by rw[show i+1+c.length=i+(c.length+1)by omega];exact g)⟩
     refine app _ _ _ ?_ (by rw[z,<-zy];exact g);have e:∀(c:aM) (i m:Nat),ah h ⟨b,o+m,none⟩ i c->ah h ⟨b,o,none⟩ (m+i) c:=by
      intro c
      induction c with
      |nil=>intros;trivial
      |cons u c ih=>
       intro i m d;refine⟨?_,ih (i+1) m d.2⟩;have:=d.1;rw[add_eq]at this⊢;rw[<-w5];exact this
     have:=e (f x) 0 ((n+0)*k) h0;simpa using this
   have:=q (w::r0) 0 (fun i x B=>by
    obtain⟨E,D,d,_,h3⟩:=j.elem i x B;rw[hp]at d;cases d;simpa using h3)
   simpa using this
theorem Mx(w:C.Ok)(D:bP C.torQ t e k z by_)(X:∃i e2,C.T.get t2=some i/\i.cj=.slice e2)(V:z.length=k)(H:0<by_/\by_<=128)(m:∀x,(f x).length=k)
  (y:Own h e s k f l) (M:Seq h p v k f l2) (r:∀x,∀c∈f x,c.oneCell'=true) (ad:l.length+l2.length<=2^32) {ty:Nat} {K:Sl->Heap->Prop}
  (Q:∀O h',Own h' e O k f (l++l2)->aH (fun b=>¬s.on b) h h'->(∀b,O.on b->s.on b∨h.size<=b)->K O h'):
  aw C.P (qx #[t,t2] ty #[.slice s.ptr s.len s.cap,.slice v.ptr v.len v.cap]) (.one (.sc .slc)) h K:=by
 obtain⟨i2,e2,U,g2⟩:=X;have I:C.P.underlying t2=some (.slice e2):=by have:=w.cj U;rw[g2]at this;exact gS this
 obtain⟨F,A,x2,x3,zv,Z,x5⟩:=D.info w;unfold aw qx;simp only[zB,wU,qw];refine ae.bind (ae.always (aE (D.under w)) ?_);refine ae.bind (ae.always (D.size w) ?_);refine ae.bind (ae.always (aE I) ?_);refine ae.bind (ae.pure' ?_);simp only[Bool.false_eq_true,if_false,Bool.not_false,if_true];refine ae.bind (ae.pure' ?_);have n:=y.len;have L:=M.len;by_cases d:s.len+v.len<=s.cap
 ·rw[if_pos d];refine ae.bind (eJ m M ?_);rcases y.head with⟨p1,p2,p3⟩|⟨b,rest,p1,p2,p3,p4⟩
  ·rw[p1];have N:l2=[]:=qM (by omega);subst N;refine ae.pure' ⟨⟨none,s.len+v.len,s.cap⟩,rfl,Q _ _ ⟨?_,.inl ⟨rfl,p2,by simp[p3]⟩⟩ (aH.refl _ _) ?_⟩
   ·simp;omega
   ·rintro R ⟨o,g⟩;cases g
  ·rw[p1];refine ae.bind ?_;rw[add_eq,zU];have j:=cD m l;have a:=cD m l2;have B:(l2.flatMap f).length<=rest.length:=by
    rw[a,p3];exact ze k (by omega)
   refine cN (e:=e) (pre:=l.flatMap f) (old:=rest.take (l2.flatMap f).length) (post:=rest.drop (l2.flatMap f).length) ?_ ?_ ?_ ?_ ?_
   ·rw[qm,qy];exact p2
   ·rw[qO];exact wu B
   ·rw[j,n];omega
   ·intro c hc;obtain⟨x,_,J⟩:=zZ.1 hc;exact r x c J
   ·refine ae.pure' ⟨⟨some ⟨b,0,none⟩,s.len+v.len,s.cap⟩,rfl,Q _ _ ⟨?_,.inr ⟨b,rest.drop (l2.flatMap f).length,rfl,?_,?_,d⟩⟩ ?_ ?_⟩
    ·simp;omega
    ·rw[eG p2,if_pos rfl];simp
    ·rw[qR,p3,a,<-Nat.sub_mul];show(s.cap-s.len-l2.length)*k=(s.cap-(s.len+v.len))*k;congr 1;omega
    ·exact aH.fG p2 (fun hn=>hn ⟨0,p1⟩)
    ·rintro R ⟨o,g⟩;cases g;exact .inl ⟨0,p1⟩
 ·rw[if_neg d];have q:Seq h (fun _=>True) s k f l:=y.seq m (fun _ _=>trivial);have S:=y.cap;refine ae.bind (ae.always (cw A) ?_);rw[if_neg (fun Y=>by rcases Y.2 with h|h<;>first|exact h|(rw[x3]at h;omega))];refine ae.bind (ae.always (cw A) ?_);have W:=LK (s.len+v.len) s.cap;rw[if_neg (by
   have:yF (s.len+v.len) s.cap*F.bytes<=(16*2^32+16*768)*128:=wE (by omega) (by rw[x3];exact H.2);omega)]
  refine ae.bind (ae.EY ⟨fun hf=>(by cases hf),fun _ nn=>?_⟩);refine ae.bind (ae.always (cw A) ?_);refine ae.bind (ae.BW ?_);refine ae.bind (eJ m q ?_);refine ae.bind (eJ m M ?_);have G:au C.P (zeroValue e) zv:=(cw A).bind (by rw[Z];exact .pure);refine ae.bind (ae.always G ?_);rw[x5,ww];unfold newRow;refine ae.bind (ae.bind (ae.ms (ae.pure' (ae.pure' ?_))));generalize E:Question.cut (Question.appendCap (s.len+v.len) s.cap e) nn=cc;have u:s.len+v.len<=cc:=by rw[<-E];simp only[Question.cut];omega
  refine⟨⟨some ⟨h.size,0,none⟩,s.len+v.len,cc⟩,rfl,Q _ _ ⟨?_,.inr ⟨h.size,fU z (cc-(s.len+v.len)),rfl,?_,?_,u⟩⟩ (aH.push _ _ _) ?_⟩
  ·simp;omega
  ·simp
  ·rw[kK,V]
  ·rintro R ⟨o,g⟩;cases g;exact .inr (qt _)
end
structure bV (h:Heap) (a:Addr) (e:TypeId) (cs:aM):Prop where
 off:a.off=0
 spot:a.spot=none
 eu:h[a.block]?=some (.cells cs.toArray e (0,0))
section
variable {h h':Heap} {a:Addr} {e:TypeId} {cs:aM} {p:ap}
theorem bV.addr(c:bV h a e cs):a=⟨a.block,0,none⟩:=by
 obtain⟨b,o,s⟩:=a;have:=c.off;have:=c.spot
 simp_all
theorem bV.ag(b:bV h a e cs)(c:aH p h h')(d:p a.block):bV h' a e cs:=⟨b.off,b.spot,c.block d b.eu⟩
theorem bV.lt(b:bV h a e cs):a.block<h.size:=lt_of_block b.eu
theorem bV.cell(b:bV h a e cs){j:Nat}{v:Value}(c:cs[j]?=some v):cellOf h (a.add j)=some v:=by
 rw[b.addr,add_eq,sW b.eu];simpa using c
theorem bV.cell0(b:bV h a e cs){v:Value}(c:cs[0]?=some v):cellOf h a=some v:=b.cell (j:=0) c
theorem bV.cells(d:bV h a e cs)(j:Nat)(vs:aM)(c:(cs.drop j).take vs.length=vs):ah h (a.add j) 0 vs:=by
 rw[d.addr,add_eq,zU];have b:vs.length<=(cs.drop j).length:=by
  have:=congrArg List.length c;rw[qO]at this;omega
 rcases Nat.lt_or_ge cs.length j with hj|hj
 ·rw[qR]at b;have:vs=[]:=qM (by omega);subst this;trivial
 ·refine ru (e:=e) (fr:=(0,0)) (pre:=cs.take j) (post:=(cs.drop j).drop vs.length) ?_ (by simp;omega);have:cs.take j++vs++(cs.drop j).drop vs.length=cs:=by
   conv=>lhs;rw[qm];arg 2;arg 1;rw[<-c]
   rw[qy,qy]
  rw[this];exact d.eu
theorem bV.aI(b:bV h a e cs)(vs:aM)(c:cs.take vs.length=vs):ah h a 0 vs:=b.cells 0 vs c
end
section
variable {C:Ctx} {t:Nat} {i:TI} {h:Heap}
theorem FY(f:C.Ok)(d:C.T.get t=some i){K:Addr->Heap->Prop}(e:∀a h',a.block=h.size->bV h' a t i.zero->aH (fun _=>True) h h'->h'.size=h.size+1->K a h'):
  aL C.P (qJ t true (.tuple #[])) h K:=by
 obtain⟨z,c,b⟩:=mN f.toOk d;unfold aL qJ;refine ae.bind (ae.always c ?_);refine ae.bind (ae.bind (ae.bind (ae.ms (ae.pure' (ae.pure' (ae.pure' ?_))))));refine⟨⟨h.size,0,none⟩,rfl,e _ _ rfl ⟨rfl,rfl,?_⟩ (aH.push _ _ _) (by simp)⟩;rw[<-b];simp
theorem TT{v:Value}{P:Program}{K:Addr->Heap->Prop}(b:∀a h',a.block=h.size->bV h' a t v.cells.toList->aH (fun _=>True) h h'->h'.size=h.size+1->K a h'):
  aL P (qI t v) h K:=by
 unfold aL qI;refine ae.bind (ae.bind (ae.bind (ae.ms (ae.pure' (ae.pure' (ae.pure' ?_))))));refine⟨⟨h.size,0,none⟩,rfl,b _ _ rfl ⟨rfl,rfl,?_⟩ (aH.push _ _ _) (by simp)⟩;simp
theorem run_store(k:C.Ok){a:Addr}{e:TypeId}{b:aM}(c:bV h a e b)(n:C.T.get t=some i)(off:Nat){v:Value}(vs:aM)(l:v.cells=vs.toArray)(f:i.size=vs.length)
  (d:vs.all (·.oneCell')=true) (g:off+vs.length<=b.length) {K:Unit->Heap->Prop}
  (m:∀h',bV h' a e (b.take off++vs++b.drop (off+vs.length))->aH (·≠a.block) h h'->h'.size=h.size->K () h'):
  ae C.P (qe t (.pointer (some (a.add off))) v) h K:=by
 have j:=c.addr;unfold qe;refine ae.bind (ae.pure' ?_);unfold storeVar;refine ae.bind (ae.always (cz k.toOk n) ?_);rw[l,f];simp only[z8,ne_eq,not_true,if_false];rw[j,add_eq,zU];refine cN (e:=e) (pre:=b.take off) (old:=(b.drop off).take vs.length) (post:=b.drop (off+vs.length)) ?_ ?_ ?_ ?_ ?_
 ·have:b.take off++(b.drop off).take vs.length++b.drop (off+vs.length)=b:=by
   rw[<-zo,qm,qy,qy]
  rw[this];exact c.eu
 ·simp;omega
 ·simp;omega
 ·intro x o;have:=qT.1 d x o;exact this
 ·refine m _ ⟨c.off,c.spot,?_⟩ (aH.fG c.eu (by simp)) (by simp[fG]);rw[eG c.eu,if_pos rfl]
theorem My(m:C.Ok){a:Addr}{e:TypeId}{c:aM}(k:bV h a e c)(g:C.T.get t=some i){v:Value}(vs:aM)(j:v.cells=vs.toArray)(d:i.size=vs.length)
  (b:vs.all (·.oneCell')=true) (f:vs.length<=c.length) {K:Unit->Heap->Prop}
  (l:∀h',bV h' a e (vs++c.drop vs.length)->aH (·≠a.block) h h'->h'.size=h.size->K () h'):
  ae C.P (qe t (.pointer (some a)) v) h K:=
 run_store m k g 0 vs j d b (by omega) (fun h' x y z=>l h' (by simpa using x) y z)
end
section
variable {C:Ctx} {t e k:Nat} {z:aM} {by_:Nat} {α:Type} {h:Heap} {p:ap} {s v:Sl} {f:α->aM} {l l2:List α}
theorem wR{a:α}(b:f a=z):∀n,fU z n=(qi n a).flatMap f
 |0=>rfl
 |n+1=>by rw[fU,List.replicate_succ,zg,b,wR b n]
theorem ak(x:Int)(c:-9223372036854775808<=x:=by omega)(b:x<=9223372036854775807:=by omega):qc vR x=x:=by
 show(if(true&&decide (x%2^64>=2^63))=true then x%2^64-2^64 else x%2^64)=x;by_cases a:x%2^64>=2^63
 ·rw[if_pos (by rw[zK];exact decide_eq_true a)];omega
 ·rw[if_neg (by rw[zK];exact fun h=>a (of_decide_eq_true h))];omega
theorem run_make(s:C.Ok)(l:bP C.torQ t e k z by_)(r:0<by_/\by_<=128)(u:α)(A:f u=z)(d:z.length=k){E H:IntKind}{n c:Int}(m b:Nat)(L:n=m)(M:c=b)(o:m<=b)(w:b<=2^32)
  {K:Sl->Heap->Prop} (J:∀j h',Own h' e j k f (qi m u)->j.ptr=some ⟨h.size,0,none⟩->j.cap=b->aH (fun _=>True) h h'->h'.size=h.size+1->K j h'):
  aw C.P (zA t (.int E n) (.int H c)) (.one (.sc .slc)) h K:=by
 subst L;subst M;obtain⟨p,B,x2,x3,I,F,G⟩:=l.info s;unfold aw zA;refine ae.bind (ae.always (aE (l.under s)) ?_);refine ae.bind (ae.pure' ?_);refine ae.bind (ae.pure' ?_);refine ae.bind (ae.always (cw B) ?_);have N:qc vR (m:Int)=m:=ak _;have D:qc vR (b:Int)=b:=ak _;have O:¬((p.bytes:Int)*(b:Int)>2^48):=by
  rw[x3];have:by_*b<=128*2^32:=wE r.2 w;have:((by_:Int)*(b:Int))<=((128*2^32:Nat):Int):=by exact_mod_cast this
  omega
 simp only[N,D];rw[if_neg (by simp;omega)];refine ae.bind (ae.BW ?_);refine ae.bind (ae.always (l.size s) ?_);have q:au C.P (zeroValue e) I:=(cw B).bind (by rw[F];exact .pure);have fin:∀g:Array Value,(b*k≠0->g=z.toArray)->ae C.P (do
   let a<-newRow e ((vC (b*k)).map (g[·%g.size]!))
   pure (Value.slice (some a) m b)) h (fun v h'=>∃x:(Rt.one (.sc .slc)).den,v=(Rt.one (.sc .slc)).enc x/\K x h'):=by
  intro g y;have i:((vC (b*k)).map (g[·%g.size]!))=(fU z b).toArray:=by
   by_cases h0:b*k=0
   ·rw[h0];have:fU z b=[]:=qM (by rw[kK,d,h0]);rw[this];simp
   ·rw[y h0];exact Il z b _ (by rw[d])
  rw[i];refine ae.bind (ae.bind (ae.ms (ae.pure' (ae.pure' ?_))));refine⟨⟨some ⟨h.size,0,none⟩,m,b⟩,rfl,J _ _ ⟨by simp,.inr ⟨h.size,fU z (b-m),rfl,?_,?_,o⟩⟩ rfl rfl (aH.push _ _ _) (by simp)⟩
  ·have:fU z b=(qi m u).flatMap f++fU z (b-m):=by
    rw[wR A,wR A,<-q7,List.replicate_append_replicate];congr 2;omega
   rw[this];simp
  ·rw[kK,d]
 simp only[qo];by_cases h0:b*k=0
 ·rw[if_pos h0];exact ae.bind (ae.pure' (fin _ (fun h=>absurd h0 h)))
 ·rw[if_neg h0];refine ae.bind (ae.always q ?_);exact ae.bind (ae.pure' (fin _ (fun _=>G)))
theorem LL(o:C.Ok)(j:bP C.torQ t e k z by_)(g:z.length=k){n:Nat}{parts:Array (Nat×Value)}(l:List α)(D:l.length=n)(s:n*k<=2^20)
  (b:wc (fun i=>some (i*k,k)) (fU z n).toArray parts.toList=some (l.flatMap f).toArray) {K:Sl->Heap->Prop}
  (B:∀p h',Own h' e p k f l->p.ptr=some ⟨h.size,0,none⟩->aH (fun _=>True) h h'->h'.size=h.size+1->K p h'):
  aw C.P (qu t n parts) (.one (.sc .slc)) h K:=by
 obtain⟨r,u,x2,x3,A,w,y⟩:=j.info o;unfold aw qu;refine ae.bind (ae.always (aE (j.under o)) ?_);refine ae.bind (ae.always (j.size o) ?_);rw[if_neg (by omega)];have m:au C.P (zeroValue e) A:=(cw u).bind (by rw[w];exact .pure);have fin:∀c:Array Value,(n*k≠0->c=z.toArray)->ae C.P (do
   let some cells:=wc (fun i=>some (i*k,k)) ((vC (n*k)).map (c[·%c.size]!)) parts.toList
    |stuck "buildSlice: a part of the wrong size"
   pure (Value.slice (some (<-newRow e cells)) n n)) h (fun v h'=>∃x:(Rt.one (.sc .slc)).den,v=(Rt.one (.sc .slc)).enc x/\K x h'):=by
  intro c q;have d:((vC (n*k)).map (c[·%c.size]!))=(fU z n).toArray:=by
   by_cases h0:n*k=0
   ·rw[h0];have:fU z n=[]:=qM (by rw[kK,g,h0]);rw[this];simp
   ·rw[q h0];exact Il z n _ (by rw[g])
  rw[d,b];refine ae.bind (ae.bind (ae.ms (ae.pure' (ae.pure' ?_))));refine⟨⟨some ⟨h.size,0,none⟩,n,n⟩,rfl,B _ _ ⟨D.symm,.inr ⟨h.size,[],rfl,by simp,by simp,qt _⟩⟩ rfl (aH.push _ _ _) (by simp)⟩
 by_cases h0:n*k=0
 ·rw[if_pos h0];exact ae.bind (ae.pure' (fin _ (fun h=>absurd h0 h)))
 ·rw[if_neg h0];refine ae.bind (ae.always m ?_);exact ae.bind (ae.pure' (fin _ (fun _=>y)))
theorem Own.set{i:TI}(z:C.Ok)(q:Own h e s k f l)(p:∀x,(f x).length=k)(F:C.T.get t=some i){x:Int}(n:Nat)(B:x=n)(v:n<l.length){j:Value}(y:α)(A:j.cells=(f y).toArray)(u:i.size=k)
  (m:(f y).all (·.oneCell')=true) {K:Heap->Prop} (E:∀h',Own h' e s k f (l.set n y)->aH (fun b=>¬s.on b) h h'->h'.size=h.size->K h'):
  ∃a:Addr,(s.ptr=some a/\0<=x/\x<((s.len:Nat):Int))/\ae C.P (qe t (.pointer (some (a.add (x.toNat*k)))) j) h fun _ h'=>K h':=by
 subst B;rcases q.head with⟨_,_,h3⟩|⟨b,rest,h1,h2,h3,h4⟩
 ·subst h3;simp at v
 ·refine⟨_,⟨h1,by omega,by rw[q.len];omega⟩,?_⟩;unfold qe;refine ae.bind (ae.pure' ?_);unfold storeVar;refine ae.bind (ae.always (cz z.toOk F) ?_);rw[A,u];have r:=p y;simp only[z8,r,ne_eq,not_true,if_false];rw[add_eq,zU,qo];have d:l=l.take n++l[n]::l.drop (n+1):=by rw[<-qL v,qy]
  have g:l.set n y=l.take n++y::l.drop (n+1):=zX.trans (if_pos v);have o:((l.take n).flatMap f).length=n*k:=by rw[cD p,qO,wu (by omega)]
  refine cN (e:=e) (pre:=(l.take n).flatMap f) (old:=f l[n]) (post:=(l.drop (n+1)).flatMap f++rest) ?_ ?_ ?_ ?_ ?_
  ·have:l.flatMap f++rest=(l.take n).flatMap f++f l[n]++((l.drop (n+1)).flatMap f++rest):=by
    have w:=congrArg (List.flatMap f) d;rw[q7,zg]at w;rw[w];simp
   rw[<-this];exact h2
  ·rw[p,p]
  ·rw[o];omega
  ·intro c G;have:=qT.1 m c G;exact this
  ·refine E _ ⟨by rw[qZ];exact q.len,.inr ⟨b,rest,h1,?_,h3,h4⟩⟩ (aH.fG h2 (fun D=>D ⟨0,h1⟩)) (by simp[fG]);rw[eG h2,if_pos rfl,g];simp
end
def grow(c:Nat->Nat)(n i:Nat):Nat->Nat:=fun b=>if b<n then c b else i
theorem dF{c:Nat->Nat}{n i b:Nat}(h:b<n):grow c n i b=c b:=if_pos h
theorem Cc{c:Nat->Nat}{n i b:Nat}(h:n<=b):grow c n i b=i:=if_neg (by omega)
structure fV {α:Type} (h:Heap) (c:Nat->Nat) (i:Nat) (e:TypeId) (s:Sl) (k:Nat) (f:α->aM) (l:List α):Prop where
 own:Own h e s k f l
 bp:∀b,s.on b->c b=i
structure sX (h:Heap) (c:Nat->Nat) (i:Nat) (a:Addr) (e:TypeId) (cs:aM):Prop where
 box:bV h a e cs
 bp:c a.block=i
structure Cd (h0 h:Heap) (c:Nat->Nat):Prop where
 ag:aH (fun b=>b<h0.size) h0 h
 bp:∀b,b<h0.size->c b=0
section
variable {α:Type} {h h' h0:Heap} {c:Nat->Nat} {i j n m:Nat} {e:TypeId} {s:Sl} {k:Nat} {f:α->aM} {l:List α} {a:Addr} {cs:aM}
theorem fV.keep(a:fV h c j e s k f l)(n:aH (fun b=>c b≠i) h h')(g:j≠i):fV h' (grow c h.size m) j e s k f l:=
 ⟨a.own.ag n fun b d=>by rw[a.bp b d];exact g,fun b d=>by rw[dF (a.own.lt d)];exact a.bp b d⟩
theorem sX.keep(d:sX h c j a e cs)(g:aH (fun b=>c b≠i) h h')(f:j≠i):sX h' (grow c h.size m) j a e cs:=
 ⟨d.box.ag g (by rw[d.bp];exact f),by rw[dF d.box.lt];exact d.bp⟩
theorem Cd.keep(a:Cd h0 h c)(e:aH (fun b=>c b≠i) h h')(f:i≠0):Cd h0 h' (grow c h.size m):=
 ⟨a.ag.then e fun b d _=>by rw[a.bp b d];exact f.symm,fun b d=>by rw[dF (qG d a.ag.1)];exact a.bp b d⟩
theorem Cd.refl(h:Heap):Cd h h (fun _=>0):=⟨aH.refl _ _,fun _ _=>rfl⟩
theorem fV.seq(a:fV h c j e s k f l)(d:∀x,(f x).length=k):Seq h (fun b=>c b=j) s k f l:=a.own.seq d a.bp
theorem fV.nil(h:Heap)(c:Nat->Nat)(i:Nat)(e:TypeId)(k:Nat)(f:α->aM):fV h c i e ⟨none,0,0⟩ k f []:=⟨Own.nil h e k f,fun b d=>by obtain⟨o,a⟩:=d;cases a⟩
def Im(h:Heap)(c:Nat->Nat)(i:Nat)(s:Sl)(k:Nat)(f:α->aM)(l:List α):Prop:=Seq h (fun b=>b<h.size/\c b=i) s k f l
theorem Im.keep(g:Im h c j s k f l)(e:aH (fun b=>c b≠i) h h')(d:j≠i):Im h' (grow c h.size m) j s k f l:=
 (Seq.ag g (e.mono fun b _ a=>by rw[a.2];exact d)).mono fun b a=>⟨qG a.1 e.1,by rw[dF a.1];exact a.2⟩
theorem Im.new(d:Seq h' (fun b=>h.size<=b/\b<h'.size) s k f l):Im h' (grow c h.size i) i s k f l:=
 Seq.mono d fun b a=>⟨a.2,Cc a.1⟩
theorem fV.fresh(d:fV h c i e s k f l)(n:Cd h0 h c)(j:i≠0)(m:∀x,(f x).length=k):Seq h (fun b=>h0.size<=b/\b<h.size) s k f l:=
 d.own.seq m fun b a=>⟨vi fun g=>j (by rw[<-d.bp b a,n.bp b g]),d.own.lt a⟩
theorem aH.bp(a:aH (fun _=>True) h h')(c:Nat->Nat)(i:Nat):aH (fun b=>c b≠i) h h':=a.mono fun _ _ _=>trivial
end
section
variable {α:Type} {C:Ctx} {h h' h0:Heap} {c:Nat->Nat} {i:Nat} {e t t2:Nat} {s v:Sl} {k by_:Nat} {f:α->aM} {l l2:List α} {a:Addr} {cs z:aM} {p:ap} {ti:TI}
theorem sX.store(l:C.Ok)(g:sX h c i a e cs)(p:C.T.get t=some ti)(off:Nat){v:Value}(vs:aM)(m:v.cells=vs.toArray)(j:ti.size=vs.length)
  (d:vs.all (·.oneCell')=true) (f:off+vs.length<=cs.length) {K:Unit->Heap->Prop}
  (o:∀h',sX h' (grow c h.size i) i a e (cs.take off++vs++cs.drop (off+vs.length))->aH (fun b=>c b≠i) h h'->K () h'):
  ae C.P (qe t (.pointer (some (a.add off))) v) h K:=
 run_store l g.box p off vs m j d f fun h' x y z=>o h' ⟨x,by rw[dF g.box.lt];exact g.bp⟩ (y.mono fun b _ k n=>k (by rw[n];exact g.bp))
theorem sX.kr(n:C.Ok)(l:sX h c i a e cs)(j:C.T.get t=some ti){v:Value}(vs:aM)(k:v.cells=vs.toArray)(f:ti.size=vs.length)
  (d:vs.all (·.oneCell')=true) (g:vs.length<=cs.length) {K:Unit->Heap->Prop}
  (m:∀h',sX h' (grow c h.size i) i a e (vs++cs.drop vs.length)->aH (fun b=>c b≠i) h h'->K () h'):
  ae C.P (qe t (.pointer (some a)) v) h K:=
 l.store n j 0 vs k f d (by omega) (fun h' x y=>m h' (by simpa using x) y)
theorem fV.append(r:C.Ok)(d:fV h c i e s k f l)(q:bP C.torQ t e k z by_)(m:∃i e2,C.T.get t2=some i/\i.cj=.slice e2)(u:z.length=k)(j:0<by_/\by_<=128)(E:∀x,(f x).length=k)
  (A:Seq h p v k f l2) (a:∀x,∀c∈f x,c.oneCell'=true) (n:l.length+l2.length<=2^32) {ty:Nat} {K:Sl->Heap->Prop}
  (D:∀g h',fV h' (grow c h.size i) i e g k f (l++l2)->aH (fun b=>c b≠i) h h'->K g h'):
  aw C.P (qx #[t,t2] ty #[.slice s.ptr s.len s.cap,.slice v.ptr v.len v.cap]) (.one (.sc .slc)) h K:=
 Mx r q m u j E d.own A a n fun g h' x y w=>D g h' ⟨x,fun b B=>by
  rcases w b B with w|w
  ·rw[dF (d.own.lt w)];exact d.bp b w
  ·exact Cc w⟩ (y.mono fun b _ o m=>o (d.bp b m))
theorem fV.set(q:C.Ok)(j:fV h c i e s k f l)(D:∀x,(f x).length=k)(A:C.T.get t=some ti){x:Int}(n:Nat)(E:x=n)(B:n<l.length){d:Value}(y:α)(r:d.cells=(f y).toArray)(m:ti.size=k)
  (g:(f y).all (·.oneCell')=true) {K:Heap->Prop} (v:∀h',fV h' (grow c h.size i) i e s k f (l.set n y)->aH (fun b=>c b≠i) h h'->K h'):
  ∃a:Addr,(s.ptr=some a/\0<=x/\x<((s.len:Nat):Int))/\ae C.P (qe t (.pointer (some (a.add (x.toNat*k)))) d) h fun _ h'=>K h':=
 j.own.set q D A n E B y r m g fun h' z w _=>v h' ⟨z,fun b p=>by rw[dF (j.own.lt p)];exact j.bp b p⟩ (w.mono fun b _ o u=>o (j.bp b u))
end
section
variable {α:Type} {C:Ctx} {h h' h0:Heap} {c:Nat->Nat} {i j n m:Nat} {e t:Nat} {s v:Sl} {k by_:Nat} {f:α->aM} {l l2:List α} {z:aM} {p:ap}
theorem grow_grow{c:Nat->Nat}{n m i:Nat}(h:n<=m):grow (grow c n i) m i=grow c n i:=by
 funext b;unfold grow;split
 ·rfl
 ·rw[if_neg (by omega)]
theorem aH.step(a:aH (fun b=>c b≠i) h h'){d:Heap}(b:aH (fun b=>grow c h.size i b≠i) h' d):aH (fun b=>c b≠i) h d:=
 a.then b fun x f e=>by rw[dF f];exact e
theorem fV.push(E:C.Ok)(u:fV h c i e s k f l)(o:bP C.torQ t e k z by_)(F:z.length=k)(q:0<by_/\by_<=128)(H:∀x,(f x).length=k)
  (d:∀x,∀c∈f x,c.oneCell'=true) (x:α) {parts:Array (Nat×Value)} (a:wc (fun i=>some (i*k,k)) (fU z 1).toArray parts.toList=some ([x].flatMap f).toArray)
  (A:1*k<=2^20) (D:l.length+1<=2^32) {ty:Nat} {K:Sl->Heap->Prop}
  (N:∀n h',fV h' (grow c h.size i) i e n k f (l++[x])->aH (fun b=>c b≠i) h h'->K n h'):
  aw C.P (qu t 1 parts) (.one (.sc .slc)) h fun v j=>aw C.P (qx #[t,t] ty #[.slice s.ptr s.len s.cap,.slice v.ptr v.len v.cap]) (.one (.sc .slc)) j K:=by
 refine LL E o F [x] rfl A a fun v j I M B _=>?_;have w:aH (fun b=>c b≠i) h j:=B.bp c i;have r:fV j (grow c h.size i) i e s k f l:=⟨u.own.ag B fun _ _=>trivial,fun b G=>by rw[dF (u.own.lt G)];exact u.bp b G⟩
 have m:h.size<=j.size:=B.1;obtain⟨O,Q,L,x2,_⟩:=o.ex;refine r.append E o ⟨O,e,L,x2⟩ F q H (I.seq (p:=fun _=>True) H fun _ _=>trivial) d D fun n J g y=>?_;rw[grow_grow m]at g;exact N n J g (w.step y)
structure mP (h:Heap) (c:Nat->Nat) (top lo:Nat) (e:TypeId) (s:Sl) (k:Nat) (f:α->aM) (ll:List (List α)) (rs:List Sl):Prop where
 own:fV h c top e s 1 cx rs
 len:rs.length=ll.length
 row:∀(i:Nat) r l,rs[i]?=some r->ll[i]?=some l->Seq h (fun b=>b<h.size/\lo<=c b/\c b<lo+ll.length) r k f l
theorem mP.keep{q:List (List α)}{rs:List Sl}{a g:Nat}(n:mP h c a g e s k f q rs)(o:aH (fun b=>c b≠i) h h')(t:a≠i)(v:i<g∨g+q.length<=i):mP h' (grow c h.size m) a g e s k f q rs:=
 ⟨n.own.keep o t,n.len,fun u r l p j=>((n.row u r l p j).ag (o.mono fun b _ d=>by rintro rfl;omega)).mono fun b d=>⟨qG d.1 o.1,by rw[dF d.1];exact d.2⟩⟩
theorem mP.nil(h:Heap)(c:Nat->Nat)(a b:Nat)(e:TypeId)(k:Nat)(f:α->aM):mP h c a b e ⟨none,0,0⟩ k f [] []:=
 ⟨fV.nil _ _ _ _ _ _,rfl,fun i r l h=>by simp at h⟩
theorem oF:∀x,∀c∈cx x,c.oneCell'=true:=by intro x c a;simp only[cx,qB]at a;subst a;rfl
theorem mP.push{j:List (List α)}{rs:List Sl}{a m:Nat}{r:Sl}{x:List α}(I:C.Ok)(p:mP h c a m e s k f j rs)(F:bP C.torQ t e 1 [.slice none 0 0] 24)
  (N:Seq h (fun b=>b<h.size/\c b=m+j.length) r k f x) (E:a<m) (z:j.length+1<=2^32) {ty:Nat} {K:Sl->Heap->Prop}
  (L:∀w h',mP h' (grow c h.size a) a m e w k f (j++[x]) (rs++[r])->aH (fun b=>c b≠a) h h'->K w h'):
  aw C.P (qu t 1 #[(0,.slice r.ptr r.len r.cap)]) (.one (.sc .slc)) h fun v n=>aw C.P (qx #[t,t] ty #[.slice s.ptr s.len s.cap,.slice v.ptr v.len v.cap]) (.one (.sc .slc)) n K:=by
 refine p.own.push I F rfl (by decide) (fun _=>rfl) oF r rfl (by decide) (by rw[p.len];exact z) fun w h' y o=>L w h' ⟨y,by simp[p.len],fun i G M n u=>?_⟩ o;have d:∀{q:ap} {B:Sl} {l:List α},Seq h q B k f l->(∀b,q b->b<h.size/\m<=c b/\c b<m+(j++[x]).length)->Seq h' (fun b=>b<h'.size/\m<=grow c h.size a b/\grow c h.size a b<m+(j++[x]).length) B k f l:=fun J D=>
  (J.ag (o.mono fun b _ g=>by have:=D b g;omega)).mono fun b g=>by
   have:=D b g;rw[dF this.1];exact⟨qG this.1 o.1,this.2⟩
 have H:=p.len;by_cases O:i<j.length
 ·rw[ql (by omega)]at n u;exact d (p.row i G M n u) fun b g=>⟨g.1,g.2.1,by simp;omega⟩
 ·have A:i=j.length:=by
   have:=(qk.1 u).1;simp at this;omega
  subst A;simp at u;rw[<-H]at n;simp at n;subst n;subst u;exact d N fun b g=>⟨g.1,by omega,by simp;omega⟩
theorem mP.fresh{n:List (List α)}{rs:List Sl}{a j:Nat}(d:mP h c a j e s k f n rs)(m:Cd h0 h c)(q:a≠0)(t:j≠0):gN h (fun b=>h0.size<=b/\b<h.size) s k f n rs:=
 ⟨d.own.fresh m q fun _=>rfl,d.len,fun i r l u o=>(d.row i r l u o).mono fun b p=>⟨vi fun g=>by have:=m.bp b g;omega,p.1⟩⟩
theorem Own.UW{i:TI}(E:C.Ok)(v:Own h e s k f l)(B:∀x,(f x).length=k)(I:C.T.get t=some i){x:Int}(n z:Nat)(M:x=n)(J:l.length<=n)(p:n<s.cap)(r:z=s.cap){j:Value}(y:α)(F:j.cells=(f y).toArray)(u:i.size=k)
  (m:(f y).all (·.oneCell')=true) {K:Heap->Prop} (H:∀h',Own h' e s k f l->aH (fun b=>¬s.on b) h h'->h'.size=h.size->K h'):
  ∃a:Addr,(s.ptr=some a/\0<=x/\x<((z:Nat):Int))/\ae C.P (qe t (.pointer (some (a.add (x.toNat*k)))) j) h fun _ h'=>K h':=by
 subst M r;rcases v.head with⟨_,h2,h3⟩|⟨b,rest,h1,h2,h3,h4⟩
 ·omega
 ·refine⟨_,⟨h1,by omega,by omega⟩,?_⟩;unfold qe;refine ae.bind (ae.pure' ?_);unfold storeVar;refine ae.bind (ae.always (cz E.toOk I) ?_);rw[F,u];have g:=B y;simp only[z8,g,ne_eq,not_true,if_false];rw[add_eq,zU,qo];have d:=v.len;have o:=cD B l;have w:l.length*k<=n*k:=ze k J;have q:(n+1)*k<=s.cap*k:=ze k p;have A:(s.cap-s.len)*k=s.cap*k-l.length*k:=by rw[Nat.sub_mul,d]
  have D:(n+1)*k=n*k+k:=zy n k;refine cN (e:=e) (pre:=l.flatMap f++rest.take (n*k-l.length*k)) (old:=(rest.drop (n*k-l.length*k)).take k) (post:=rest.drop (n*k-l.length*k+k)) ?_ ?_ ?_ ?_ ?_
  ·have:l.flatMap f++rest=l.flatMap f++rest.take (n*k-l.length*k)++(rest.drop (n*k-l.length*k)).take k++rest.drop (n*k-l.length*k+k):=by
    rw[qm,qm,<-zo,qy,qy]
   rw[<-this];exact h2
  ·rw[g,qO,qR];omega
  ·rw[qp,qO,o];omega
  ·intro c L;have:=qT.1 m c L;exact this
  ·refine H _ ⟨d,.inr ⟨b,rest.take (n*k-l.length*k)++f y++rest.drop (n*k-l.length*k+k),h1,?_,?_,h4⟩⟩ (aH.fG h2 (fun G=>G ⟨0,h1⟩)) (by simp[fG])
   ·rw[eG h2,if_pos rfl];simp
   ·simp only[qp,qO,qR,g];omega
theorem Own.copy(q:C.Ok)(o:bP C.torQ t e k z by_)(n:∀x,(f x).length=k)(r:Own h e s k f l)(u:Seq h p v k f l2)(a:l2.length=l.length)(i:∀x,∀c∈f x,c.oneCell'=true){A ty:Nat}{K:Int->Heap->Prop}
  (w:∀h',Own h' e s k f l2->aH (fun b=>¬s.on b) h h'->h'.size=h.size->K l2.length h'):
  aw C.P (wq #[t,A] ty #[.slice s.ptr s.len s.cap,.slice v.ptr v.len v.cap]) (.one (.sc (.int .i64))) h K:=by
 unfold aw wq;simp only[zB,wU,qw];refine ae.bind (ae.always (aE (o.under q)) ?_);refine ae.bind (ae.pure' ?_);refine ae.bind (ae.always (o.size q) ?_);have g:=r.len;have j:=u.len;have d:Nat.min v.len s.len=v.len:=wu (by omega);rw[d];refine ae.bind (eJ n u ?_);rcases r.head with⟨h1,h2,h3⟩|⟨b,rest,h1,h2,h3,h4⟩
 ·rw[h1];have:l2=[]:=qM (by rw[a,h3];rfl);subst this;refine ae.pure' ⟨0,by simp[goInt,j],w h ⟨by rw[g,h3],.inl ⟨h1,h2,rfl⟩⟩ (aH.refl _ _) rfl⟩
 ·rw[h1];refine ae.bind ?_;refine cN (e:=e) (pre:=[]) (old:=l.flatMap f) (post:=rest) (by simpa using h2) (by rw[cD n,cD n,a]) rfl ?_ ?_
  ·intro c B;obtain⟨x,_,m⟩:=zZ.1 B;exact i x c m
  ·refine ae.pure' ⟨_,by rw[goInt,j],w _ ⟨by rw[g,a],.inr ⟨b,rest,h1,?_,h3,h4⟩⟩ (aH.fG h2 (fun y=>y ⟨0,h1⟩)) (by simp[fG])⟩;rw[eG h2,if_pos rfl];simp
end
def HM{α:Type}(x:Int)(v:α):List (Int×α)->List (Int×α)
 |[]=>[(x,v)]
 |(k,u)::t=>if k=x then(k,v)::t else(k,u)::HM x v t
def sY{α:Type}(x:Int):List (Int×α)->Option α
 |[]=>none
 |(k,u)::t=>if k=x then some u else sY x t
structure sZ {α:Type} (h:Heap) (r:Nat) (g:α->Value) (kvs:List (Int×α)):Prop where
 ex:∃es clock,h[r]?=some (.map es clock)/\es.toList.map (fun e=>(e.key,e.val))=kvs.map (fun p=>(Value.int .i64 p.1,g p.2))
section
variable {α:Type} {P:Program} {h h':Heap} {r:Nat} {g:α->Value} {kvs:List (Int×α)}
theorem sZ.ag{p:ap}(i:sZ h r g kvs)(e:aH p h h')(c:p r):sZ h' r g kvs:=by
 obtain⟨d,a,f,b⟩:=i.ex;exact⟨d,a,e.block c f,b⟩
theorem sZ.lt(c:sZ h r g kvs):r<h.size:=by
 obtain⟨e,a,b,d⟩:=c.ex;exact lt_of_block b
theorem xa{x:Int}:∀{L:List MapEntry} {kvs:List (Int×α)} {n:Nat},L.map (fun e=>(e.key,e.val))=kvs.map (fun p=>(Value.int .i64 p.1,g p.2))->sY x kvs=none->
  vl (.int .i64) (vL vR x) L n=some none
 |[],_,_,_,_=>rfl
 |e::L,[],_,h,_=>by simp at h
 |e::L,(k,u)::t,n,h,hg=>by
  simp only[zS,List.cons.injEq,Prod.mk.injEq]at h;obtain⟨⟨b,c⟩,h3⟩:=h;unfold sY at hg;split at hg
  ·cases hg
  ·rename_i a;have:(x==k)=false:=by simp;exact fun e=>a e.symm
   simp only[vl,Instr.sameNow,b,if_true,this];exact xa h3 hg
theorem xb{x:Int}{u:α}(v:α)(f:MapEntry->MapEntry)(d:∀e,e.key=Value.int .i64 x->((f e).key,(f e).val)=(Value.int .i64 x,g v)):∀{L:List MapEntry} {kvs:List (Int×α)} {n:Nat},L.map (fun e=>(e.key,e.val))=kvs.map (fun p=>(Value.int .i64 p.1,g p.2))->sY x kvs=some u->
  ∃j e,vl (.int .i64) (vL vR x) L n=some (some (n+j,g u))/\L[j]?=some e/\e.key=vL vR x/\(L.modify j f).map (fun e=>(e.key,e.val))=(HM x v kvs).map (fun p=>(Value.int .i64 p.1,g p.2))
 |[],[],_,_,hg=>by cases hg
 |e::L,[],_,h,_=>by simp at h
 |[],_::_,_,h,_=>by simp at h
 |e::L,(k,w)::t,n,h,hg=>by
  simp only[zS,List.cons.injEq,Prod.mk.injEq]at h;obtain⟨⟨a,c⟩,h3⟩:=h;unfold sY at hg;by_cases b:k=x
  ·subst b;rw[if_pos rfl]at hg;cases hg;refine⟨0,e,?_,rfl,a,?_⟩
   ·simp only[vl,Instr.sameNow,a,if_true,beq_self_eq_true,c,wH]
   ·simp only[HM,if_true,List.modify_zero_cons,zS,h3,d e a]
  ·rw[if_neg b]at hg;obtain⟨j,m,i,o,l,q⟩:=xb v f d (n:=n+1) h3 hg;refine⟨j+1,m,?_,o,l,?_⟩
   ·have:(x==k)=false:=by simp;exact fun e=>b e.symm
    simp only[vl,Instr.sameNow,a,if_true,this];rw[i];congr 3;omega
   ·simp only[HM,b,if_false,List.modify_succ_cons,zS,q,a,c]
theorem Io{a:TypeId}{k:IntKind}{x:Int}{b:Bool}(c:P.underlying a=some (.int k))(n:Nat):au P (Instr.checkKey b (n+1) a (.int k x)) ():=by
 unfold Instr.checkKey;exact(aE c).bind .pure
theorem sZ.lookup{t i l:Nat}{k:α}{x:Int}(q:sZ h r g kvs)(m:P.underlying t=some (.map i l))(b:P.underlying i=some (.int .i64))(p:au P (zeroValue l) (g k))
  {rt:Rt} {K:rt.den->Heap->Prop} (a:∃d:rt.den,g ((sY x kvs).getD k)=rt.enc d/\K d h):
  aw P (Instr.lookup t (.map (some r)) (vL vR x) false) rt h K:=by
 obtain⟨v,c,s,f⟩:=q.ex;unfold aw Instr.lookup;refine ae.bind (ae.always (aE m) ?_);refine ae.bind (ae.TN s (fun _ _ _ h=>by cases h) ?_);refine ae.bind (ae.pure' ?_);refine ae.bind (ae.always (Io b 9999) ?_);unfold Instr.findKey;refine ae.bind (ae.bind (ae.always (aE b) ?_));cases hg:sY x kvs with
 |none=>
  rw[xa f hg];refine ae.pure' ?_;refine ae.bind (ae.always p ?_);refine ae.bind (ae.pure' (ae.pure' ?_));rw[hg]at a;exact a
 |some u=>
  obtain⟨j,e,o,_⟩:=xb (x:=x) (n:=0) u (fun e=>⟨e.key,g u,e.born⟩) (fun e a=>by simp[a]) f hg;rw[o];refine ae.pure' ?_;refine ae.bind (ae.pure' (ae.pure' ?_));rw[hg]at a;exact a
end
theorem Ip(x n:Int)(b:0<n):x%n=if x.tmod n<0 then x.tmod n+n else x.tmod n:=by
 have e:=Int.tmod_lt_of_pos x b;have c:-n<x.tmod n:=Int.lt_tmod_of_pos x b;have d:=Int.tmod_add_mul_tdiv x n;have a:0<=(if x.tmod n<0 then x.tmod n+n else x.tmod n)/\(if x.tmod n<0 then x.tmod n+n else x.tmod n)<n:=by split<;>omega
 have e2:x=(if x.tmod n<0 then x.tmod n+n else x.tmod n)+n*(if x.tmod n<0 then x.tdiv n-1 else x.tdiv n):=by
  split
  ·rw[Int.mul_sub];omega
  ·omega
 conv=>lhs;rw[e2]
 rw[Int.add_mul_emod_self_left];exact Int.emod_eq_of_lt a.1 a.2
theorem aO{α:Type}(l:List α)(k:Nat)(h:k<l.length:=by omega):l.take (k+1)=l.take k++[l[k]]:=List.take_succ_eq_append_getElem h
theorem jQ:∀x,∀c∈aG x,c.oneCell'=true:=by intro x c a;simp only[aG,qB]at a;subst a;rfl
theorem dN:∀x,∀c∈av x,c.oneCell'=true:=by intro x c a;simp only[av,qB]at a;subst a;rfl
theorem up{h c d:Heap}(a:aH (fun b=>b<h.size) h c)(b:aH (fun b=>b<c.size) c d):aH (fun b=>b<h.size) h d:=
 a.then b fun _ e _=>qG e a.1
theorem any{h c:Heap}(a:aH (fun _=>True) h c):aH (fun b=>b<h.size) h c:=a.mono fun _ _ _=>trivial
theorem Seq.up{α:Type}{h a:Heap}{s:Sl}{k:Nat}{f:α->aM}{l:List α}(d:Seq h (fun b=>b<h.size) s k f l)(c:aH (fun b=>b<h.size) h a):Seq a (fun b=>b<a.size) s k f l:=
 (d.ag c).mono fun _ e=>qG e c.1
theorem gN.up{α:Type}{h a:Heap}{s:Sl}{k:Nat}{f:α->aM}{l:List (List α)}{rs:List Sl}(d:gN h (fun b=>b<h.size) s k f l rs)(c:aH (fun b=>b<h.size) h a):gN a (fun b=>b<a.size) s k f l rs:=
 (d.ag c).mono fun _ e=>qG e c.1
theorem Seq.drop{α:Type}{h:Heap}{p:ap}{s:Sl}{w:Nat}{f:α->aM}{l:List α}(c:Seq h p s w f l)(k:Nat)(m:s.len<=s.cap):
  Seq h p ⟨if s.cap=k then s.ptr else s.ptr.map (·.add (k*w)),s.len-k,s.cap-k⟩ w f (l.drop k):=by
 have d:=c.len;refine⟨by simp[d],fun i x a=>?_⟩;rw[wh]at a;obtain⟨b,o,j,g,h3⟩:=c.elem _ x a;have e:=(qk.1 a).1;refine⟨b,o+k*w,?_,g,?_⟩
 ·dsimp only;rw[if_neg (by omega),j,qK,add_eq]
 ·rw[show o+k*w+i*w=o+(k+i)*w by rw[Nat.add_mul];omega];exact h3
theorem Seq.take{α:Type}{h:Heap}{p:ap}{s:Sl}{w:Nat}{f:α->aM}{l:List α}(b:Seq h p s w f l)(k:Nat)(c:k<=l.length):
  Seq h p ⟨s.ptr,k,s.cap⟩ w f (l.take k):=by
 refine⟨by simp;omega,fun i x a=>?_⟩;rw[yv]at a;split at a
 ·exact b.elem i x a
 ·cases a
theorem getD_lt{α:Type}{l:List α}{d:α}{i:Nat}(h:i<l.length):l.getD i d=l[i]:=by rw[qg,qd h];rfl
structure HP where
 p:Heap->ap->Prop
 loc:∀{h h':Heap} {q:ap},p h q->aH q h h'->p h' q
 mono:∀{h:Heap} {q q':ap},p h q->(∀b,q b->q' b)->p h q'
def emp:HP:=⟨fun _ _=>True,fun _ _=>trivial,fun _ _=>trivial⟩
def ao{α:Type}(e:TypeId)(s:Sl)(k:Nat)(f:α->aM)(l:List α):HP:=
 ⟨fun h q=>Own h e s k f l/\∀b,s.on b->q b,fun a d=>⟨a.1.ag d a.2,a.2⟩,fun a c=>⟨a.1,fun b g=>c b (a.2 b g)⟩⟩
def ai(a:Addr)(e:TypeId)(b:aM):HP:=
 ⟨fun h q=>bV h a e b/\q a.block,fun x d=>⟨x.1.ag d x.2,x.2⟩,fun x c=>⟨x.1,c _ x.2⟩⟩
def oG{α:Type}(s:Sl)(k:Nat)(f:α->aM)(l:List α):HP:=
 ⟨fun h q=>Seq h q s k f l,fun a c=>a.ag c,fun a b=>a.mono b⟩
def gd{α:Type}(e:TypeId)(s:Sl)(k:Nat)(f:α->aM)(m:List (List α)):HP:=
 ⟨fun h q=>∃(rs:List Sl) (j:ap),Own h e s 1 cx rs/\(∀b,s.on b->q b/\¬j b)/\(∀b,j b->q b)/\rs.length=m.length/\∀(i:Nat) r l,rs[i]?=some r->m[i]?=some l->Seq h j r k f l,
  fun⟨rs,j,a,b,c,d,e⟩ hp=>⟨rs,j,a.ag hp fun x g=>(b x g).1,b,c,d,fun i r l o n=>(e i r l o n).ag (hp.mono fun x _ g=>c x g)⟩,
  fun⟨rs,j,a,b,c,d,e⟩ hq=>⟨rs,j,a,fun x g=>⟨hq x (b x g).1,(b x g).2⟩,fun x g=>hq x (c x g),d,e⟩⟩
structure aa (B:ap) (h0 h:Heap) (As:List HP):Prop where
 low:∀b,B b->b<h0.size
 ag:aH B h0 h
 ex:∃c:Nat->Nat,(∀b,B b->c b=0)/\∀(i:Nat) (A:HP),As[i]?=some A->A.p h (fun b=>b<h.size/\c b=i+1)
abbrev Sp(a h:Heap)(As:List HP):Prop:=aa (fun b=>b<a.size) a h As
section
variable {B:ap} {h0 h h':Heap} {As Bs:List HP} {A A2 D:HP} {c:Nat->Nat} {i j:Nat}
theorem Sp.refl(h:Heap):Sp h h []:=⟨fun _ h=>h,aH.refl _ _,fun _=>0,fun _ _=>rfl,fun i A a=>by simp at a⟩
theorem aa.le(H:aa B h0 h As):h0.size<=h.size:=H.ag.1
theorem aa.at(H:aa B h0 h As)(i:Nat)(d:As[i]?=some A):A.p h (fun b=>b<h.size):=by
 obtain⟨c,_,a⟩:=H.ex;exact A.mono (a i A d) fun _ e=>e.1
theorem aa.fin(H:aa B h0 h As)(i:Nat)(f:As[i]?=some A):A.p h (fun b=>¬B b/\b<h.size):=by
 obtain⟨c,e,d⟩:=H.ex;exact A.mono (d i A f) fun b g=>⟨fun a=>by have:=e b a;omega,g.1⟩
theorem Sp.fresh(H:Sp h0 h As)(i:Nat)(a:As[i]?=some A):A.p h (fun b=>h0.size<=b/\b<h.size):=
 A.mono (aa.fin H i a) fun b c=>⟨by omega,c.2⟩
theorem aa.comp(H:aa B h0 h As)(R:Sp h h' Bs):aa B h0 h' (As++Bs):=by
 obtain⟨k,j,n,q,o⟩:=H;obtain⟨_,f,g,p,l⟩:=R;have c:=j.1;refine⟨k,j.then f fun b a _=>qG a c,fun b=>if b<h.size then n b else if g b=0 then 0 else As.length+g b,fun b a=>?_,fun i A d=>?_⟩
 ·dsimp only;rw[if_pos (qG (k b a) c)];exact q b a
 ·by_cases m:i<As.length
  ·rw[ql m]at d;refine A.mono (A.loc (o i A d) (f.mono fun b _ a=>a.1)) fun b a=>⟨qG a.1 f.1,?_⟩
   dsimp only;rw[if_pos a.1];exact a.2
  ·rw[qh (by omega)]at d;refine A.mono (l _ A d) fun b a=>⟨a.1,?_⟩
   have:¬b<h.size:=fun e=>by have:=p b e;omega
   dsimp only;rw[if_neg this,if_neg (by omega)];omega
theorem aa.up(H:aa B h0 h As)(R:aH (fun b=>b<h.size) h h'):aa B h0 h' As:=by
 have:=H.comp (Bs:=[]) ⟨fun _ h=>h,R,fun _=>0,fun _ _=>rfl,fun i A a=>by simp at a⟩;simpa using this
theorem Sp.one(R:aH (fun b=>b<h.size) h h')(d:A.p h' (fun b=>h.size<=b/\b<h'.size)):Sp h h' [A]:=by
 refine⟨fun _ h=>h,R,fun b=>if b<h.size then 0 else 1,fun b c=>if_pos c,fun i A2 a=>?_⟩;cases i with
 |succ i=>simp at a
 |zero=>
  simp at a;subst a;exact A.mono d fun b c=>⟨c.2,by dsimp only;rw[if_neg (by omega)]⟩
theorem Sp.zip(R:aH (fun b=>b<h.size) h h'):Sp h h' []:=aa.up (Sp.refl h) R
theorem aa.enter(q:ap)(c:Nat->Nat)(e:∀b,q b->b<h.size)(a:∀(i:Nat) (A:HP),As[i]?=some A->A.p h (fun b=>q b/\c b=i+1)):aa (fun b=>b<h.size/\¬q b) h h As:=by
 classical
 refine⟨fun b d=>d.1,aH.refl _ _,fun b=>if q b then c b else 0,fun b d=>if_neg d.2,fun i A f=>A.mono (a i A f) fun b d=>⟨e b d.1,?_⟩⟩;dsimp only;rw[if_pos d.1];exact d.2
theorem aa.Ou(q:ap)(e:∀b,q b->b<h.size)(a:A.p h q):aa (fun b=>b<h.size/\¬q b) h h [A]:=
 .enter q (fun _=>1) e fun i A2 c=>by
  cases i with
  |succ i=>simp at c
  |zero=>simp at c;subst c;exact A.mono a fun b d=>⟨d,rfl⟩
theorem aa.AG(l:∀b,B b->b<h0.size)(f:aH B h0 h)(z:∀b,B b->c b=0)(a:∀(i:Nat) (A:HP),As[i]?=some A->A.p h (fun b=>b<h.size/\c b=i+1))
  (k:aH (fun b=>¬(b<h.size/\c b=i+1)) h h') (m:D.p h' (fun b=>b<h'.size/\((b<h.size/\c b=i+1)∨h.size<=b))):aa B h0 h' (As.set i D):=by
 refine⟨l,f.then k fun b _ d n=>by have:=z b d;omega,grow c h.size (i+1),fun b d=>?_,fun j A e=>?_⟩
 ·rw[dF (qG (l b d) f.1)];exact z b d
 ·rw[qW]at e;split at e
  ·rename_i g;subst g;split at e
   ·injection e with e
    subst e;refine D.mono m fun b d=>⟨d.1,?_⟩
    rcases d.2 with h1|h1
    ·rw[dF h1.1];exact h1.2
    ·exact Cc h1
   ·cases e
  ·rename_i g;refine A.mono (A.loc (a j A e) (k.mono fun b _ d n=>by omega)) fun b d=>⟨qG d.1 k.1,?_⟩
   rw[dF d.1];exact d.2
theorem aa.step(H:aa B h0 h As)(i:Nat)(g:As[i]?=some A)(k:∀q:ap,A.p h q->(∀b,q b->b<h.size)->aH (fun b=>¬q b) h h'/\D.p h' (fun b=>b<h'.size/\(q b∨h.size<=b))):aa B h0 h' (As.set i D):=by
 obtain⟨e,p,c,z,a⟩:=H;obtain⟨f,d⟩:=k _ (a i A g) fun b j=>j.1;exact aa.AG e p z a f d
theorem aa.jo(H:aa B h0 h As)(i:Nat)(e:As[i]?=some A)(f:∀q:ap,A.p h q->D.p h q):aa B h0 h (As.set i D):=
 H.step i e fun q d a=>⟨aH.refl _ _,D.mono (f q d) fun b c=>⟨a b c,.inl c⟩⟩
theorem aa.merge(H:aa B h0 h As)(i j:Nat)(r:i≠j)(u:As[i]?=some A)(o:As[j]?=some A2)
  (q:∀m l:ap,(∀b,m b->¬l b)->A.p h m->A2.p h l->D.p h (fun b=>m b∨l b)):aa B h0 h ((As.set i D).set j emp):=by
 obtain⟨t,p,c,z,a⟩:=H;refine⟨t,p,fun b=>if c b=j+1 then i+1 else c b,fun b e=>?_,fun k n d=>?_⟩
 ·have:=z b e;dsimp only;rw[if_neg (by omega)];exact this
 ·rw[qW]at d;split at d
  ·split at d
   ·cases d;trivial
   ·cases d
  ·rename_i s;rw[qW]at d;split at d
   ·rename_i g;subst g;split at d
    ·injection d with d
     subst d;refine D.mono (q _ _ (fun b f v=>by omega) (a i A u) (a j A2 o)) fun b e=>?_;rcases e with f|f
     ·exact⟨f.1,by dsimp only;rw[if_neg (by omega)];exact f.2⟩
     ·exact⟨f.1,by dsimp only;rw[if_pos f.2]⟩
    ·cases d
   ·rename_i g;refine n.mono (a k n d) fun b e=>⟨e.1,?_⟩
    dsimp only;rw[if_neg (by omega)];exact e.2
theorem aa.pick(H:aa B h0 h As)(f:Nat->Nat)(n:∀i j,f i=f j->i=j)(l:∀(i:Nat) (A2:HP),Bs[i]?=some A2->As[f i]?=some A2):aa B h0 h Bs:=by
 obtain⟨m,p,c,z,a⟩:=H
 classical
 refine⟨m,p,fun b=>if e:∃i,c b=f i+1 then e.choose+1 else 0,fun b e=>?_,fun i A2 g=>?_⟩
 ·have:=z b e;dsimp only;rw[dif_neg];rintro⟨i,g⟩;omega
 ·refine A2.mono (a _ _ (l i A2 g)) fun b e=>⟨e.1,?_⟩
  have d:∃i,c b=f i+1:=⟨i,e.2⟩
  dsimp only;rw[dif_pos d];have o:=d.choose_spec;have k:=n d.choose i (by omega);rw[k]
theorem aa.take(H:aa B h0 h As)(n:Nat)(a:∀(i:Nat) (A2:HP),Bs[i]?=some A2->As[n+i]?=some A2):aa B h0 h Bs:=H.pick (fun i=>n+i) (fun _ _ h=>by omega) a
end
section
variable {B:ap} {α:Type} {C:Ctx} {h0 h h':Heap} {As:List HP} {i e t t2:Nat} {s v:Sl} {k by_:Nat} {f:α->aM} {l l2:List α} {a:Addr} {cs z:aM} {p:ap} {ti:TI}
theorem aa.own(H:aa B h0 h As)(i:Nat)(a:As[i]?=some (ao e s k f l)):Own h e s k f l:=(H.at i a).1
theorem aa.seq(H:aa B h0 h As)(i:Nat)(a:As[i]?=some (ao e s k f l))(c:∀x,(f x).length=k):Seq h (fun b=>b<h.size) s k f l:=(H.at i a).1.seq c (H.at i a).2
theorem aa.rd(H:aa B h0 h As)(i:Nat)(a:As[i]?=some (oG s k f l)):Seq h (fun b=>b<h.size) s k f l:=H.at i a
theorem aa.box(H:aa B h0 h As)(i:Nat)(b:As[i]?=some (ai a e cs)):bV h a e cs:=(H.at i b).1
theorem aa.jg(H:aa B h0 h As)(i:Nat)(r:As[i]?=some (ao e s k f l)){β:Type}{p m:Nat}{g:β->aM}{n:List β}(o:aH (fun b=>¬s.on b) h h')(q:Own h' p s m g n):aa B h0 h' (As.set i (ao p s m g n)):=
 H.step i r fun _ c j=>⟨o.mono fun b _ a d=>a (c.2 b d),q,fun b a=>⟨qG (j b (c.2 b a)) o.1,.inl (c.2 b a)⟩⟩
theorem aa.rS(H:aa B h0 h As)(i:Nat)(l:As[i]?=some (ai a e cs)){c:aM}(j:aH (fun b=>b≠a.block) h h')(k:bV h' a e c):aa B h0 h' (As.set i (ai a e c)):=
 H.step i l fun q d g=>⟨j.mono fun b _ m f=>m (by rw[f];exact d.2),k,⟨qG (g _ d.2) j.1,.inl d.2⟩⟩
theorem aa.freeze(H:aa B h0 h As)(i:Nat)(b:As[i]?=some (ao e s k f l))(c:∀x,(f x).length=k):aa B h0 h (As.set i (oG s k f l)):=H.jo i b fun _ a=>a.1.seq c a.2
theorem aa.set(m:C.Ok)(H:aa B h0 h As)(i:Nat)(g:As[i]?=some (ao e s k f l))(r:∀x,(f x).length=k)(j:C.T.get t=some ti){x:Int}(n:Nat)(u:x=n)(q:n<l.length){b:Value}(y:α)(o:b.cells=(f y).toArray)(d:ti.size=k)
  (c:(f y).all (·.oneCell')=true) {K:Heap->Prop} (p:∀h',aa B h0 h' (As.set i (ao e s k f (l.set n y)))->K h'):
  ∃a:Addr,(s.ptr=some a/\0<=x/\x<((s.len:Nat):Int))/\ae C.P (qe t (.pointer (some (a.add (x.toNat*k)))) b) h fun _ h'=>K h':=
 (H.own i g).set m r j n u q y o d c fun h' z w _=>p h' (H.jg i g w z)
theorem aa.push(A:C.Ok)(H:aa B h0 h As)(i:Nat)(N:As[i]?=some (ao e s k f l))(y:bP C.torQ t e k z by_)(E:z.length=k)(p:0<by_/\by_<=128)(O:∀x,(f x).length=k)
  (n:∀x,∀c∈f x,c.oneCell'=true) (x:α) {parts:Array (Nat×Value)} (d:wc (fun i=>some (i*k,k)) (fU z 1).toArray parts.toList=some ([x].flatMap f).toArray)
  (q:1*k<=2^20) (r:l.length+1<=2^32) {ty:Nat} {K:Sl->Heap->Prop}
  (F:∀o h',aa B h0 h' (As.set i (ao e o k f (l++[x])))->K o h'):
  aw C.P (qu t 1 parts) (.one (.sc .slc)) h fun v M=>aw C.P (qx #[t,t] ty #[.slice s.ptr s.len s.cap,.slice v.ptr v.len v.cap]) (.one (.sc .slc)) M K:=by
 obtain⟨G,I,c,J,a⟩:=H;have w:=a i _ N;have D:fV h c (i+1) e s k f l:=⟨w.1,fun b j=>(w.2 b j).2⟩
 refine D.push A y E p O n x d q r fun o h' g u=>F o h' ?_;refine aa.AG G I J a (u.mono fun b j L Q=>L ⟨j,Q⟩) ⟨g.own,fun b j=>⟨g.own.lt j,?_⟩⟩;have:=g.bp b j;by_cases m:b<h.size
 ·rw[dF m]at this;exact .inl ⟨m,this⟩
 ·exact .inr (by omega)
theorem aa.append(y:C.Ok)(H:aa B h0 h As)(i:Nat)(N:As[i]?=some (ao e s k f l))(w:bP C.torQ t e k z by_)(F:∃i e2,C.T.get t2=some i/\i.cj=.slice e2)(D:z.length=k)(o:0<by_/\by_<=128)(O:∀x,(f x).length=k)
  (E:Seq h p v k f l2) (m:∀x,∀c∈f x,c.oneCell'=true) (q:l.length+l2.length<=2^32) {ty:Nat} {K:Sl->Heap->Prop}
  (G:∀n h',aa B h0 h' (As.set i (ao e n k f (l++l2)))->K n h'):
  aw C.P (qx #[t,t2] ty #[.slice s.ptr s.len s.cap,.slice v.ptr v.len v.cap]) (.one (.sc .slc)) h K:=by
 obtain⟨I,J,c,L,a⟩:=H;have u:=a i _ N;have A:fV h c (i+1) e s k f l:=⟨u.1,fun b g=>(u.2 b g).2⟩
 refine A.append y w F D o O E m q fun n h' d r=>G n h' ?_;refine aa.AG I J L a (r.mono fun b g M Q=>M ⟨g,Q⟩) ⟨d.own,fun b g=>⟨d.own.lt g,?_⟩⟩;have:=d.bp b g;by_cases j:b<h.size
 ·rw[dF j]at this;exact .inl ⟨j,this⟩
 ·exact .inr (by omega)
theorem Ff{h c:Heap}{n:Nat}(j:n=h.size)(g:Own c e s k f l)(i:s.ptr=some ⟨n,0,none⟩)(d:aH (fun _=>True) h c):Sp h c [ao e s k f l]:=
 .one (any d) ⟨g,fun b a=>⟨by obtain⟨o,a⟩:=a;rw[i]at a;cases a;omega,g.lt a⟩⟩
theorem aa.make(p:C.Ok)(H:aa B h0 h As)(f:α->aM)(o:bP C.torQ t e k z by_)(d:0<by_/\by_<=128)(i:α)(q:f i=z)(g:z.length=k){r s:IntKind}{n l:Int}(m b:Nat)(A:n=m)(D:l=b)(c:m<=b)(j:b<=2^32)
  {K:Sl->Heap->Prop} (u:∀a h',a.len=m->a.cap=b->aa B h0 h' (As++[ao e a k f (qi m i)])->K a h'):
  aw C.P (zA t (.int r n) (.int s l)) (.one (.sc .slc)) h K:=
 run_make p o d i q g m b A D c j fun a h' x y w v _=>u a h' (by rw[x.len];simp) w (H.comp (Ff rfl x y v))
theorem aa.lit(j:C.Ok)(H:aa B h0 h As)(f:α->aM)(g:bP C.torQ t e k z by_)(d:z.length=k){n:Nat}{parts:Array (Nat×Value)}(l:List α)(p:l.length=n)(c:n*k<=2^20)
  (a:wc (fun i=>some (i*k,k)) (fU z n).toArray parts.toList=some (l.flatMap f).toArray) {K:Sl->Heap->Prop}
  (m:∀b h',aa B h0 h' (As++[ao e b k f l])->K b h'):
  aw C.P (qu t n parts) (.one (.sc .slc)) h K:=
 LL j g d l p c a fun b h' x y o _=>m b h' (H.comp (Ff rfl x y o))
theorem Fg{h b:Heap}(f:a.block=h.size)(d:bV b a e cs)(c:aH (fun _=>True) h b):Sp h b [ai a e cs]:=
 .one (any c) ⟨d,by omega,d.lt⟩
theorem aa.alloc(b:C.Ok)(H:aa B h0 h As)(d:C.T.get t=some ti){K:Addr->Heap->Prop}(e:∀a h',aa B h0 h' (As++[ai a t ti.zero])->K a h'):
  aL C.P (qJ t true (.tuple #[])) h K:=
 FY b d fun a h' x y c _=>e a h' (H.comp (Fg x y c))
theorem aa.boxed(H:aa B h0 h As){P:Program}{v:Value}{K:Addr->Heap->Prop}(c:∀a h',aa B h0 h' (As++[ai a t v.cells.toList])->K a h'):
  aL P (qI t v) h K:=
 TT fun a h' x y b _=>c a h' (H.comp (Fg x y b))
theorem aa.store(l:C.Ok)(H:aa B h0 h As)(i:Nat)(f:As[i]?=some (ai a e cs))(g:C.T.get t=some ti)(off:Nat){v:Value}(vs:aM)(j:v.cells=vs.toArray)(d:ti.size=vs.length)
  (b:vs.all (·.oneCell')=true) (c:off+vs.length<=cs.length) {K:Unit->Heap->Prop}
  (k:∀h',aa B h0 h' (As.set i (ai a e (cs.take off++vs++cs.drop (off+vs.length))))->K () h'):
  ae C.P (qe t (.pointer (some (a.add off))) v) h K:=
 run_store l (H.box i f) g off vs j d b c fun h' x y _=>k h' (H.rS i f y x)
theorem aa.kr(l:C.Ok)(H:aa B h0 h As)(i:Nat)(g:As[i]?=some (ai a e cs))(f:C.T.get t=some ti){v:Value}(vs:aM)(j:v.cells=vs.toArray)(c:ti.size=vs.length)
  (b:vs.all (·.oneCell')=true) (d:vs.length<=cs.length) {K:Unit->Heap->Prop}
  (k:∀h',aa B h0 h' (As.set i (ai a e (vs++cs.drop vs.length)))->K () h'):
  ae C.P (qe t (.pointer (some a)) v) h K:=
 H.store l i g f 0 vs j c b (by omega) (fun h' x=>k h' (by simpa using x))
theorem aa.copy(o:C.Ok)(H:aa B h0 h As)(i:Nat)(d:As[i]?=some (ao e s k f l))(g:bP C.torQ t e k z by_)(j:∀x,(f x).length=k)(m:Seq h p v k f l2)(a:l2.length=l.length)(b:∀x,∀c∈f x,c.oneCell'=true){ty:Nat}{K:Int->Heap->Prop}
  (n:∀h',aa B h0 h' (As.set i (ao e s k f l2))->K l2.length h'):
  aw C.P (wq #[t,t2] ty #[.slice s.ptr s.len s.cap,.slice v.ptr v.len v.cap]) (.one (.sc (.int .i64))) h K:=
 (H.own i d).copy o g j m a b fun h' x y _=>n h' (H.jg i d y x)
theorem aa.UW(q:C.Ok)(H:aa B h0 h As)(i:Nat)(o:As[i]?=some (ao e s k f l))(A:∀x,(f x).length=k)(p:C.T.get t=some ti){x:Int}(n g:Nat)(D:x=n)(v:l.length<=n)(d:n<s.cap)(j:g=s.cap){b:Value}(y:α)(r:b.cells=(f y).toArray)(m:ti.size=k)
  (c:(f y).all (·.oneCell')=true) {K:Heap->Prop} (u:∀h',aa B h0 h' (As.set i (ao e s k f l))->K h'):
  ∃a:Addr,(s.ptr=some a/\0<=x/\x<((g:Nat):Int))/\ae C.P (qe t (.pointer (some (a.add (x.toNat*k)))) b) h fun _ h'=>K h':=
 (H.own i o).UW q A p n g D v d j y r m c fun h' z w _=>u h' (H.jg i o w z)
theorem aa.nil(H:aa B h0 h As)(e k:Nat)(f:α->aM):aa B h0 h (As++[ao e ⟨none,0,0⟩ k f []]):=
 H.comp (.one (aH.refl _ _) ⟨Own.nil h e k f,fun b a=>by obtain⟨o,a⟩:=a;cases a⟩)
theorem aa.Mz(H:aa B h0 h As)(e k:Nat)(f:α->aM):aa B h0 h (As++[gd e ⟨none,0,0⟩ k f []]):=
 H.comp (.one (aH.refl _ _) ⟨[],fun _=>False,Own.nil h e 1 cx,fun b a=>(by obtain⟨o,a⟩:=a;cases a),fun _ a=>a.elim,rfl,fun i r l h=>by simp at h⟩)
theorem aa.Fh(hC:C.Ok)(H:aa B h0 h As)(i j:Nat)(A:i≠j){M:List (List α)}{r:Sl}{x:List α}(T:As[i]?=some (gd e s k f M))(W:As[j]?=some (oG r k f x))(V:bP C.torQ t e 1 [.slice none 0 0] 24)
  (ad:M.length+1<=2^32) {ty:Nat} {K:Sl->Heap->Prop} (hk:∀O h',aa B h0 h' ((As.set j emp).set i (gd e O k f (M++[x])))->K O h'):
  aw C.P (qu t 1 #[(0,.slice r.ptr r.len r.cap)]) (.one (.sc .slc)) h fun v w=>aw C.P (qx #[t,t] ty #[.slice s.ptr s.len s.cap,.slice v.ptr v.len v.cap]) (.one (.sc .slc)) w K:=by
 have H2:=H.merge i j A T W (D:=⟨fun h q=>∃(rs:List Sl) (g:ap),Own h e s 1 cx rs/\(∀b,s.on b->q b/\¬g b)/\(∀b,g b->q b)/\rs.length=M.length/\(∀(i:Nat) r l,rs[i]?=some r->M[i]?=some l->Seq h g r k f l)/\Seq h g r k f x,
  fun⟨rs,g,a,b,c,d,e,f⟩ hp=>⟨rs,g,a.ag hp fun x n=>(b x n).1,b,c,d,fun i r l w y=>(e i r l w y).ag (hp.mono fun x _ n=>c x n),f.ag (hp.mono fun x _ n=>c x n)⟩,
  fun⟨rs,g,a,b,c,d,e,f⟩ hq=>⟨rs,g,a,fun x n=>⟨hq x (b x n).1,(b x n).2⟩,fun x n=>hq x (c x n),d,e,f⟩⟩)
  (fun g q2 Y hA hB=>by
   obtain⟨rs,q3,a,b,c,d,e'⟩:=hA;refine⟨rs,fun b=>q3 b∨q2 b,a,fun x n=>⟨.inl (b x n).1,fun L=>L.elim (b x n).2 (Y x (b x n).1)⟩,fun x n=>n.elim (fun h=>.inl (c x h)) .inr,d,fun i r l w y=>(e' i r l w y).mono fun _ h=>.inl h,Seq.mono hB fun _ h=>.inr h⟩)
 have u:i<As.length:=(qk.1 T).1;obtain⟨lo,pp,c,zz,a⟩:=H2;have X:=a i _ (by rw[zG (Ne.symm A),zH u]);obtain⟨rs,g,a1,a2,a3,a4,a5,a6⟩:=X;let U:Nat->Nat:=fun b=> @ite _ (g b) (Classical.propDecidable _) (As.length+2) (c b);have F:∀b,g b->b<h.size/\c b=i+1:=a3;have ho:fV h U (i+1) e s 1 cx rs:=⟨a1,fun b m=>by
  have:=a2 b m;show @ite _ (g b) (Classical.propDecidable _) _ _=_;rw[if_neg this.2];exact this.1.2⟩
 refine ho.push hC V rfl (by decide) (fun _=>rfl) oF r rfl (by decide) (by omega) fun O h' E G=>hk O h' ?_;rw[vE _ _ (Ne.symm A)];rw[<-vI (l:=As) (i:=i),vE _ _ A];have J:∀b,g b->U b≠i+1:=fun b m=>by
  show @ite _ (g b) (Classical.propDecidable _) _ _≠_;rw[if_pos m];omega
 refine aa.AG lo pp zz a (G.mono fun b m hn hc=>hn ⟨m,?_⟩) ⟨rs++[r],fun b=>g b/\b<h.size,E.own,fun b m=>?_,fun b m=>⟨qG m.2 G.1,.inl ⟨m.2,(F b m.1).2⟩⟩,by simp[a4],fun Q Z l' w y=>?_⟩
 ·by_cases z:g b
  ·exact(F b z).2
  ·have p:@ite _ (g b) (Classical.propDecidable _) (As.length+2) (c b)=i+1:=hc;rw[if_neg z]at p;exact p
 ·have o:=E.bp b m;by_cases u:b<h.size
  ·rw[dF u]at o;have N:¬g b:=fun z=>J b z o;have p:@ite _ (g b) (Classical.propDecidable _) (As.length+2) (c b)=i+1:=o;rw[if_neg N]at p;exact⟨⟨E.own.lt m,.inl ⟨u,p⟩⟩,fun L=>N L.1⟩
  ·exact⟨⟨E.own.lt m,.inr (by omega)⟩,fun L=>u L.2⟩
 ·have I:∀{S:Sl} {l:List α},Seq h g S k f l->Seq h' (fun b=>g b/\b<h.size) S k f l:=fun hs=>
   (hs.mono (q:=fun b=>g b/\b<h.size) fun b m=>⟨m,(F b m).1⟩).ag (G.mono fun b _ m=>J b m.1)
  by_cases R:Q<rs.length
  ·rw[ql R]at w;rw[ql (by omega)]at y;exact I (a5 Q Z l' w y)
  ·have:Q=rs.length:=by
    have:=(qk.1 w).1;simp at this;omega
   subst this;simp at w;rw[a4]at y;simp at y;subst w;subst y;exact I a6
theorem aa.rows(H:aa B h0 h As)(i:Nat){g:List (List α)}(n:As[i]?=some (gd e s k f g)):∃rs,gN h (fun b=>b<h.size) s k f g rs:=by
 obtain⟨rs,p,a,b,c,d,e⟩:=H.at i n;exact⟨rs,a.seq (fun _=>rfl) fun x o=>(b x o).1,d,fun i r l m j=>(e i r l m j).mono c⟩
end
theorem QY(vs:aM):∀(pre old post:aM),old.length=vs.length->((vs.zipIdx 0).foldl (fun(cs:Array Value) (p:Value×Nat)=>cs.setIfInBounds (pre.length+p.2) p.1) (pre++old++post).toArray)=(pre++vs++post).toArray:=by
 have b:∀(vs pre old post:aM) (k:Nat),old.length=vs.length->pre.length=pre.length->∀n,n+k=pre.length->((vs.zipIdx k).foldl (fun(cs:Array Value) (p:Value×Nat)=>cs.setIfInBounds (n+p.2) p.1) (pre++old++post).toArray)=(pre++vs++post).toArray:=by
  intro vs
  induction vs with
  |nil=>intro pre old post k a _ n _;rw[qM a];rfl
  |cons v vs ih=>
   intro pre old post k a _ n c;cases old with
   |nil=>simp at a
   |cons u old=>
    rw[List.zipIdx_cons,List.foldl_cons];have e:(pre++(u::old)++post).toArray.setIfInBounds (n+k) v=((pre++[v])++old++post).toArray:=by
     rw[c];apply wY;simp
    dsimp only;rw[e,ih (pre++[v]) old post (k+1) (by simpa using a) rfl n (by simp;omega)];simp
 intro pre old post h;exact b vs pre old post 0 h rfl pre.length (by omega)
theorem Iq{a:Nat->Option (Nat×Nat)}{i:Nat}{v:Value}{vs pre old post:aM}{rest:List (Nat×Value)}(d:v.cells=vs.toArray)(c:a i=some (pre.length,vs.length))(b:old.length=vs.length):
  wc a (pre++old++post).toArray ((i,v)::rest)=wc a (pre++vs++post).toArray rest:=by
 conv=>lhs;unfold wc
 simp only[c,d];rw[if_neg (by simp;omega)];congr 1;have:=QY vs pre old post b;simpa using this
section
variable {C:Ctx} {t:Nat} {i:TI} {h:Heap}
theorem oH(e:C.Ok)(o:C.T.get t=some i){m:List (Nat×TypeId)}(j:i.cj=.struct m){c:List (Nat×Nat)}(g:placesOf C.T m=some c){vs:List (Nat×Value)}{cells:Array Value}
  (a:wc (fun n=>c[n]?) i.zero.toArray vs=some cells):au C.P (Instr.build t vs.toArray) (.agg cells):=by
 obtain⟨z,p,h⟩:=mN e.toOk o;have b:i.zero.toArray=z.cells:=by rw[<-h]
 have l:=e.cj o;rw[j]at l;obtain⟨r,q,rfl⟩:=lj l;refine p.bind ((aE q).bind ?_);have k:au C.P (r.mapM fun f=>(do pure (f.offset,<-sizeOf f.type):Sem (Nat×Nat))) c.toArray:=by
  rw[Array.mapM_eq_mapM_toList];intro w;have:=ko e.toOk g w;rw[map_eq_pure_bind,Sem.run_bind,this];rfl
 refine k.bind ?_;have d:wc (fun n=>c.toArray[n]?) z.cells vs.toArray.toList=some cells:=by
  rw[<-b];simpa using a
 rw[d];exact .pure
end
theorem take_set{α:Type}(l:List α)(n:Nat)(x:α)(h:n<l.length):l.take n++[x]++l.drop (n+1)=l.set n x:=by
 rw[zX,if_pos h];simp
section
variable {B:ap} {C:Ctx} {h0 h h':Heap} {As:List HP} {e t:Nat} {a:Addr} {cs:aM} {ti:TI}
theorem aa.storeAt(l:C.Ok)(H:aa B h0 h As)(i:Nat)(g:As[i]?=some (ai a e cs))(f:C.T.get t=some ti){off:Nat}{v:Value}(j:v.cells=#[v])(d:ti.size=1)
  (b:v.oneCell'=true) (c:off<cs.length) {K:Unit->Heap->Prop}
  (k:∀h',aa B h0 h' (As.set i (ai a e (cs.set off v)))->K () h'):
  ae C.P (qe t (.pointer (some (a.add off))) v) h K:=
 H.store l i g f off [v] j d (by simp[b]) (by simp;omega) fun h' x=>k h' (by rw[<-take_set _ _ _ c];simpa using x)
theorem aa.storeAll(l:C.Ok)(H:aa B h0 h As)(i:Nat)(g:As[i]?=some (ai a e cs))(f:C.T.get t=some ti){v:Value}(vs:aM)(j:v.cells=vs.toArray)(c:ti.size=vs.length)
  (b:vs.all (·.oneCell')=true) (d:vs.length=cs.length) {K:Unit->Heap->Prop}
  (k:∀h',aa B h0 h' (As.set i (ai a e vs))->K () h'):
  ae C.P (qe t (.pointer (some a)) v) h K:=
 H.kr l i g f vs j c b (by omega) fun h' x=>k h' (by rw[q9 (by omega),List.append_nil]at x;exact x)
end
theorem nX(n:Nat)(a:n<=9223372036854775807:=by omega):qc vR (n:Int)=n:=ak _
abbrev Rd{α:Type}(h:Heap)(s:Sl)(k:Nat)(f:α->aM)(l:List α):Prop:=Seq h (fun b=>b<h.size) s k f l
abbrev fC{α:Type}(h:Heap)(s:Sl)(k:Nat)(f:α->aM)(a:List (List α)):Prop:=∃rs,gN h (fun b=>b<h.size) s k f a rs
section
variable {α:Type} {B:ap} {h0 h h':Heap} {As:List HP} {s:Sl} {k e:Nat} {f:α->aM} {l:List α} {ll:List (List α)}
theorem fC.up(a:fC h s k f ll)(c:aH (fun b=>b<h.size) h h'):fC h' s k f ll:=by
 obtain⟨rs,a⟩:=a;exact⟨rs,gN.up a c⟩
theorem fC.len(a:fC h s k f ll):s.len=ll.length:=by obtain⟨rs,a⟩:=a;exact a.WB
theorem fC.get(b:fC h s k f ll){i:Int}(n:Nat)(d:i=n)(e:n<ll.length){K:Sl->Prop}(g:∀r,Rd h r k f ll[n]->K r):
  ∃a:Addr,(s.ptr=some a/\0<=i/\i<((s.len:Nat):Int))/\∃x:Sl,cellOf h (a.add (i.toNat*1))=some (.slice x.ptr x.len x.cap)/\K x:=by
 obtain⟨rs,b⟩:=b;exact b.get n d e fun r c _=>g r c
theorem Seq.isSome{p:ap}(c:Seq h p s k f l)(d:l≠[]):s.ptr.isNone=false:=by
 cases l with
 |nil=>exact absurd rfl d
 |cons x t=>obtain⟨b,o,a,_⟩:=c.elem 0 x (by simp);rw[a];rfl
theorem Seq.isNil{p:ap}(b:Seq h p s k f l)(a:s.ptr.isNone=true):l=[]:=by
 cases l with
 |nil=>rfl
 |cons x t=>rw[b.isSome (by simp)]at a;cases a
theorem aa.Di(H:aa B h0 h As)(i:Nat)(a:As[i]?=some (gd e s k f ll)):fC h s k f ll:=H.rows i a
end
section
variable {B:ap} {h0 h h':Heap} {As Bs:List HP} {A D:HP}
theorem aa.del(H:aa B h0 h As)(i:Nat):aa B h0 h (As.eraseIdx i):=
 H.pick (fun j=>if j<i then j else j+1) (fun a b d=>by split at d<;>split at d<;>omega) fun j A e=>by
  rw[List.getElem?_eraseIdx]at e;split at e
  ·rename_i c;rw[if_pos c];exact e
  ·rename_i c;rw[if_neg c];exact e
theorem aa.call(H:aa B h0 h As)(i:Nat)(F:As[i]?=some A)(q:ap)(J:∀q':ap,A.p h q'->∀b,q b->q' b)(R:aa (fun b=>b<h.size/\¬q b) h h' (D::Bs)):aa B h0 h' (As.set i D++Bs):=by
 classical
 obtain⟨E,y,j,G,z⟩:=H;obtain⟨_,t,g,L,u⟩:=R;have s:=y.1;have x:=(qk.1 F).1;have l:∀b,q b->b<h.size/\j b=i+1:=J _ (z i A F);have w:∀b,B b->b<h.size/\¬q b:=fun b a=>⟨qG (E b a) s,fun o=>by have:=G b a;have:=l b o;omega⟩
 let c:Nat->Nat:=fun b=>if b<h.size/\¬q b then(if j b=i+1 then 0 else j b)else if g b=0 then 0 else if g b=1 then i+1 else As.length+g b-1
 have f:∀b,b<h.size/\¬q b->j b≠i+1->c b=j b:=fun b a K=>by show ite _ _ _=_;rw[if_pos a,if_neg K]
 have e:∀b,g b≠0->c b=if g b=1 then i+1 else As.length+g b-1:=fun b a=>by
  have:¬(b<h.size/\¬q b):=fun o=>a (L b o);show ite _ _ _=_;rw[if_neg this,if_neg a]
 refine⟨E,y.then t fun b _ a=>w b a,c,fun b a=>?_,fun k r d=>?_⟩
 ·have:=G b a;rw[f b (w b a) (by omega)];exact this
 ·by_cases v:k<As.length
  ·rw[ql (by simpa using v),qW]at d;split at d
   ·rename_i m;subst m;injection d with d
    subst d;refine D.mono (u 0 D rfl) fun b a=>⟨a.1,?_⟩
    rw[e b (by omega),if_pos a.2]
   ·rename_i m;have n:∀b,b<h.size/\j b=k+1->b<h.size/\¬q b:=fun b a=>⟨a.1,fun o=>by have:=l b o;omega⟩
    refine r.mono (r.loc (z k r d) (t.mono fun b _ a=>n b a)) fun b a=>⟨qG a.1 t.1,?_⟩
    rw[f b (n b a) (by omega)];exact a.2
  ·rw[qh (by simpa using v)]at d;rw[qZ]at d;have I:=u (k-As.length+1) r (by simpa using d);refine r.mono I fun b a=>⟨a.1,?_⟩
   rw[e b (by omega),if_neg (by omega)];omega
end
section
variable {B:ap} {α:Type} {h0 h h':Heap} {As Bs:List HP} {A D:HP} {e k:Nat} {s:Sl} {f:α->aM} {l:List α}
theorem aa.off(H:aa B h0 h As)(i j:Nat)(n:i≠j)(m:As[i]?=some (ao e s k f l))(g:As[j]?=some A):A.p h (fun b=>b<h.size/\¬s.on b):=by
 obtain⟨_,_,c,_,a⟩:=H;refine A.mono (a j A g) fun b o=>⟨o.1,fun d=>?_⟩
 have:=(a i _ m).2 b d;omega
theorem aa.base(H:aa B h0 h As)(i:Nat)(g:As[i]?=some (ao e s k f l)){b:Nat}(j:B b):¬s.on b:=fun d=>by
 obtain⟨_,_,c,z,a⟩:=H;have:=(a i _ g).2 b d;have:=z b j;omega
theorem aa.UX(H:aa B h0 h (As++[D]))(i:Nat)(k:i<As.length):aa B h0 h (As.set i D):=
 H.pick (fun j=>if j<As.length then(if j=i then As.length else j)else j+1) (fun a b c=>by split at c<;>split at c<;>(try split at c)<;>(try split at c)<;>omega) fun j A e=>by
  have f:j<As.length:=by have:=(qk.1 e).1;simpa using this
  rw[if_pos f];rw[qW]at e;split at e
  ·rename_i d;subst d;rw[if_pos rfl,qh (qt _),q5];exact e
  ·rename_i d;rw[if_neg (fun g=>d g.symm),ql f];exact e
theorem aa.SN(H:aa B h0 h As)(i j:Nat){A2:HP}(n:As[i]?=some A)(m:As[j]?=some A2):aa B h0 h ((As.set i A2).set j A):=by
 have l:=(qk.1 n).1;have k:=(qk.1 m).1;refine H.pick (fun x=>if x=j then i else if x=i then j else x) (fun a b c=>by split at c<;>split at c<;>(try split at c)<;>(try split at c)<;>omega) fun x o d=>?_;rw[qW,qW]at d;by_cases f:j=x
 ·subst f;simp[k]at d;subst d;simpa using n
 ·by_cases g:i=x
  ·subst g;simp[f,l]at d;subst d;rw[if_neg (fun e=>f e.symm),if_pos rfl];exact m
  ·simp[f,g]at d;rw[if_neg (fun e=>f e.symm),if_neg (fun e=>g e.symm)];exact d
end
def bv{α:Type}(e k:Nat)(f:α->aM)(rs:List Sl)(a:List (List α)):List HP:=List.zipWith (fun r l=>ao e r k f l) rs a
section
variable {α:Type} {e k:Nat} {f:α->aM} {rs:List Sl} {ll:List (List α)}
theorem jh(h:rs.length=ll.length):(bv e k f rs ll).length=ll.length:=by simp[bv,h]
theorem fb(h:rs.length=ll.length)(i:Nat)(b:i<ll.length):(bv e k f rs ll)[i]?=some (ao e (rs[i]'(by omega)) k f ll[i]):=by
 have a:i<rs.length:=by omega
 simp[bv,wC,qd b,qd a]
theorem oI(h:rs.length=ll.length)(r:Sl)(l:List α):bv e k f (rs++[r]) (ll++[l])=bv e k f rs ll++[ao e r k f l]:=by
 unfold bv;rw[List.zipWith_append h];rfl
theorem ku(h:rs.length=ll.length)(i:Nat)(r:Sl)(l:List α):(bv e k f rs ll).set i (ao e r k f l)=bv e k f (rs.set i r) (ll.set i l):=by
 apply List.ext_getElem?;intro j;simp only[bv,qW,wC,List.length_zipWith];by_cases a:i=j
 ·subst a;by_cases b:i<ll.length
  ·have:i<rs.length:=by omega
   simp[b,this];omega
  ·have:¬i<rs.length:=by omega
   simp[b];omega
 ·simp[a]
theorem Ir(h:rs.length=ll.length)(i:Nat)(a:i<ll.length)(l:List α):(bv e k f rs ll).set i (ao e (rs[i]'(by omega)) k f l)=bv e k f rs (ll.set i l):=by
 rw[ku h,List.set_getElem_self]
theorem aa.Is{B:ap}{j h:Heap}{s:Sl}{b:Nat}(H:aa B j h (ao b s 1 cx rs::bv e k f rs ll))(c:rs.length=ll.length)(n:∀x,(f x).length=k):fC h s k f ll:=by
 refine⟨rs,H.seq 0 rfl (fun _=>rfl),c,fun i r l g a=>?_⟩;have d:i<ll.length:=(qk.1 a).1;have m:=fb (e:=e) (k:=k) (f:=f) c i d;have h3:=H.seq (i+1) (by simpa using m) n;have b:rs[i]'(by omega)=r:=by rw[qd (by omega)]at g;simpa using g
 have e2:ll[i]=l:=by rw[qd d]at a;simpa using a
 rw[b,e2]at h3;exact h3
end
section
variable {α:Type} {h:Heap} {p:ap} {s:Sl} {f:α->aM} {l:List α}
theorem Seq.lp{X:Type}{g:X->Value}(d:Seq h p s 1 f l){i:Int}(n:Nat)(k:i=n)(m:n<l.length)(x:X)(r:f l[n]=[g x]){K:Addr->X->Prop}(j:∀a:Addr,cellOf h (a.add (i.toNat*1))=some (g x)->K a x):
  ∃a:Addr,(s.ptr=some a/\0<=i/\i<((s.len:Nat):Int))/\∃x:X,cellOf h (a.add (i.toNat*1))=some (g x)/\K a x:=by
 subst k;obtain⟨b,o,q,_,h3⟩:=d.elem n l[n] (qd m);rw[r]at h3;have e:=h3.1;rw[add_eq,wH]at e;have c:cellOf h ((⟨b,o,none⟩:Addr).add ((n:Int).toNat*1))=some (g x):=by rw[add_eq];simpa using e
 exact⟨_,⟨q,by omega,by rw[d.len];omega⟩,x,c,j _ c⟩
end
theorem Seq.rv{h:Heap}{p:ap}{s:Sl}{rs:List Sl}(d:Seq h p s 1 cx rs){i:Int}(n:Nat)(j:i=n)(k:n<rs.length){K:Addr->Sl->Prop}
  (g:∀a:Addr,cellOf h (a.add (i.toNat*1))=some (.slice rs[n].ptr rs[n].len rs[n].cap)->p (a.add (i.toNat*1)).block->K a rs[n]):
  ∃a:Addr,(s.ptr=some a/\0<=i/\i<((s.len:Nat):Int))/\∃x:Sl,cellOf h (a.add (i.toNat*1))=some (.slice x.ptr x.len x.cap)/\K a x:=by
 subst j;obtain⟨b,o,l,f,h3⟩:=d.elem n rs[n] (qd k);have e:=h3.1;rw[add_eq,wH]at e;have c:cellOf h ((⟨b,o,none⟩:Addr).add ((n:Int).toNat*1))=some (.slice rs[n].ptr rs[n].len rs[n].cap):=by rw[add_eq];simpa using e
 exact⟨_,⟨l,by omega,by rw[d.len];omega⟩,rs[n],c,g _ c (by rw[add_eq];exact f)⟩
section
variable {B:ap} {α:Type} {h0 h:Heap} {As:List HP} {e k:Nat} {s:Sl} {f:α->aM} {l:List α}
theorem Own.cut(a:Own h e s k f l)(c:∀x,(f x).length=k)(j:Nat)(d:j<=l.length):Own h e ⟨s.ptr,j,s.cap⟩ k f (l.take j):=by
 have g:=a.len;refine⟨by simp;omega,?_⟩;rcases a.head with⟨h1,h2,h3⟩|⟨b,rest,h1,h2,h3,h4⟩
 ·subst h3;exact .inl ⟨h1,h2,by simp⟩
 ·refine .inr ⟨b,(l.drop j).flatMap f++rest,h1,?_,?_,by dsimp only;omega⟩
  ·rw[<-qm,<-q7,qy];exact h2
  ·rw[qp,cD c,qR,h3,<-Nat.add_mul];dsimp only;congr 1;omega
theorem aa.cut(H:aa B h0 h As)(i:Nat)(c:As[i]?=some (ao e s k f l))(d:∀x,(f x).length=k)(j:Nat)(b:j<=l.length):aa B h0 h (As.set i (ao e ⟨s.ptr,j,s.cap⟩ k f (l.take j))):=
 H.jo i c fun _ a=>⟨a.1.cut d j b,a.2⟩
end
section
variable {B:ap} {α:Type} {C:Ctx} {h0 h:Heap} {As:List HP} {e t k:Nat} {s:Sl} {f:α->aM} {l:List α} {ti:TI}
theorem Own.It(v:C.Ok)(p:Own h e s k f l)(r:∀x,(f x).length=k)(D:C.T.get t=some ti){x:Int}{q:Nat}(F:x=l.length)(u:l.length<s.cap)(n:q=s.cap){g:Value}(y:α)(w:g.cells=(f y).toArray)(o:ti.size=k)
  (j:(f y).all (·.oneCell')=true) {K:Heap->Prop} (B:∀h',Own h' e ⟨s.ptr,l.length+1,s.cap⟩ k f (l++[y])->aH (fun b=>¬s.on b) h h'->K h'):
  ∃a:Addr,(s.ptr=some a/\0<=x/\x<((q:Nat):Int))/\ae C.P (qe t (.pointer (some (a.add (x.toNat*k)))) g) h fun _ h'=>K h':=by
 subst F n;have d:=p.len;rcases p.head with⟨_,h2,h3⟩|⟨b,rest,h1,h2,h3,h4⟩
 ·omega
 ·refine⟨_,⟨h1,by omega,by omega⟩,?_⟩;unfold qe;refine ae.bind (ae.pure' ?_);unfold storeVar;refine ae.bind (ae.always (cz v.toOk D) ?_);rw[w,o];have i:=r y;simp only[z8,i,ne_eq,not_true,if_false];rw[add_eq,zU,qo];have m:=cD r l;have z:k<=rest.length:=by
   rw[h3,d];have:=ze k (show 1<=s.cap-l.length by omega);omega
  refine cN (e:=e) (pre:=l.flatMap f) (old:=rest.take k) (post:=rest.drop k) ?_ ?_ ?_ ?_ ?_
  ·rw[qm,qy];exact h2
  ·rw[i,qO];omega
  ·rw[m];omega
  ·intro c E;exact qT.1 j c E
  ·refine B _ ⟨by simp,.inr ⟨b,rest.drop k,h1,?_,?_,by dsimp only;omega⟩⟩ (aH.fG h2 (fun A=>A ⟨0,h1⟩))
   ·rw[eG h2,if_pos rfl];simp
   ·rw[qR,h3,d];dsimp only;rw[Nat.sub_add_eq,Nat.sub_mul (s.cap-l.length) 1 k,Nat.one_mul]
theorem aa.It(A:C.Ok)(H:aa B h0 h As)(i:Nat)(u:As[i]?=some (ao e s k f l))(F:∀x,(f x).length=k)(v:C.T.get t=some ti){x:Int}{r:Nat}(G:x=l.length)(g:l.length<s.cap)(p:r=s.cap){c:Value}(y:α)(D:c.cells=(f y).toArray)(q:ti.size=k)
  (d:(f y).all (·.oneCell')=true) {K:Heap->Prop} (E:∀h',aa B h0 h' (As.set i (ao e ⟨s.ptr,l.length+1,s.cap⟩ k f (l++[y])))->K h'):
  ∃a:Addr,(s.ptr=some a/\0<=x/\x<((r:Nat):Int))/\ae C.P (qe t (.pointer (some (a.add (x.toNat*k)))) c) h fun _ h'=>K h':=
 (H.own i u).It A F v G g p y D q d fun h' z w=>E h' (H.step i u fun _ o n=>⟨w.mono fun b _ j m=>j (o.2 b m),z,fun b j=>⟨qG (n b (o.2 b j)) w.1,.inl (o.2 b j)⟩⟩)
end
section
variable {C:Ctx} {t t2 ty e k:Nat} {z:aM} {by_:Nat} {α:Type} {h h0:Heap} {p B:ap} {s v:Sl} {f:α->aM} {l l2:List α} {As:List HP}
theorem Own.Dj(E:C.Ok)(D:bP C.torQ t e k z by_)(B:∀x,(f x).length=k)(o:Own h e s k f l)(F:Seq h p v k f l2)(d:∀x,∀c∈f x,c.oneCell'=true){K:Int->Heap->Prop}
  (w:∀n h',Own h' e s k f (l2.take l.length++l.drop l2.length)->aH (fun b=>¬s.on b) h h'->K n h'):
  aw C.P (wq #[t,t2] ty #[.slice s.ptr s.len s.cap,.slice v.ptr v.len v.cap]) (.one (.sc (.int .i64))) h K:=by
 unfold aw wq;simp only[zB,wU,qw];refine ae.bind (ae.always (aE (D.under E)) ?_);refine ae.bind (ae.pure' ?_);refine ae.bind (ae.always (D.size E) ?_);have a:=o.len;have g:=F.len;obtain⟨m,i⟩:∃m,m=Nat.min v.len s.len:=⟨_,rfl⟩
 rw[<-i];have u:m<=l2.length:=by rw[i,<-g];exact Nat.min_le_left _ _
 have r:m<=l.length:=by rw[i,<-a];exact Nat.min_le_right _ _
 have H:m=min l2.length l.length:=by rw[i,a,g]
 have j:=F.take m u;have G:l2.take l.length++l.drop l2.length=l2.take m++l.drop m:=by
  rcases Nat.le_total l2.length l.length with hh|hh
  ·rw[List.take_of_length_le hh,show m=l2.length by omega,List.take_length]
  ·rw[show m=l.length by omega,q9 hh,List.drop_length]
 rw[G]at w;have A:wg k m (.slice v.ptr v.len v.cap)=wg k m (.slice v.ptr m v.cap):=by cases v.ptr<;>rfl
 rw[A];refine ae.bind (eJ (v:=⟨v.ptr,m,v.cap⟩) B j ?_);rcases o.head with⟨h1,h2,h3⟩|⟨b,rest,h1,h2,h3,h4⟩
 ·rw[h1];subst h3;have:m=0:=by simpa using r
  subst this;refine ae.pure' ⟨_,rfl,w _ h ?_ (aH.refl _ _)⟩;simpa using o
 ·rw[h1];refine ae.bind ?_;have y:l.flatMap f++rest=(l.take m).flatMap f++((l.drop m).flatMap f++rest):=by
   rw[<-qm,<-q7,qy]
  rw[y]at h2;refine cN (e:=e) (pre:=[]) (old:=(l.take m).flatMap f) (post:=(l.drop m).flatMap f++rest) (by simpa using h2) (by rw[cD B,cD B,qO,qO];congr 1;omega) rfl ?_ ?_
  ·intro c J;obtain⟨x,_,q⟩:=zZ.1 J;exact d x c q
  ·refine ae.pure' ⟨_,rfl,w _ _ ⟨by rw[a,qp,qO,qR];omega,.inr ⟨b,rest,h1,?_,h3,h4⟩⟩ (aH.fG h2 (fun I=>I ⟨0,h1⟩))⟩;rw[eG h2,if_pos rfl,q7];simp
theorem aa.Dj(o:C.Ok)(H:aa B h0 h As)(i:Nat)(b:As[i]?=some (ao e s k f l))(d:bP C.torQ t e k z by_)(g:∀x,(f x).length=k)(j:Seq h p v k f l2)(a:∀x,∀c∈f x,c.oneCell'=true){K:Int->Heap->Prop}
  (m:∀n h',aa B h0 h' (As.set i (ao e s k f (l2.take l.length++l.drop l2.length)))->K n h'):
  aw C.P (wq #[t,t2] ty #[.slice s.ptr s.len s.cap,.slice v.ptr v.len v.cap]) (.one (.sc (.int .i64))) h K:=
 (H.own i b).Dj o d g j a fun n h' x y=>m n h' (H.jg i b y x)
end
def Fi(d:Sl)(w i:Nat):Sl:=⟨if d.cap=i*w then d.ptr else d.ptr.map (·.add (i*w*1)),(i+1)*w-i*w,d.cap-i*w⟩
def xc{α:Type}(l:List α)(w i:Nat):List α:=(l.drop (i*w)).take w
theorem Seq.piece{α:Type}{h:Heap}{p:ap}{s:Sl}{f:α->aM}{l:List α}(b:Seq h p s 1 f l)(d:s.len<=s.cap)(w i:Nat)(g:(i+1)*w<=l.length):Seq h p (Fi s w i) 1 f (xc l w i):=by
 have c:=b.drop (i*w) d;have e:(i+1)*w=i*w+w:=zy i w;have a:=c.take w (by rw[qR];omega);have e2:(i+1)*w-i*w=w:=by omega
 unfold Fi xc;rw[e2];exact a
theorem TU{α:Type}{l:List α}{w i:Nat}(a:(i+1)*w<=l.length):(xc l w i).length=w:=by
 have e:(i+1)*w=i*w+w:=zy i w;simp only[xc,qO,qR];omega
def HP.sep(A D:HP):HP:=
 ⟨fun h q=>∃g f:ap,(∀b,g b->¬f b)/\(∀b,g b->q b)/\(∀b,f b->q b)/\A.p h g/\D.p h f,
  fun⟨g,f,a,b,c,d,e⟩ hp=>⟨g,f,a,b,c,A.loc d (hp.mono fun x _ i=>b x i),D.loc e (hp.mono fun x _ i=>c x i)⟩,
  fun⟨g,f,a,b,c,d,e⟩ hq=>⟨g,f,a,fun x i=>hq x (b x i),fun x i=>hq x (c x i),d,e⟩⟩
def HP.ex{ι:Type}(F:ι->HP):HP:=⟨fun h q=>∃i,(F i).p h q,fun⟨i,a⟩ hp=>⟨i,(F i).loc a hp⟩,fun⟨i,a⟩ hq=>⟨i,(F i).mono a hq⟩⟩
def HP.pure(P:Prop):HP:=⟨fun _ _=>P,fun a _=>a,fun a _=>a⟩
def HP.and(A:HP)(P:Prop):HP:=⟨fun h q=>A.p h q/\P,fun a c=>⟨A.loc a.1 c,a.2⟩,fun a b=>⟨A.mono a.1 b,a.2⟩⟩
section
variable {B:ap} {h0 h h':Heap} {As Bs:List HP} {A D E:HP} {i j:Nat}
theorem aa.split(H:aa B h0 h As)(i:Nat)(o:As[i]?=some (A.sep D)):aa B h0 h (As.set i A++[D]):=by
 classical
 obtain⟨v,p,c,z,a⟩:=H;obtain⟨x,u,r,n,m,s,q⟩:=a i _ o;have t:=(qk.1 o).1;refine⟨v,p,fun b=>if u b then As.length+1 else c b,fun b e=>?_,fun j X d=>?_⟩
 ·have w:=z b e;dsimp only;rw[if_neg];exact w;intro l;have:=(m b l).2;omega
 ·by_cases k:j<As.length
  ·rw[ql (by simpa using k),qW]at d;split at d
   ·rename_i f;subst f
    first|rw[if_pos k]at d|skip
    injection d with d
    subst d;refine A.mono s fun b e=>⟨(n b e).1,?_⟩
    dsimp only;rw[if_neg (r b e)];exact(n b e).2
   ·rename_i f;refine X.mono (a j X d) fun b e=>⟨e.1,?_⟩
    dsimp only;rw[if_neg];exact e.2;intro l;have:=(m b l).2;omega
  ·rw[qh (by simpa using k)]at d;rw[qZ]at d;have g:j=As.length:=by
    have:=(qk.1 d).1;simp at this;omega
   subst g;simp at d;subst d;refine D.mono q fun b e=>⟨(m b e).1,?_⟩
   dsimp only;rw[if_pos e]
theorem aa.join(H:aa B h0 h As)(i j:Nat)(a:i≠j)(k:As[i]?=some A)(c:As[j]?=some D):aa B h0 h ((As.set i (A.sep D)).set j emp):=
 H.merge i j a k c fun f e g l d=>⟨f,e,g,fun _ b=>.inl b,fun _ b=>.inr b,l,d⟩
theorem aa.SO{ι:Type}{F:ι->HP}(H:aa B h0 h As)(i:Nat)(f:As[i]?=some (HP.ex F)):∃x,aa B h0 h (As.set i (F x)):=by
 obtain⟨e,p,c,z,a⟩:=H;obtain⟨x,g⟩:=a i _ f;refine⟨x,e,p,c,z,fun j X b=>?_⟩;rw[qW]at b;split at b
 ·rename_i d;subst d;split at b
  ·injection b with b;subst b;exact g
  ·cases b
 ·exact a j X b
theorem aa.close'{ι:Type}{F:ι->HP}(H:aa B h0 h As)(i:Nat)(x:ι)(b:As[i]?=some (F x)):aa B h0 h (As.set i (HP.ex F)):=H.jo i b fun _ a=>⟨x,a⟩
theorem aa.fact{P:Prop}(H:aa B h0 h As)(i:Nat)(a:As[i]?=some (A.and P)):P:=(H.at i a).2
theorem aa.We{P:Prop}(H:aa B h0 h As)(i:Nat)(b:As[i]?=some (A.and P)):aa B h0 h (As.set i A):=H.jo i b fun _ a=>a.1
theorem aa.Wf{P:Prop}(H:aa B h0 h As)(i:Nat)(c:As[i]?=some A)(b:P):aa B h0 h (As.set i (A.and P)):=H.jo i c fun _ a=>⟨a,b⟩
theorem aa.cons(H:aa B h0 h As)(i:Nat)(g:As[i]?=some A):aa B h0 h (A::As.set i emp):=by
 obtain⟨k,p,c,z,a⟩:=H;have l:=(qk.1 g).1;refine⟨k,p,fun b=>if c b=i+1 then 1 else if c b=0 then 0 else c b+1,fun b e=>?_,fun j X d=>?_⟩
 ·have:=z b e;dsimp only;rw[if_neg (by omega),if_pos this]
 ·cases j with
  |zero=>
   simp at d;subst d;refine A.mono (a i A g) fun b e=>⟨e.1,by dsimp only;rw[if_pos e.2]⟩
  |succ j=>
   rw[qw,qW]at d;split at d
   ·rename_i f;injection d with d;subst d;trivial
   ·rename_i f;refine X.mono (a j X d) fun b e=>⟨e.1,by dsimp only;rw[if_neg (by omega),if_neg (by omega)];omega⟩
theorem aa.rest(H:aa B h0 h (A::As)):aa B h0 h As:=H.pick (fun j=>j+1) (fun a b h=>by omega) fun j X c=>by simpa using c
end
structure ja (α β:Type) where
 p:Heap->ap->α->β->Prop
 loc:∀{h h':Heap} {q:ap} {a:α} {b:β},p h q a b->aH q h h'->p h' q a b
 mono:∀{h:Heap} {q q':ap} {a:α} {b:β},p h q a b->(∀x,q x->q' x)->p h q' a b
def xd{α:Type}(k:Nat)(f:α->aM):ja Sl (List α):=⟨fun h q s l=>Seq h q s k f l,fun a c=>a.ag c,fun a b=>a.mono b⟩
def WC{α:Type}(k:Nat)(f:α->aM):ja Sl (List α):=⟨fun h q s l=>Seq h q s k f l/\(l=[]->s.ptr=none),fun a c=>⟨a.1.ag c,a.2⟩,fun a b=>⟨a.1.mono b,a.2⟩⟩
def cP{α β:Type}(E:ja α β)(k:Nat)(f:α->aM):ja Sl (List β):=
 ⟨fun h q s ll=>∃rs:List α,Seq h q s k f rs/\rs.length=ll.length/\∀(i:Nat) r l,rs[i]?=some r->ll[i]?=some l->E.p h q r l,
  fun⟨rs,a,b,c⟩ hp=>⟨rs,a.ag hp,b,fun i r l e d=>E.loc (c i r l e d) hp⟩,fun⟨rs,a,b,c⟩ hq=>⟨rs,a.mono hq,b,fun i r l e d=>E.mono (c i r l e d) hq⟩⟩
def EA{α β:Type}(E:ja α β)(a:α)(b:β):HP:=⟨fun h q=>E.p h q a b,fun x d=>E.loc x d,fun x c=>E.mono x c⟩
abbrev js{α β:Type}(E:ja α β)(h:Heap)(a:α)(b:β):Prop:=E.p h (fun b=>b<h.size) a b
def lq{α β:Type}(e:TypeId)(s:Sl)(k:Nat)(f:α->aM)(E:ja α β)(m:List β):HP:=
 ⟨fun h q=>∃(rs:List α) (j:ap),Own h e s k f rs/\(∀b,s.on b->q b/\¬j b)/\(∀b,j b->q b)/\rs.length=m.length/\∀(i:Nat) r l,rs[i]?=some r->m[i]?=some l->E.p h j r l,
  fun⟨rs,j,a,b,c,d,e⟩ hp=>⟨rs,j,a.ag hp fun x g=>(b x g).1,b,c,d,fun i r l o n=>E.loc (e i r l o n) (hp.mono fun x _ g=>c x g)⟩,
  fun⟨rs,j,a,b,c,d,e⟩ hq=>⟨rs,j,a,fun x g=>⟨hq x (b x g).1,(b x g).2⟩,fun x g=>hq x (c x g),d,e⟩⟩
section
variable {α β:Type} {E:ja α β} {k:Nat} {f:α->aM} {h h':Heap} {q:ap} {s:Sl} {ll:List β} {a:α} {b:β}
theorem js.up(x:js E h a b)(c:aH (fun b=>b<h.size) h h'):js E h' a b:=E.mono (E.loc x c) fun _ d=>qG d c.1
theorem cP.Dk(x:(cP E k f).p h q s ll):∃rs:List α,Seq h q s k f rs/\rs.length=ll.length/\∀(i:Nat) (e:i<rs.length) (d:i<ll.length),E.p h q rs[i] ll[i]:=by
 obtain⟨rs,a,b,c⟩:=x;exact⟨rs,a,b,fun i e d=>c i _ _ (qd e) (qd d)⟩
theorem cP.len(x:(cP E k f).p h q s ll):s.len=ll.length:=by obtain⟨rs,a,b,c⟩:=x;rw[a.len,b]
theorem cP.nil(h:Heap)(q:ap)(a:aK)(c:Nat):(cP E k f).p h q ⟨a,0,c⟩ []:=⟨[],Seq.nil h q c a k f,rfl,fun i r l b=>by simp at b⟩
theorem cP.take(x:(cP E k f).p h q s ll)(n:Nat)(j:n<=ll.length):(cP E k f).p h q ⟨s.ptr,n,s.cap⟩ (ll.take n):=by
 obtain⟨rs,a,b,c⟩:=x;refine⟨rs.take n,a.take n (by omega),by simp[b],fun i r l d e=>?_⟩;rw[yv]at d e;split at d
 ·rename_i g;rw[if_pos g]at e;exact c i r l d e
 ·cases d
theorem cP.drop(x:(cP E k f).p h q s ll)(n:Nat)(g:s.len<=s.cap):(cP E k f).p h q ⟨if s.cap=n then s.ptr else s.ptr.map (·.add (n*k)),s.len-n,s.cap-n⟩ (ll.drop n):=by
 obtain⟨rs,a,b,c⟩:=x;refine⟨rs.drop n,a.drop n g,by simp[b],fun i r l e d=>?_⟩;rw[wh]at e d;exact c _ r l e d
theorem cP.get{X:Type}{g:X->Value}(x:(cP E 1 f).p h q s ll){i:Int}(n:Nat)(b:i=n)(d:n<ll.length)(u:α->X)(j:∀r,f r=[g (u r)]){K:X->Prop}(e:∀r,E.p h q r ll[n]->K (u r)):
  ∃a:Addr,(s.ptr=some a/\0<=i/\i<((s.len:Nat):Int))/\∃x:X,cellOf h (a.add (i.toNat*1))=some (g x)/\K x:=by
 obtain⟨rs,c,k,h3⟩:=cP.Dk x;exact c.cA n b (by omega) (u (rs[n]'(by omega))) (j _) (e _ (h3 n (by omega) d))
theorem cP.rv{E:ja Sl β}(x:(cP E 1 cx).p h q s ll){i:Int}(n:Nat)(b:i=n)(c:n<ll.length){K:Sl->Prop}(d:∀r,E.p h q r ll[n]->K r):
  ∃a:Addr,(s.ptr=some a/\0<=i/\i<((s.len:Nat):Int))/\∃x:Sl,cellOf h (a.add (i.toNat*1))=some (.slice x.ptr x.len x.cap)/\K x:=
 cP.get (g:=fun r:Sl=>Value.slice r.ptr r.len r.cap) x n b c id (fun _=>rfl) d
end
section
variable {α β:Type} {E:ja α β} {C:Ctx} {k e t:Nat} {f:α->aM} {B:ap} {h0 h h':Heap} {As:List HP} {s:Sl} {ll:List β} {z:aM} {by_:Nat}
theorem aa.WD(H:aa B h0 h As)(e k:Nat)(f:α->aM)(E:ja α β):aa B h0 h (As++[lq e ⟨none,0,0⟩ k f E []]):=
 H.comp (.one (aH.refl _ _) ⟨[],fun _=>False,Own.nil h e k f,fun b a=>(by obtain⟨o,a⟩:=a;cases a),fun _ a=>a.elim,rfl,fun i r l h=>by simp at h⟩)
theorem aa.Wx{a:α}{b:β}(H:aa B h0 h As)(i:Nat)(c:As[i]?=some (EA E a b)):js E h a b:=H.at i c
theorem aa.Wg(hC:C.Ok)(H:aa B h0 h As)(i j:Nat)(G:i≠j){a:α}{b:β}(Z:As[i]?=some (lq e s k f E ll))(hj:As[j]?=some (EA E a b))(he:bP C.torQ t e k z by_)(hz:z.length=k)(U:0<by_/\by_<=128)(hw:∀x,(f x).length=k)
  (R:∀x,∀c∈f x,c.oneCell'=true) {parts:Array (Nat×Value)} (L:wc (fun i=>some (i*k,k)) (fU z 1).toArray parts.toList=some ([a].flatMap f).toArray) (X:1*k<=2^20)
  (ad:ll.length+1<=2^32) {ty:Nat} {K:Sl->Heap->Prop} (hk:∀T h',aa B h0 h' ((As.set j emp).set i (lq e T k f E (ll++[b])))->K T h'):
  aw C.P (qu t 1 parts) (.one (.sc .slc)) h fun v y=>aw C.P (qx #[t,t] ty #[.slice s.ptr s.len s.cap,.slice v.ptr v.len v.cap]) (.one (.sc .slc)) y K:=by
 have H2:=H.merge i j G Z hj (D:=⟨fun h q=>∃(rs:List α) (g:ap),Own h e s k f rs/\(∀b,s.on b->q b/\¬g b)/\(∀b,g b->q b)/\rs.length=ll.length/\(∀(i:Nat) r l,rs[i]?=some r->ll[i]?=some l->E.p h g r l)/\E.p h g a b,
  fun⟨rs,g,a,b,c,d,e,f⟩ hp=>⟨rs,g,a.ag hp fun x n=>(b x n).1,b,c,d,fun i r l y F=>E.loc (e i r l y F) (hp.mono fun x _ n=>c x n),E.loc f (hp.mono fun x _ n=>c x n)⟩,
  fun⟨rs,g,a,b,c,d,e,f⟩ hq=>⟨rs,g,a,fun x n=>⟨hq x (b x n).1,(b x n).2⟩,fun x n=>hq x (c x n),d,e,f⟩⟩)
  (fun g q2 hd hA hB=>by
   obtain⟨rs,q3,a,b,c,d,e'⟩:=hA;refine⟨rs,fun b=>q3 b∨q2 b,a,fun x n=>⟨.inl (b x n).1,fun Q=>Q.elim (b x n).2 (hd x (b x n).1)⟩,fun x n=>n.elim (fun h=>.inl (c x h)) .inr,d,fun i r l y F=>E.mono (e' i r l y F) fun _ h=>.inl h,E.mono hB fun _ h=>.inr h⟩)
 have w:i<As.length:=(qk.1 Z).1;obtain⟨lo,pp,c,zz,ax⟩:=H2;have ha:=ax i _ (by rw[zG (Ne.symm G),zH w]);obtain⟨rs,g,a1,a2,a3,a4,a5,a6⟩:=ha;let Y:Nat->Nat:=fun b=> @ite _ (g b) (Classical.propDecidable _) (As.length+2) (c b);have J:∀b,g b->b<h.size/\c b=i+1:=a3;have ho:fV h Y (i+1) e s k f rs:=⟨a1,fun b m=>by
  have:=a2 b m;show @ite _ (g b) (Classical.propDecidable _) _ _=_;rw[if_neg this.2];exact this.1.2⟩
 refine ho.push hC he hz U hw R a L X (by omega) fun T h' I M=>hk T h' ?_;rw[vE _ _ (Ne.symm G)];rw[<-vI (l:=As) (i:=i),vE _ _ G];have N:∀b,g b->Y b≠i+1:=fun b m=>by
  show @ite _ (g b) (Classical.propDecidable _) _ _≠_;rw[if_pos m];omega
 refine aa.AG lo pp zz ax (M.mono fun b m hn hc=>hn ⟨m,?_⟩) ⟨rs++[a],fun b=>g b/\b<h.size,I.own,fun b m=>?_,fun b m=>⟨qG m.2 M.1,.inl ⟨m.2,(J b m.1).2⟩⟩,by simp[a4],fun W r' l' y F=>?_⟩
 ·by_cases A:g b
  ·exact(J b A).2
  ·have u:@ite _ (g b) (Classical.propDecidable _) (As.length+2) (c b)=i+1:=hc;rw[if_neg A]at u;exact u
 ·have o:=I.bp b m;by_cases w:b<h.size
  ·rw[dF w]at o;have S:¬g b:=fun A=>N b A o;have u:@ite _ (g b) (Classical.propDecidable _) (As.length+2) (c b)=i+1:=o;rw[if_neg S]at u;exact⟨⟨I.own.lt m,.inl ⟨w,u⟩⟩,fun Q=>S Q.1⟩
  ·exact⟨⟨I.own.lt m,.inr (by omega)⟩,fun Q=>w Q.2⟩
 ·have O:∀{rr:α} {l:β},E.p h g rr l->E.p h' (fun b=>g b/\b<h.size) rr l:=fun hs=>
   E.loc (E.mono hs (q':=fun b=>g b/\b<h.size) fun b m=>⟨m,(J b m).1⟩) (M.mono fun b _ m=>N b m.1)
  by_cases V:W<rs.length
  ·rw[ql V]at y;rw[ql (by omega)]at F;exact O (a5 W r' l' y F)
  ·have:W=rs.length:=by
    have:=(qk.1 y).1;simp at this;omega
   subst this;simp at y;rw[a4]at F;simp at F;subst y;subst F;exact O a6
end
section
variable {α β:Type} {E:ja α β} {k e:Nat} {f:α->aM} {B:ap} {h0 h:Heap} {As:List HP} {s:Sl}
end
section
variable {α:Type} {B:ap} {h0 h:Heap} {As:List HP} {e e2 k:Nat} {s:Sl} {f:α->aM} {rs:List Sl} {ll:List (List α)}
end
theorem FZ{h a:Heap}{p:ap}(b:aH p h a):∀{L:ar},L.ok h->(∀x∈L,p x.1.block)->L.ok a
 |[],_,_=>trivial
 |x::L,hk,hq=>⟨b.cell (hq x (by simp)) hk.1,FZ b hk.2 fun y c=>hq y (by simp[c])⟩
theorem go{h d:Heap}(e:aH (fun b=>b<h.size) h d){L:ar}(c:L.ok h):L.ok d:=FZ e c (by
 clear e
 induction L with
 |nil=>intro x a;cases a
 |cons y L ih=>
  intro x a;rcases List.mem_cons.1 a with rfl|a
  ·exact lt_of_cell c.1
  ·exact ih c.2 x a)
theorem aw.both{P:Program}{s:Sem Value}{h:Heap}{K:Sl->Heap->Prop}{Q:Heap->Prop}(i:aw P s (.one (.sc .slc)) h fun _ h'=>Q h')(e:aw P s (.one (.sc .slc)) h K):aw P s (.one (.sc .slc)) h fun x h'=>Q h'/\K x h':=by
 intro w c;obtain⟨l,o,b,d,m,a3,a4⟩:=i w c;obtain⟨n,j,a,k,x2,g,f⟩:=e w c;rw[b]at a;cases a;exact⟨_,_,b,d,x2,g,a4,f⟩
theorem aa.rT{α:Type}{B:ap}{C:Ctx}{m h:Heap}{As:List HP}{e t k d:Nat}{z:aM}{K:Sl->Heap->Prop}(j:C.Ok)(H:aa B m h As)(f:α->aM)(g:bP C.torQ t e k z d)(c:z.length=k){n:Nat}{parts:Array (Nat×Value)}(l:List α)(r:l.length=n)(b:n*k<=2^20)
  (a:wc (fun i=>some (i*k,k)) (fU z n).toArray parts.toList=some (l.flatMap f).toArray) {L:ar} (q:L.ok h) (p:aw C.P (qu t n parts) (.one (.sc .slc)) h K):
  aw C.P (qu t n parts) (.one (.sc .slc)) h fun x h'=>L.ok h'/\K x h':=
 aw.both ((Sp.refl h).lit j f g c l r b a fun _ _ o=>go o.ag q) p
section
variable {B:ap} {h0 h h':Heap} {As Bs:List HP} {A D E:HP} {i j:Nat}
theorem aa.front(H:aa B h0 h (As++Bs)):aa B h0 h (Bs++As):=
 H.pick (fun j=>if j<Bs.length then As.length+j else if j<Bs.length+As.length then j-Bs.length else j)
  (fun a b c=>by(try dsimp only at c);split at c<;>split at c<;>(try split at c)<;>(try split at c)<;>omega) fun j X d=>by
  try dsimp only
  split
  ·rename_i e;rw[ql e]at d;rw[qh (by omega),zd];exact d
  ·rename_i e;rw[qh (by omega)]at d;have:=(qk.1 d).1;rw[if_pos (by omega),ql this];exact d
theorem aa.cn(H:aa B h0 h (As++[A])):aa B h0 h (A::As):=H.front
theorem aa.cQ(H:aa B h0 h As)(R:Sp h h' [A]):aa B h0 h' (A::As):=(H.comp R).cn
theorem aa.AH(H:aa B h0 h (A::D::As)):aa B h0 h (A::As):=H.del 1
theorem aa.ta{ι:Type}{F:ι->HP}(H:aa B h0 h (HP.ex F::As)):∃x,aa B h0 h (F x::As):=H.SO 0 rfl
theorem aa.Dl{ι:Type}{F:ι->HP}(x:ι)(H:aa B h0 h (F x::As)):aa B h0 h (HP.ex F::As):=H.close' 0 x rfl
theorem aa.xf(H:aa B h0 h (A.sep D::As)):aa B h0 h (D::A::As):=(H.split 0 rfl).cn
theorem aa.nY(H:aa B h0 h (D::A::As)):aa B h0 h (A.sep D::As):=by
 have a:aa B h0 h (emp::A.sep D::As):=H.join 1 0 (by decide) rfl rfl;exact a.rest
theorem aa.Ov(H:aa B h0 h (A::D::As)):aa B h0 h (D::A::As):=H.SN 0 1 rfl rfl
end
theorem Seq.QZ{h:Heap}{p:ap}{s:Sl}{rs:List Sl}(e:Seq h p s 1 cx rs){i:Int}(n:Nat)(c:i=n)(d:n<rs.length){K:Sl->Prop}(b:K rs[n]):
  ∃a:Addr,(s.ptr=some a/\0<=i/\i<((s.len:Nat):Int))/\∃x:Sl,cellOf h (a.add (i.toNat*1))=some (.slice x.ptr x.len x.cap)/\K x:=
 e.cA (g:=fun r:Sl=>Value.slice r.ptr r.len r.cap) n c d rs[n] rfl b
def St(B:ap)(a:Heap)(As:List HP)(Q:Heap->Prop):Prop:=∀(Bs:List HP) (h':Heap),aa B a h' (Bs++As)->Q h'
section
variable {B:ap} {h0 h h':Heap} {As Bs:List HP} {A:HP} {Q:Heap->Prop}
theorem St.at(x:St B h0 As Q)(Bs:List HP)(H:aa B h0 h (Bs++As)):Q h:=x Bs h H
theorem St.base(b:Q h0)(a:∀h',aH B h0 h'->Q h'):St B h0 As Q:=fun _ _ H=>a _ H.ag
theorem St.il(j:Nat)(a:As[j]?=some A)(c:∀h',A.p h' (fun b=>b<h'.size)->Q h'):St B h0 As Q:=fun Bs h' H=>c _ (H.at (Bs.length+j) (by rw[qh (by omega),zd];exact a))
theorem St.cons(x:St B h0 As Q):St B h0 (A::As) Q:=fun Bs h' H=>x (Bs++[A]) h' (by rw[qm];exact H)
end
section
variable {β:Type} {E:ja Sl β} {h:Heap} {q:ap} {s:Sl} {ll:List β}
theorem cP.pick(x:(cP E 1 cx).p h q s ll)(n:Nat)(j:n<ll.length){a:Addr}{r:Sl}(g:s.ptr=some a)(l:cellOf h (a.add (n*1))=some (.slice r.ptr r.len r.cap)):E.p h q r ll[n]:=by
 obtain⟨rs,k,u,h3⟩:=cP.Dk x;obtain⟨b,o,d,e2,i⟩:=k.elem n (rs[n]'(by omega)) (qd (by omega));rw[g]at d;injection d with d
 subst d;have f:=i.1;rw[add_eq,wH]at f;have c:cellOf h ((⟨b,o,none⟩:Addr).add (n*1))=some (.slice (rs[n]'(by omega)).ptr (rs[n]'(by omega)).len (rs[n]'(by omega)).cap):=by rw[add_eq];exact f
 rw[l]at c;have e:=h3 n (by omega) j;generalize rs[n]'(by omega)=r' at c e;obtain⟨y,t,v⟩:=r;obtain⟨w,l2,m⟩:=r';simp at c;obtain⟨rfl,rfl,rfl⟩:=c;exact e
end
theorem xg{α:Type}{l:List α}(f:l.Nodup){a b:Nat}(c:a<l.length)(e:b<l.length)(h:l[a]=l[b]):a=b:=by
 have d:=List.pairwise_iff_getElem.1 f;rcases Nat.lt_trichotomy a b with hlt|he|hgt
 ·exact absurd h (d a b c e hlt)
 ·exact he
 ·exact absurd h.symm (d b a e c hgt)
theorem aa.cL{B:ap}{k h:Heap}{As:List HP}(H:aa B k h As)(L:List Nat)(g:∀j∈L,j<As.length:=by simp)(m:L.Nodup:=by decide):aa B k h (L.map fun j=>As.getD j emp):=by
 refine H.pick (fun i=>if h:i<L.length then L[i]else As.length+i) (fun a b c=>?_) fun i A2 e=>?_
 ·try dsimp only at c
  split at c<;>split at c
  ·exact xg m _ _ c
  ·have:=g _ (qn (l:=L) (n:=a) (by assumption));omega
  ·have:=g _ (qn (l:=L) (n:=b) (by assumption));omega
  ·omega
 ·try dsimp only
  rw[qN]at e;split
  ·rename_i d;rw[qd d]at e;have f:=g _ (qn d);simp only[qK,wL.injEq]at e;rw[<-e,qg,qd f];rfl
  ·rename_i d;rw[qX (by omega)]at e;simp at e
theorem St.mk'{B:ap}{a:Heap}{As:List HP}{Q:Heap->Prop}(x:∀h',aa B a h' As->Q h'):St B a As Q:=fun Bs h' H=>x h' (H.take Bs.length fun i A b=>by
 rw[qh (by omega),zd];exact b)
theorem St.mono{B:ap}{a:Heap}{As:List HP}{Q b:Heap->Prop}(x:St B a As Q)(c:∀h,Q h->b h):St B a As b:=fun Bs h' H=>c _ (x Bs h' H)
theorem St.and{B:ap}{a:Heap}{As:List HP}{Q b:Heap->Prop}(x:St B a As Q)(y:St B a As b):St B a As fun h=>Q h/\b h:=fun Bs h' H=>⟨x Bs h' H,y Bs h' H⟩
theorem aa.bh{B:ap}{m h:Heap}{As:List HP}(H:aa B m h As)(k:Nat)(L:List Nat)(p:k<=As.length:=by simp)(f:∀j∈L,j<k:=by simp)(o:L.Nodup:=by decide):aa B m h (L.map (fun j=>As.getD j emp)++As.drop k):=by
 refine H.pick (fun i=>if h:i<L.length then L[i]else k+(i-L.length)) (fun a b d=>?_) fun i A2 e=>?_
 ·try dsimp only at d
  split at d<;>split at d
  ·exact xg o _ _ d
  ·have:=f _ (qn (l:=L) (n:=a) (by assumption));omega
  ·have:=f _ (qn (l:=L) (n:=b) (by assumption));omega
  ·omega
 ·try dsimp only
  by_cases c:i<L.length
  ·rw[dif_pos c];rw[ql (by simpa using c),qN,qd c]at e;have g:=f _ (qn c);simp only[qK,wL.injEq]at e;rw[<-e,qg,qd (by omega)];rfl
  ·rw[dif_neg c];rw[qh (by simpa using c),List.length_map,wh]at e;exact e
section
variable {α β:Type} {E:ja α β} {C:Ctx} {k e t by_:Nat} {f:α->aM} {B:ap} {h0 h h':Heap} {As:List HP} {q:ap} {s:Sl} {rs:List α} {ll:List β} {ti:TI} {z:aM}
def Fix(E:ja α β)(k:Nat)(f:α->aM)(h:Heap)(q:ap)(s:Sl)(rs:List α)(a:List β):Prop:=Seq h q s k f rs/\rs.length=a.length/\∀(i:Nat) r l,rs[i]?=some r->a[i]?=some l->E.p h q r l
theorem Fix.ag(x:Fix E k f h q s rs ll)(a:aH q h h'):Fix E k f h' q s rs ll:=⟨x.1.ag a,x.2.1,fun i r l c b=>E.loc (x.2.2 i r l c b) a⟩
theorem Fix.mono{q':ap}(x:Fix E k f h q s rs ll)(a:∀b,q b->q' b):Fix E k f h q' s rs ll:=⟨x.1.mono a,x.2.1,fun i r l d c=>E.mono (x.2.2 i r l d c) a⟩
abbrev mb(E:ja α β)(k:Nat)(f:α->aM)(h:Heap)(s:Sl)(rs:List α)(a:List β):Prop:=Fix E k f h (fun b=>b<h.size) s rs a
theorem mb.up(x:mb E k f h s rs ll)(a:aH (fun b=>b<h.size) h h'):mb E k f h' s rs ll:=(Fix.ag x a).mono fun _ c=>qG c a.1
theorem Fix.row(x:Fix E k f h q s rs ll){i:Nat}(a:i<ll.length):E.p h q (rs[i]'(by rw[x.2.1];exact a)) ll[i]:=x.2.2 i _ _ (qd _) (qd _)
theorem cP.fix(x:(cP E k f).p h q s ll):∃rs,Fix E k f h q s rs ll:=x
theorem Fix.WL(x:Fix E k f h q s rs ll):(cP E k f).p h q s ll:=⟨rs,x⟩
def dX(E:ja α β)(k:Nat)(f:α->aM)(s:Sl)(rs:List α)(c:List β):HP:=⟨fun h q=>Fix E k f h q s rs c,fun x b=>x.ag b,fun x a=>x.mono a⟩
theorem aa.WE(H:aa B h0 h As)(i:Nat)(m:As[i]?=some (lq e s k f E ll))(t:∀x,(f x).length=k):∃rs,aa B h0 h (As.set i (dX E k f s rs ll)):=by
 have g:i<As.length:=(qk.1 m).1;have n:aa B h0 h (As.set i (HP.ex fun rs=>dX E k f s rs ll)):=H.jo i m fun q ⟨rs,v,a,b,c,d,e⟩=>⟨rs,a.seq t fun x u=>(b x u).1,d,fun i r l p o=>E.mono (e i r l p o) c⟩
 obtain⟨rs,j⟩:=n.SO i (zH g);exact⟨rs,by rw[vI]at j;exact j⟩
theorem aa.jR(H:aa B h0 h As)(i:Nat)(a:As[i]?=some (dX E k f s rs ll)):mb E k f h s rs ll:=H.at i a
theorem aa.rU(d:C.Ok)(H:aa B h0 h As)(e:C.T.get t=some ti){K:Addr->Heap->Prop}(f:∀a h',aH (fun b=>b<h.size) h h'->aa B h0 h' (As++[ai a t ti.zero])->K a h'):
  aL C.P (qJ t true (.tuple #[])) h K:=
 FY d e fun a h' x y c _=>f a h' (c.mono fun _ _ _=>trivial) (H.comp (Fg x y c))
theorem aa.Wh(r:C.Ok)(H:aa B h0 h As)(f:α->aM)(q:bP C.torQ t e k z by_)(g:0<by_/\by_<=128)(j:α)(s:f j=z)(i:z.length=k){u v:IntKind}{n o:Int}(m c:Nat)(D:n=m)(E:o=c)(d:m<=c)(l:c<=2^32)
  {K:Sl->Heap->Prop} (A:∀a h',a.len=m->aH (fun b=>b<h.size) h h'->aa B h0 h' (As++[ao e a k f (qi m j)])->K a h'):
  aw C.P (zA t (.int u n) (.int v o)) (.one (.sc .slc)) h K:=
 run_make r q g j s i m c D E d l fun a h' x y w p _=>A a h' (by rw[x.len];simp) (p.mono fun _ _ _=>trivial) (H.comp (Ff rfl x y p))
end
section
variable {α:Type} {C:Ctx} {B:ap} {h0 h:Heap} {As:List HP} {e t k:Nat} {s:Sl} {f:α->aM} {l:List α} {i:TI}
theorem Own.Ra(B:C.Ok)(r:Own h e s k f l)(A:∀x,(f x).length=k)(I:C.T.get t=some i){x:Int}(n:Nat)(E:x=n)(v:n<l.length)(j:Nat)(vs:aM)(M:j+vs.length<=k){o:Value}(y:α)(D:o.cells=vs.toArray)(u:i.size=vs.length)
  (p:vs.all (·.oneCell')=true) (L:f y=(f l[n]).take j++vs++(f l[n]).drop (j+vs.length)) {K:Heap->Prop} (G:∀h',Own h' e s k f (l.set n y)->aH (fun b=>¬s.on b) h h'->K h'):
  ∃a:Addr,(s.ptr=some a/\0<=x/\x<((s.len:Nat):Int))/\ae C.P (qe t (.pointer (some ((a.add (x.toNat*k)).add j))) o) h fun _ h'=>K h':=by
 subst E;rcases r.head with⟨_,_,h3⟩|⟨b,rest,h1,h2,h3,h4⟩
 ·subst h3;simp at v
 ·refine⟨_,⟨h1,by omega,by rw[r.len];omega⟩,?_⟩;unfold qe;refine ae.bind (ae.pure' ?_);unfold storeVar;refine ae.bind (ae.always (cz B.toOk I) ?_);rw[D,u];simp only[z8,ne_eq,not_true,if_false];rw[add_eq,add_eq,zU,qo];have g:l=l.take n++l[n]::l.drop (n+1):=by rw[<-qL v,qy]
  have m:l.set n y=l.take n++y::l.drop (n+1):=zX.trans (if_pos v);have q:((l.take n).flatMap f).length=n*k:=by rw[cD A,qO,wu (by omega)]
  have H:=A l[n];have d:f l[n]=(f l[n]).take j++((f l[n]).drop j).take vs.length++(f l[n]).drop (j+vs.length):=by
   rw[qm,<-zo,qy,qy]
  refine cN (e:=e) (pre:=(l.take n).flatMap f++(f l[n]).take j) (old:=((f l[n]).drop j).take vs.length) (post:=(f l[n]).drop (j+vs.length)++((l.drop (n+1)).flatMap f++rest)) ?_ ?_ ?_ ?_ ?_
  ·have:l.flatMap f++rest=(l.take n).flatMap f++(f l[n]).take j++((f l[n]).drop j).take vs.length++((f l[n]).drop (j+vs.length)++((l.drop (n+1)).flatMap f++rest)):=by
    have w:=congrArg (List.flatMap f) g;rw[q7,zg]at w;rw[w];generalize f l[n]=z at d;rw[qm]at d;simp only[qm];congr 1
    conv=>lhs;rw[d]
    simp only[qm]
   rw[<-this];exact h2
  ·simp;omega
  ·rw[qp,q,qO];omega
  ·intro c J;exact qT.1 p c J
  ·refine G _ ⟨by rw[qZ];exact r.len,.inr ⟨b,rest,h1,?_,h3,h4⟩⟩ (aH.fG h2 (fun F=>F ⟨0,h1⟩));rw[eG h2,if_pos rfl,m,q7,zg,L];simp[qm]
theorem aa.Ra(p:C.Ok)(H:aa B h0 h As)(g:Nat)(d:As[g]?=some (ao e s k f l))(A:∀x,(f x).length=k)(u:C.T.get t=some i){x:Int}(n:Nat)(E:x=n)(v:n<l.length)(j:Nat)(vs:aM)(o:j+vs.length<=k){b:Value}(y:α)(q:b.cells=vs.toArray)(m:i.size=vs.length)
  (c:vs.all (·.oneCell')=true) (D:f y=(f l[n]).take j++vs++(f l[n]).drop (j+vs.length)) {K:Heap->Prop} (r:∀h',aa B h0 h' (As.set g (ao e s k f (l.set n y)))->K h'):
  ∃a:Addr,(s.ptr=some a/\0<=x/\x<((s.len:Nat):Int))/\ae C.P (qe t (.pointer (some ((a.add (x.toNat*k)).add j))) b) h fun _ h'=>K h':=
 (H.own g d).Ra p A u n E v j vs o y q m c D fun h' z w=>r h' (H.jg g d w z)
end
def HP.all:List HP->HP
 |[]=>emp
 |A::L=>A.sep (HP.all L)
section
variable {B:ap} {h0 h h':Heap} {As L:List HP} {A D E:HP}
theorem aa.rV:∀{L:List HP} {As:List HP},aa B h0 h (HP.all L::As)->aa B h0 h (L++As)
 |[],_,H=>H.rest
 |A::L,As,H=>by
  have e:aa B h0 h (HP.all L::A::As):=H.xf;have f:=aa.rV e;exact f.pick (fun i=>if i=0 then L.length else if i<=L.length then i-1 else i) (fun a b c=>by(try dsimp only at c);split at c<;>split at c<;>(try split at c)<;>(try split at c)<;>omega) fun i X d=>by
   try dsimp only
   rw[zk]at d;cases i with
   |zero=>simp at d;subst d;rw[if_pos rfl,qh (qt _),q5];rfl
   |succ i=>
    rw[qw]at d;rw[if_neg (by omega)];by_cases g:i<L.length
    ·rw[ql g]at d;rw[if_pos (by omega),ql (by omega)];simpa using d
    ·rw[qh (by omega)]at d;rw[if_neg (by omega),qh (by omega)];rw[show i+1-L.length=(i-L.length)+1 by omega,qw];exact d
theorem aa.closeAll:∀(L:List HP) {As:List HP},aa B h0 h (L++As)->aa B h0 h (HP.all L::As)
 |[],As,H=>((H.comp (.one (A:=emp) (aH.refl _ _) trivial)).cn:aa B h0 h (emp::As))
 |A::L,As,H=>by
  have g:aa B h0 h (L++(A::As)):=H.pick (fun i=>if i<L.length then i+1 else if i=L.length then 0 else i) (fun a b c=>by(try dsimp only at c);split at c<;>split at c<;>(try split at c)<;>(try split at c)<;>omega) fun i X d=>by
   try dsimp only
   by_cases e:i<L.length
   ·rw[ql e]at d;rw[if_pos e,zk,qw,ql e];exact d
   ·rw[qh (by omega)]at d;by_cases f:i=L.length
    ·subst f;rw[q5]at d;rw[if_neg (by omega),if_pos rfl];simpa using d
    ·rw[if_neg e,if_neg f,zk];obtain⟨j,rfl⟩:∃j,i=L.length+(j+1):=⟨i-L.length-1,by omega⟩
     rw[zd,qw]at d;rw[show L.length+(j+1)=(L.length+j)+1 by omega,qw,qh (by omega),zd];exact d
  exact(aa.closeAll L g).nY
theorem aa.Ce{P:Prop}(H:aa B h0 h (A.and P::As)):aa B h0 h (A::As)/\P:=⟨H.We 0 rfl,H.fact 0 rfl⟩
theorem aa.toCe{P:Prop}(H:aa B h0 h (A::As))(p:P):aa B h0 h (A.and P::As):=H.Wf 0 rfl p
end
def io{α:Type}(e:TypeId)(s:Sl)(b:TypeId)(k:Nat)(f:α->aM)(a:List (List α)):HP:=
 HP.ex fun rs:List Sl=>(HP.all (ao e s 1 cx rs::bv b k f rs a)).and (rs.length=a.length)
section
variable {α:Type} {C:Ctx} {B:ap} {h0 h h':Heap} {As:List HP} {e e2 k t by_:Nat} {s:Sl} {f:α->aM} {ll:List (List α)}
theorem aa.AI(H:aa B h0 h (io e s e2 k f ll::As)):∃rs:List Sl,rs.length=ll.length/\aa B h0 h ((ao e s 1 cx rs::bv e2 k f rs ll)++As):=by
 obtain⟨rs,H⟩:=H.ta;obtain⟨H,a⟩:=H.Ce;exact⟨rs,a,H.rV⟩
theorem aa.Dm{rs:List Sl}(a:rs.length=ll.length)(H:aa B h0 h ((ao e s 1 cx rs::bv e2 k f rs ll)++As)):aa B h0 h (io e s e2 k f ll::As):=
 ((aa.closeAll _ H).toCe a).Dl (F:=fun rs:List Sl=>(HP.all (ao e s 1 cx rs::bv e2 k f rs ll)).and (rs.length=ll.length)) rs
theorem aa.Cf(H:aa B h0 h As)(e a k:Nat)(f:α->aM):aa B h0 h (io e ⟨none,0,0⟩ a k f []::As):=
 aa.Dm (rs:=[]) rfl ((H.nil e 1 cx).cn)
theorem aa.Rb{Bs:List HP}(H:aa B h0 h (As++Bs)):aa B h0 h As:=H.pick id (fun _ _ h=>h) fun i A a=>by
 rw[id,ql (qk.1 a).1];exact a
theorem aa.Ow(H:aa B h0 h (io e s e2 k f ll::As))(a:∀x,(f x).length=k):fC h s k f ll:=by
 obtain⟨rs,b,H⟩:=H.AI;exact aa.Is (aa.Rb H) b a
theorem aa.tc(H:aa B h0 h (io e s e2 k f ll::As)):s.len=ll.length/\s.len<=s.cap:=by
 obtain⟨rs,a,H⟩:=H.AI;exact⟨by rw[(H.own 0 rfl).len,a],(H.own 0 rfl).cap⟩
theorem aa.Dn(g:C.Ok){r:Sl}{x:List α}(H:aa B h0 h (io e s e2 k f ll::ao e2 r k f x::As))(d:bP C.torQ t e 1 [.slice none 0 0] 24)(i:ll.length+1<=2^32){ty:Nat}{K:Sl->Heap->Prop}
  (j:∀a h',aa B h0 h' (io e a e2 k f (ll++[x])::As)->K a h'):
  aw C.P (qu t 1 #[(0,.slice r.ptr r.len r.cap)]) (.one (.sc .slc)) h fun v m=>aw C.P (qx #[t,t] ty #[.slice s.ptr s.len s.cap,.slice v.ptr v.len v.cap]) (.one (.sc .slc)) m K:=by
 obtain⟨rs,c,H⟩:=H.AI;refine H.push g 0 rfl d rfl (by decide) (fun _=>rfl) oF r rfl (by decide) (by omega) fun a h' b=>j a h' ?_;refine aa.Dm (rs:=rs++[r]) (by simp[c]) ?_;rw[oI c];have b:aa B h0 h' (ao e a 1 cx (rs++[r])::(bv e2 k f rs ll++ao e2 r k f x::As)):=b;have l:ao e a 1 cx (rs++[r])::(bv e2 k f rs ll++[ao e2 r k f x])++As=ao e a 1 cx (rs++[r])::(bv e2 k f rs ll++ao e2 r k f x::As):=by simp
 rw[l];exact b
end
end Go.Vc
namespace Gf
theorem Rc{p:UInt8->Prop}(h:∀n,n<256->p (UInt8.ofNat n))(a:UInt8):p a:=by
 have:=h a.toNat (UInt8.toNat_lt a)
 rwa [UInt8.ofNat_toNat]at this
def x2(a:UInt8):UInt8:=(a<<<1)^^^(if a&&&0x80=0 then 0 else 0x1b)
def x3(a:UInt8):UInt8:=x2 a^^^a
def pw:Nat->UInt8
 |0=>1
 |n+1=>x3 (pw n)
theorem TV(a b c:UInt8):(a^^^b)&&&c=(a&&&c)^^^(b&&&c):=by
 apply UInt8.toBitVec_inj.1;simp[UInt8.toBitVec_xor,UInt8.toBitVec_and];ext i hi;simp[Bool.and_xor_distrib_right]
theorem TW(a b:UInt8):(a^^^b)<<<1=(a<<<1)^^^(b<<<1):=by
 apply UInt8.toBitVec_inj.1;simp[UInt8.toBitVec_xor,UInt8.toBitVec_shiftLeft,BitVec.shiftLeft_xor_distrib]
theorem Iu:∀a:UInt8,a&&&0x80=0∨a&&&0x80=0x80:=Rc (by decide+kernel)
theorem Re(a b c d:UInt8):(a^^^b)^^^(c^^^d)=(a^^^c)^^^(b^^^d):=by ac_rfl
theorem UY(a b:UInt8):x2 (a^^^b)=x2 a^^^x2 b:=by
 unfold x2;rw[TV,TW];rcases Iu a with ha|ha<;>rcases Iu b with hb|hb<;>rw[ha,hb]
 ·simp
 ·simp[UInt8.xor_assoc]
 ·rw[Re];simp
 ·rw[Re];simp
theorem UZ(a b:UInt8):x3 (a^^^b)=x3 a^^^x3 b:=by unfold x3;rw[UY,Re]
def oJ:Nat->UInt8->UInt8
 |0,a=>a
 |n+1,a=>x3 (oJ n a)
theorem LM(a b:UInt8):∀n,oJ n (a^^^b)=oJ n a^^^oJ n b
 |0=>rfl
 |n+1=>by simp only[oJ,LM a b n,UZ]
theorem Fj(a:UInt8)(m:Nat):∀n,oJ (n+m) a=oJ n (oJ m a)
 |0=>by simp[oJ]
 |n+1=>by rw[Nat.add_right_comm];simp only[oJ,Fj a m n]
theorem Iv:∀n,oJ n 0=0
 |0=>rfl
 |n+1=>by rw[oJ,Iv n];rfl
theorem rX:∀n,pw n=oJ n 1
 |0=>rfl
 |n+1=>by rw[pw,oJ,rX n]
def WF:Nat:=939374623831894136699086600277250597547650664638770418422125146541797353646788332867483593573384618611044815625336497665827114626705134492515730415652478061620339993830966980270842846318821775850471098591710629241171812800746666233448222972174585295916389942636813666312872914849454985560152530477328703759683306625234997237483834721220409437442253146756845415190424543171129629468776480674528486868811725071010351012234056630775688111116293610821126543142160426617079940511630006820862697466582575257349116925728488930366609138264019883664906661504235885380294353134295748489096855100647154935187045898006656778240
def lg(a:UInt8):Nat:=(WF>>>(8*a.toNat))%256
theorem Do:∀a:UInt8,lg a<255:=Rc (by decide+kernel)
theorem MA:∀a:UInt8,a≠0->pw (lg a)=a:=Rc (by decide+kernel)
theorem MB:∀n,n<255->lg (pw n)=n:=by decide+kernel
theorem Va:pw 255=1:=by decide+kernel
theorem MC:∀n,n<255->pw n≠0:=by decide+kernel
theorem Ox(n:Nat):pw (n+255)=pw n:=by
 rw[rX,Fj,<-rX 255,Va,<-rX]
theorem Oy(n:Nat):pw (n%255)=pw n:=by
 have:∀k m,pw (m+255*k)=pw m:=by
  intro k
  induction k with
  |zero=>intro m;rfl
  |succ k ih=>intro m;rw[Nat.mul_succ,<-w5,Ox,ih]
 have h:=this (n/255) (n%255);rw[Nat.mod_add_div]at h;exact h.symm
def mul(a b:UInt8):UInt8:=if a=0∨b=0 then 0 else pw ((lg a+lg b)%255)
def inv(a:UInt8):UInt8:=if a=0 then 0 else pw ((255-lg a)%255)
theorem mul_zero(a:UInt8):mul a 0=0:=by simp[mul]
theorem zero_mul(a:UInt8):mul 0 a=0:=by simp[mul]
theorem mul_comm(a b:UInt8):mul a b=mul b a:=by
 unfold mul;rw[Nat.add_comm];by_cases h:a=0∨b=0
 ·rw[if_pos h,if_pos h.symm]
 ·rw[if_neg h,if_neg fun x=>h x.symm]
theorem Iw(a b:UInt8)(d:a≠0):mul a b=oJ (lg a) b:=by
 by_cases c:b=0
 ·subst c;rw[mul_zero,Iv]
 ·rw[mul,if_neg (by simp[d,c]),Oy,rX,Fj,<-rX,MA b c]
theorem gO(a b c:UInt8):mul a (b^^^c)=mul a b^^^mul a c:=by
 by_cases d:a=0
 ·subst d;simp[zero_mul]
 ·rw[Iw _ _ d,Iw _ _ d,Iw _ _ d,LM]
theorem LN(a b c:UInt8):mul (a^^^b) c=mul a c^^^mul b c:=by rw[mul_comm,gO,mul_comm c a,mul_comm c b]
theorem Oz{a b:UInt8}(d:a≠0)(c:b≠0):mul a b≠0:=by
 rw[mul,if_neg (by simp[d,c])];exact MC _ (yE _ (by decide))
theorem OA{a b:UInt8}(d:a≠0)(c:b≠0):lg (mul a b)=(lg a+lg b)%255:=by
 rw[mul,if_neg (by simp[d,c]),MB _ (yE _ (by decide))]
theorem mul_assoc(a b c:UInt8):mul (mul a b) c=mul a (mul b c):=by
 by_cases e:a=0
 ·subst e;simp[zero_mul]
 by_cases d:b=0
 ·subst d;simp[zero_mul,mul_zero]
 by_cases f:c=0
 ·subst f;simp[mul_zero]
 rw[mul,if_neg (by simp[Oz e d,f]),OA e d,mul,if_neg (by simp[e,Oz d f]),OA d f];congr 1;omega
theorem Vb:lg 1=0:=by decide+kernel
theorem one_mul(a:UInt8):mul 1 a=a:=by
 by_cases b:a=0
 ·subst b;rfl
 ·rw[mul,if_neg (by simp[b]),Vb,zU,Oy,MA a b]
theorem mul_one(a:UInt8):mul a 1=a:=by rw[mul_comm,one_mul]
theorem Vd{a:UInt8}(b:a≠0):inv a≠0:=by
 rw[inv,if_neg b];exact MC _ (yE _ (by decide))
theorem Fk{a:UInt8}(b:a≠0):mul a (inv a)=1:=by
 have c:=Do a;rw[mul,if_neg (by simp[b,Vd b]),inv,if_neg b,MB _ (yE _ (by decide))];have:(lg a+(255-lg a)%255)%255=0:=by omega
 rw[this];rfl
end Gf
