/- Lemmas for the proof of the law; no condition. -/
import Derived.Test.YtbhpnfilcomonaaGreatDoorVcA
set_option linter.unusedVariables false
set_option linter.unusedSimpArgs false
open Nat renaming add_assoc -> w7, add_sub_cancel_left -> zg, add_zero -> wT, le_of_not_lt -> vm, le_refl -> qp, le_trans -> zH, lt_of_lt_of_le -> qQ, min_eq_left -> wv, mod_lt -> yM, mul_le_mul -> wm, mul_le_mul_right -> zm, sub_self -> qZ, succ_mul -> zU, zero_add -> zG
open Array renaming ext' -> wZ, ext_getElem? -> ya, getElem?_eq_some_iff -> yL, getElem?_modify -> wB, getElem?_setIfInBounds -> zC, range -> vH
open List renaming all_eq_true -> qU, append_assoc -> qm, cons_append -> zk, drop_drop -> zq, drop_eq_getElem_cons -> qS, drop_of_length_le -> zd, eq_nil_of_length_eq_zero -> qK, flatMap_append -> qY, flatMap_cons -> zf, getD_eq_getElem?_getD -> qf, getElem?_append_left -> ql, getElem?_append_right -> qg, getElem?_cons_succ -> qo, getElem?_cons_zero -> zX, getElem?_drop -> wo, getElem?_eq_getElem -> qd, getElem?_eq_none -> qX, getElem?_eq_some_iff -> qk, getElem?_map -> qP, getElem?_set -> qW, getElem?_set_ne -> zN, getElem?_set_self -> zO, getElem?_take -> yA, getElem?_toArray -> zp, getElem?_zipWith -> zB, getElem_mem -> qn, length_append -> qw, length_drop -> qV, length_set -> zy, length_take -> qR, map_cons -> z6, mem_flatMap -> zL, mem_singleton -> qB, replicate -> qh, set_comm -> vJ, set_eq_take_append_cons_drop -> yh, set_set -> vO, size_toArray -> z7, take_append_drop -> qA
open Go.Value renaming int -> vQ
open Go.IntKind renaming i64 -> vW, u8 -> vX, wrap -> qc
open Go.Builtin renaming append_ -> qu, copy_ -> zK, firstCells -> wk, nextslicecap -> yN
open Go.Instr renaming alloc -> qG, box -> qI, buildSlice -> qt, checkKey -> vC, fill -> wi, findKey -> vv, findNow -> wU, lookup -> vg, makeSlice -> zD, mapUpdate -> yj, sameBits -> vD, sameNow -> yY, storeAt -> qe
open Bool renaming true_and -> z8
open Int renaming toNat_natCast -> qq
open Option renaming map_some -> qJ, some -> wG
set_option maxRecDepth 100000
namespace Go.Vc
open Go
section
variable {A B:Prop}
theorem al{p:Prop}[Decidable p](a:p->A)(b:¬p->B):Br (decide p) A B:=by
 by_cases h:p
 ·rw[decide_eq_true h];exact a h
 ·rw[decide_eq_false h];exact b h
theorem dN{a b:Int}(d:a=b->A)(c:a≠b->B):Br (a==b) A B:=by
 by_cases h:a=b
 ·rw[beq_iff_eq.2 h];exact d h
 ·rw[beq_eq_false_iff_ne.2 h];exact c h
theorem ci{a b:Int}(d:a≠b->A)(c:a=b->B):Br (a !=b) A B:=by
 by_cases h:a=b
 ·rw[show(a !=b)=false by simp[h]];exact c h
 ·rw[show(a !=b)=true by simp[h]];exact d h
theorem bq{b:Bool}(a:b=true->A)(c:b=false->B):Br b A B:=by
 cases b
 ·exact c rfl
 ·exact a rfl
theorem aW{b:Bool}(a:b=false->A)(c:b=true->B):Br (!b) A B:=by
 cases b
 ·exact a rfl
 ·exact c rfl
theorem JN{b:Bool}(h:b=true)(a:A):Br b A B:=by subst h;exact a
theorem xU{b:Bool}(h:b=false)(a:B):Br b A B:=by subst h;exact a
end
theorem aU{σ:Type}{rest:σ->Heap->Prop}{B:(σ->Heap->Prop)->Prop}(h:B rest):aY rest B:=⟨rest,fun _ _ x=>x,h⟩
theorem cv{σ:Type}{rest:σ->Heap->Prop}{B:(σ->Heap->Prop)->Prop}(R:σ->Heap->Prop)(b:B R)(a:∀s h,R s h->rest s h):aY rest B:=⟨R,a,b⟩
theorem az{σ:Type}{B:σ->(σ->Heap->Prop)->Heap->Prop}{s:σ}{h:Heap}{τ:Type}(V:τ->σ)(I:τ->Heap->Prop)(μ:τ->Nat)(t0:τ)(d:s=V t0)(e:I t0 h)
  (c:∀t h,I t h->B (V t) (fun b h'=>∃a,b=V a/\I a h'/\μ a<μ t) h):aN B s h:=⟨τ,V,I,μ,t0,d,e,c⟩
abbrev ap:=Nat->Prop
def aG(p:ap)(h a:Heap):Prop:=h.size<=a.size/\∀b,b<h.size->p b->a[b]?=h[b]?
def Sl.on(s:Sl)(b:Nat):Prop:=∃o,s.ptr=some ⟨b,o,none⟩
section
variable {p q:ap} {h h' h'':Heap}
theorem aG.refl(p:ap)(h:Heap):aG p h h:=⟨qp _,fun _ _ _=>rfl⟩
theorem aG.trans(a:aG p h h')(b:aG p h' h''):aG p h h'':=⟨zH a.1 b.1,fun k c d=>(b.2 k (qQ c a.1) d).trans (a.2 k c d)⟩
theorem aG.then(a:aG p h h')(b:aG q h' h'')(e:∀k,k<h.size->p k->q k):aG p h h'':=⟨zH a.1 b.1,fun k c d=>(b.2 k (qQ c a.1) (e k c d)).trans (a.2 k c d)⟩
theorem aG.mono(a:aG p h h')(d:∀b,b<h.size->q b->p b):aG q h h':=⟨a.1,fun k c e=>a.2 k c (d k c e)⟩
theorem aG.push(p:ap)(h:Heap)(o:Obj):aG p h (h.push o):=⟨by simp,fun b a _=>by rw[Array.getElem?_push,if_neg (by omega)]⟩
theorem aG.xL{a:Addr}{v:Value}(d:¬p a.block):aG p h (xL h a v):=⟨by simp[Go.Vc.xL],fun b _ c=>by
 simp only[Go.Vc.xL,wB];rw[if_neg (fun e=>d (by rw[e];exact c))]⟩
theorem cC{a:Addr}{v:Value}(b:cellOf h a=some v):a.block<h.size:=by
 unfold cellOf at b;cases hb:h[a.block]? with
 |none=>rw[hb]at b;cases b
 |some o=>exact(yL.1 hb).1
theorem lt_of_block{b:Nat}{o:Obj}(a:h[b]?=some o):b<h.size:=(yL.1 a).1
theorem aG.cell(a:aG p h h'){x:Addr}{v:Value}(c:p x.block)(b:cellOf h x=some v):cellOf h' x=some v:=by
 have:=a.2 _ (cC b) c;unfold cellOf at*;rw[this];exact b
theorem aG.block(a:aG p h h'){b:Nat}{o:Obj}(d:p b)(c:h[b]?=some o):h'[b]?=some o:=by rw[a.2 b (lt_of_block c) d];exact c
theorem aG.cells(a:aG p h h'){x:Addr}(b:p x.block):∀{vs:aQ} {i:Nat},ai h x i vs->ai h' x i vs
 |[],_,_=>trivial
 |v::r,i,hc=>⟨a.cell (by unfold Addr.add;split<;>exact b) hc.1,aG.cells a b hc.2⟩
end
theorem add_eq(b o n:Nat):(⟨b,o,none⟩:Addr).add n=⟨b,o+n,none⟩:=by
 unfold Addr.add;split
 ·rename_i h;subst h;rfl
 ·rfl
theorem add_zero(a:Addr):a.add 0=a:=rfl
theorem uh{h:Heap}{b o:Nat}{c:Array Value}{e:TypeId}{f:Nat×Nat}(a:h[b]?=some (.cells c e f)):cellOf h ⟨b,o,none⟩=c[o]?:=by
 unfold cellOf;rw[a];rfl
theorem Th{h:Heap}{b o:Nat}{c:Array Value}{e:TypeId}(a:h[b]?=some (.cells c e (0,0))):Og h ⟨b,o,none⟩=false:=by
 unfold Og;rw[a];simp
structure Seq {α:Type} (h:Heap) (p:ap) (s:Sl) (k:Nat) (f:α->aQ) (l:List α):Prop where
 len:s.len=l.length
 elem:∀i x,l[i]?=some x->∃b o,s.ptr=some ⟨b,o,none⟩/\p b/\ai h ⟨b,o+i*k,none⟩ 0 (f x)
section
variable {α:Type} {h h':Heap} {p q:ap} {s:Sl} {k:Nat} {f:α->aQ} {l:List α}
theorem Seq.ah(c:Seq h p s k f l)(g:aG p h h'):Seq h' p s k f l:=⟨c.len,fun i x d=>by
 obtain⟨b,o,e,a,h3⟩:=c.elem i x d;exact⟨b,o,e,a,g.cells a h3⟩⟩
theorem Seq.mono(a:Seq h p s k f l)(g:∀b,p b->q b):Seq h q s k f l:=⟨a.len,fun i x d=>by
 obtain⟨b,o,e,c,h3⟩:=a.elem i x d;exact⟨b,o,e,g b c,h3⟩⟩
theorem Seq.nil(h:Heap)(p:ap)(c:Nat)(a:aM)(k:Nat)(f:α->aQ):Seq h p ⟨a,0,c⟩ k f []:=⟨rfl,fun i x b=>by simp at b⟩
theorem Seq.cK{X:Type}{g:X->Value}(c:Seq h p s 1 f l){i:Int}(n:Nat)(e:i=n)(m:n<l.length)(x:X)(j:f l[n]=[g x]){K:X->Prop}(d:K x):
  ∃a:Addr,(s.ptr=some a/\0<=i/\i<((s.len:Nat):Int))/\∃x:X,cellOf h (a.add (i.toNat*1))=some (g x)/\K x:=by
 subst e;obtain⟨b,o,k,_,h3⟩:=c.elem n l[n] (qd m);refine⟨_,⟨k,by omega,by rw[c.len];omega⟩,x,?_,d⟩;rw[j]at h3;have:=h3.1;rw[add_eq,wT]at this;rw[add_eq];simpa using this
theorem Seq.dE{X:Type}{g:X->aQ}(c:Seq h p s k f l){i:Int}(n:Nat)(e:i=n)(q:n<l.length)(x:X)(j:f l[n]=g x){K:X->Prop}(d:K x):
  ∃a:Addr,(s.ptr=some a/\0<=i/\i<((s.len:Nat):Int))/\∃x:X,ai h (a.add (i.toNat*k)) 0 (g x)/\K x:=by
 subst e;obtain⟨b,o,m,_,h3⟩:=c.elem n l[n] (qd q);refine⟨_,⟨m,by omega,by rw[c.len];omega⟩,x,?_,d⟩;rw[add_eq];rw[j]at h3;simpa using h3
end
def aE(n:Int):aQ:=[vQ vW n]
def aw(n:UInt8):aQ:=[vQ vX n.toNat]
def UP(b:Bool):aQ:=[.bool b]
def cF(s:Sl):aQ:=[.slice s.ptr s.len s.cap]
structure fv {α:Type} (h:Heap) (p:ap) (s:Sl) (k:Nat) (f:α->aQ) (ll:List (List α)) (rs:List Sl):Prop where
 top:Seq h p s 1 cF rs
 len:rs.length=ll.length
 row:∀(i:Nat) (r:Sl) (l:List α),rs[i]?=some r->ll[i]?=some l->Seq h p r k f l
section
variable {α:Type} {h h':Heap} {p q:ap} {s:Sl} {k:Nat} {f:α->aQ} {ll:List (List α)} {rs:List Sl}
theorem fv.ah(a:fv h p s k f ll rs)(b:aG p h h'):fv h' p s k f ll rs:=⟨a.top.ah b,a.len,fun i r l d c=>(a.row i r l d c).ah b⟩
theorem fv.mono(a:fv h p s k f ll rs)(c:∀b,p b->q b):fv h q s k f ll rs:=⟨a.top.mono c,a.len,fun i r l e d=>(a.row i r l e d).mono c⟩
theorem fv.Ti(a:fv h p s k f ll rs):s.len=ll.length:=by rw[a.top.len,a.len]
theorem fv.get(c:fv h p s k f ll rs){i:Int}(n:Nat)(j:i=n)(e:n<ll.length){K:Sl->Prop}(g:∀r,Seq h p r k f ll[n]->rs[n]?=some r->K r):
  ∃a:Addr,(s.ptr=some a/\0<=i/\i<((s.len:Nat):Int))/\∃x:Sl,cellOf h (a.add (i.toNat*1))=some (.slice x.ptr x.len x.cap)/\K x:=by
 have b:n<rs.length:=by rw[c.len];exact e
 have d:rs[n]?=some rs[n]:=qd b;exact c.top.cK n j b rs[n] rfl (g _ (c.row n _ _ d (qd e)) d)
end
structure Own {α:Type} (h:Heap) (e:TypeId) (s:Sl) (k:Nat) (f:α->aQ) (l:List α):Prop where
 len:s.len=l.length
 head:(s.ptr=none/\s.cap=0/\l=[])∨∃b rest,s.ptr=some ⟨b,0,none⟩/\h[b]?=some (.cells (l.flatMap f++rest).toArray e (0,0))/\rest.length=(s.cap-s.len)*k/\s.len<=s.cap
theorem cw{α:Type}{k:Nat}{f:α->aQ}(a:∀x,(f x).length=k):∀(l:List α),(l.flatMap f).length=l.length*k
 |[]=>by simp
 |x::r=>by rw[zf,qw,a,cw a r,List.length_cons,zU];omega
theorem Df{α:Type}{k:Nat}{f:α->aQ}(a:∀x,(f x).length=k):∀(l:List α) (i:Nat) (x:α),l[i]?=some x->∃pre post,l.flatMap f=pre++f x++post/\pre.length=i*k
 |y::r,0,x,h=>by simp at h;subst h;exact⟨[],r.flatMap f,by simp,by simp⟩
 |y::r,i+1,x,h=>by
  obtain⟨pre,post,c,b⟩:=Df a r i x (by simpa using h);exact⟨f y++pre,post,by simp[c],by rw[qw,a,b,zU];omega⟩
theorem sh{h:Heap}{b o:Nat}{e:TypeId}{fr:Nat×Nat}:∀{vs pre post:aQ} {i:Nat},h[b]?=some (.cells (pre++vs++post).toArray e fr)->pre.length=o+i->ai h ⟨b,o,none⟩ i vs
 |[],_,_,_,_,_=>trivial
 |v::r,pre,post,i,hb,hl=>by
  refine⟨?_,sh (pre:=pre++[v]) (post:=post) (by simpa using hb) (by simp;omega)⟩;rw[add_eq,uh hb,<-hl];simp
def fc(h:Heap)(b:Nat)(o:Obj):Heap:=h.setIfInBounds b o
theorem eF{h:Heap}{b c:Nat}{o x:Obj}(a:h[b]?=some x):(fc h b o)[c]?=if b=c then some o else h[c]?:=by
 unfold fc;rw[zC];split
 ·rename_i e;subst e;rw[if_pos (lt_of_block a)]
 ·rfl
theorem Qx{h:Heap}{b o:Nat}{c:Array Value}{e:TypeId}{f:Nat×Nat}{v:Value}(a:h[b]?=some (.cells c e f)):xL h ⟨b,o,none⟩ v=fc h b (.cells (c.setIfInBounds o v) e f):=by
 apply ya;intro i;rw[eF a];simp only[xL,wB];split
 ·rename_i d;subst d;rw[a];rfl
 ·rfl
theorem Qy(h:Heap)(b:Nat)(o a:Obj):fc (fc h b o) b a=fc h b a:=by
 unfold fc;simp
theorem aG.fc{p:ap}{h:Heap}{b:Nat}{o x:Obj}(f:h[b]?=some x)(d:¬p b):aG p h (fc h b o):=⟨by simp[Go.Vc.fc],fun c _ a=>by
 rw[eF f,if_neg (fun e=>d (by rw[e];exact a))]⟩
theorem cL{P:Program}{b o:Nat}{e:TypeId}{K:Unit->Heap->Prop}:∀{vs pre old post:aQ} {i:Nat} {h:Heap},h[b]?=some (.cells (pre++old++post).toArray e (0,0))->old.length=vs.length->pre.length=o+i->
  (∀v∈vs,v.oneCell'=true)->K () (fc h b (.cells (pre++vs++post).toArray e (0,0)))->ab P (storeCells ⟨b,o,none⟩ vs i) h K
 |[],pre,old,post,i,h,hb,hl,hp,hv,hk=>by
  have:old=[]:=qK (by simpa using hl);subst this;refine ab.pure' ?_;have g:fc h b (.cells (pre++[]++post).toArray e (0,0))=h:=by
   apply ya;intro c;rw[eF hb];split
   ·rename_i d;subst d;exact hb.symm
   ·rfl
  rw[g]at hk;exact hk
 |v::r,pre,old,post,i,h,hb,hl,hp,hv,hk=>by
  cases old with
  |nil=>simp at hl
  |cons u old=>
   simp only[storeCells];refine ab.bind ?_;rw[add_eq];have d:cellOf h ⟨b,o+i,none⟩=some u:=by rw[uh hb,<-hp];simp
   refine ab.WO (hv v (by simp)) d (Th hb) ?_;rw[Qx hb];have a:(pre++(u::old)++post).toArray.setIfInBounds (o+i) v=((pre++[v])++old++post).toArray:=by
    rw[<-hp];apply wZ;simp
   rw[a];refine cL (e:=e) (pre:=pre++[v]) (old:=old) (post:=post) ?_ (by simpa using hl) (by simp;omega) (fun x f=>hv x (by simp[f])) ?_
   ·rw[eF hb,if_pos rfl]
   ·rw[Qy];simpa using hk
theorem Gl{P:Program}{h:Heap}{a:Addr}{vs:aQ}{n:Nat}{K:Array Value->Heap->Prop}(e:vs.length=n)(c:ai h a 0 vs)(b:K vs.toArray h):ab P (loadCells a n) h K:=fun w d=>by
 subst d;refine⟨vs.toArray,w,?_,cA.refl w,b⟩;have:=run_loadCells (P:=P) (w:=w) (a:=a) vs 0 #[] c;rw[e]at this;unfold loadCells;rw[this];simp
section
variable {α:Type} {h h':Heap} {p:ap} {e:TypeId} {s:Sl} {k:Nat} {f:α->aQ} {l:List α}
theorem Own.lt(c:Own h e s k f l){b:Nat}(a:s.on b):b<h.size:=by
 rcases c.head with⟨h1,_,_⟩|⟨b',rest,h1,h2,_,_⟩
 ·obtain⟨o,h0⟩:=a;rw[h1]at h0;cases h0
 ·obtain⟨o,h0⟩:=a;rw[h1]at h0;cases h0;exact lt_of_block h2
theorem Own.ah(c:Own h e s k f l)(d:aG p h h')(a:∀b,s.on b->p b):Own h' e s k f l:=⟨c.len,by
 rcases c.head with h1|⟨b,rest,h1,h2,h3,h4⟩
 ·exact .inl h1
 ·exact .inr ⟨b,rest,h1,d.block (a b ⟨0,h1⟩) h2,h3,h4⟩⟩
theorem Own.seq(c:Own h e s k f l)(j:∀x,(f x).length=k)(a:∀b,s.on b->p b):Seq h p s k f l:=⟨c.len,fun i x d=>by
 rcases c.head with⟨_,_,h1⟩|⟨b,rest,h1,h2,h3,h4⟩
 ·subst h1;simp at d
 ·obtain⟨pre,post,g,m⟩:=Df j l i x d;refine⟨b,0,h1,a b ⟨0,h1⟩,sh (e:=e) (fr:=(0,0)) (pre:=pre) (post:=post++rest) ?_ (by omega)⟩;rw[h2,g];simp⟩
theorem Own.nil(h:Heap)(e:TypeId)(k:Nat)(f:α->aQ):Own h e ⟨none,0,0⟩ k f []:=⟨rfl,.inl ⟨rfl,rfl,rfl⟩⟩
theorem Own.cap(a:Own h e s k f l):s.len<=s.cap:=by
 rcases a.head with⟨h1,h2,h3⟩|⟨b,rest,h1,h2,h3,h4⟩
 ·have:=a.len;rw[h3]at this;simp at this;omega
 ·exact h4
end
theorem ab.always{α:Type}{P:Program}{s:Sem α}{v:α}{h:Heap}{K:α->Heap->Prop}(b:aA P s v)(a:K v h):ab P s h K:=fun w c=>⟨v,w,b w,cA.refl w,by rw[c];exact a⟩
structure bN (C:sH) (t e k:Nat) (z:aQ) (by_:Nat):Prop where
 ex:∃i j,C.T.get t=some i/\i.cr=.slice e/\C.T.get e=some j/\j.size=k/\j.zero=z/\j.bytes=by_
section
variable {C:Ctx} {t e k:Nat} {z:aQ} {by_:Nat}
theorem bN.under(c:bN C.tosH t e k z by_)(b:C.Ok):C.P.underlying t=some (.slice e):=by
 obtain⟨i,j,d,a,_⟩:=c.ex;have:=b.cr d;rw[a]at this;exact iu this
theorem bN.size(c:bN C.tosH t e k z by_)(b:C.Ok):aA C.P (sizeOf e) k:=by
 obtain⟨i,j,_,_,d,a,_⟩:=c.ex;rw[<-a];exact cJ b.toOk d
theorem bN.info(h:bN C.tosH t e k z by_)(g:C.Ok):∃f,C.P.info? e=some f/\f.size=k/\f.bytes=by_/\∃a,f.zero=some a/\a.cells=z.toArray:=by
 obtain⟨i,j,_,_,l,b,h3,o⟩:=h.ex;obtain⟨f,c,d,m,a,n,p⟩:=g.info l;exact⟨f,c,d.trans b,m.trans o,a,n,by apply wZ;rw[p,h3]⟩
end
def gl(z:aQ):Nat->aQ
 |0=>[]
 |n+1=>z++gl z n
theorem lz(z:aQ):∀n,(gl z n).length=n*z.length
 |0=>by simp[gl]
 |n+1=>by rw[gl,qw,lz z n,zU];omega
theorem JO(z:aQ):∀(n i:Nat),i<n*z.length->(gl z n)[i]?=z[i%z.length]?
 |0,i,h=>by simp at h
 |n+1,i,h=>by
  have b:0<z.length:=Nat.pos_of_ne_zero fun e=>by rw[e]at h;simp at h
  rw[gl];by_cases a:i<z.length
  ·rw[ql a,Nat.mod_eq_of_lt a]
  ·rw[qg (by omega),JO z n (i-z.length) (by rw[zU]at h;omega)];congr 1
   conv=>rhs;rw[show i=(i-z.length)+z.length by omega,Nat.add_mod_right]
theorem JP(z:aQ)(n m:Nat)(c:m=n*z.length):((vH m).map (fun i=>z.toArray[i%z.toArray.size]!))=(gl z n).toArray:=by
 apply ya;intro i;subst c;simp only[Array.getElem?_map,Array.getElem?_range,zp];by_cases a:i<n*z.length
 ·rw[JO z n i a];have b:0<z.length:=Nat.pos_of_ne_zero fun e=>by rw[e]at a;simp at a
  have:=yM i b;simp[a,this]
 ·rw[qX (by rw[lz];omega)];simp[a]
theorem xV(z:aQ)(n:Nat):Builtin.zeroCells z.toArray n=(gl z n).toArray:=JP z n _ (by simp)
theorem NF(a:Nat):∀(r c:Nat),Builtin.growBy a r c<=(c+768)*2^r
 |0,c=>by simp[Builtin.growBy]
 |r+1,c=>by
  unfold Builtin.growBy;split
  ·exact zH (Nat.le_add_right c 768) (Nat.le_mul_of_pos_right _ (Nat.two_pow_pos _))
  ·refine zH (NF a r _) ?_;rw[Nat.pow_succ,Nat.mul_comm (2^r) 2,<-Nat.mul_assoc];exact zm _ (by omega)
theorem Ye(o n:Nat)(h:o<n):(o+768)*2^4<=16*n+16*768:=by omega
theorem NG(a b:Nat)(h:b<a:=by omega):yN a b<=16*a+16*768:=by
 unfold yN;split
 ·omega
 ·split
  ·omega
  ·exact zH (NF a 4 b) (Ye _ _ h)
section
variable {C:Ctx} {t t2 e k:Nat} {z:aQ} {by_:Nat} {α:Type} {h:Heap} {p:ap} {s v:Sl} {f:α->aQ} {l l2:List α}
theorem dV{P:Program}{K:Array Value->Heap->Prop}(s:∀x,(f x).length=k)(j:Seq h p v k f l)(z:K (l.flatMap f).toArray h):
  ab P (wk k v.len (.slice v.ptr v.len v.cap)) h K:=by
 cases hp:v.ptr with
 |none=>
  have:l=[]:=by
   cases l with
   |nil=>rfl
   |cons x r=>obtain⟨b,o,c,_⟩:=j.elem 0 x (by simp);rw[hp]at c;cases c
  subst this;exact ab.pure' z
 |some a=>
  refine Gl (by rw[cw s,<-j.len]) ?_ z;cases l with
  |nil=>trivial
  |cons w r0=>
   obtain⟨b,o,c,_,_⟩:=j.elem 0 w (by simp);rw[hp]at c;cases c;have q:∀(r:List α) (n:Nat),(∀i x,r[i]?=some x->ai h ⟨b,o+(n+i)*k,none⟩ 0 (f x))->ai h ⟨b,o,none⟩ (n*k) (r.flatMap f):=by
    intro r
    induction r with
    |nil=>intro n _;trivial
    |cons x r ih=>
     intro n t;have h0:=t 0 x (by simp);have g:=ih (n+1) (fun i y B=>by have:=t (i+1) y (by simpa using B);rw[show n+1+i=n+(i+1)by omega];exact this);rw[zf];have app:∀(d vs:aQ) (i:Nat),ai h ⟨b,o,none⟩ i d->ai h ⟨b,o,none⟩ (i+d.length) vs->ai h ⟨b,o,none⟩ i (d++vs):=by
      intro d
      induction d with
      |nil=>intro vs i _ g;simpa using g
      |cons u d ih=>intro vs i c g;exact⟨c.1,ih vs (i+1) c.2 (by rw[show i+1+d.length=i+(d.length+1)by omega];exact g)⟩
     refine app _ _ _ ?_ (by rw[s,<-zU];exact g);have e:∀(d:aQ) (i m:Nat),ai h ⟨b,o+m,none⟩ i d->ai h ⟨b,o,none⟩ (m+i) d:=by
      intro d
      induction d with
      |nil=>intros;trivial
      |cons u d ih=>
       intro i m c;refine⟨?_,ih (i+1) m c.2⟩;have:=c.1;rw[add_eq]at this⊢;rw[<-w7];exact this
     have:=e (f x) 0 ((n+0)*k) h0;simpa using this
   have:=q (w::r0) 0 (fun i x A=>by
    obtain⟨E,D,c,_,h3⟩:=j.elem i x A;rw[hp]at c;cases c;simpa using h3)
   simpa using this
theorem Ot(w:C.Ok)(H:bN C.tosH t e k z by_)(h2:∃i e2,C.T.get t2=some i/\i.cr=.slice e2)(hz:z.length=k)(E:0<by_/\by_<=128)(m:∀x,(f x).length=k)
  (y:Own h e s k f l) (J:Seq h p v k f l2) (q:∀x,∀c∈f x,c.oneCell'=true) (ad:l.length+l2.length<=2^32) {ty:Nat} {K:Sl->Heap->Prop}
  (L:∀G h',Own h' e G k f (l++l2)->aG (fun b=>¬s.on b) h h'->(∀b,G.on b->s.on b∨h.size<=b)->K G h'):
  av C.P (qu #[t,t2] ty #[.slice s.ptr s.len s.cap,.slice v.ptr v.len v.cap]) (.one (.sc .slc)) h K:=by
 obtain⟨i2,e2,g1,g2⟩:=h2;have I:C.P.underlying t2=some (.slice e2):=by have:=w.cr g1;rw[g2]at this;exact iu this
 obtain⟨O,A,x2,x3,zv,Y,V⟩:=H.info w;unfold av qu;simp only[zp,zX,qo];refine ab.bind (ab.always (au (H.under w)) ?_);refine ab.bind (ab.always (H.size w) ?_);refine ab.bind (ab.always (au I) ?_);refine ab.bind (ab.pure' ?_);simp only[Bool.false_eq_true,if_false,Bool.not_false,if_true];refine ab.bind (ab.pure' ?_);have u:=y.len;have Q:=J.len;by_cases g:s.len+v.len<=s.cap
 ·rw[if_pos g];refine ab.bind (dV m J ?_);rcases y.head with⟨p1,p2,p3⟩|⟨b,rest,p1,p2,p3,p4⟩
  ·rw[p1];have M:l2=[]:=qK (by omega);subst M;refine ab.pure' ⟨⟨none,s.len+v.len,s.cap⟩,rfl,L _ _ ⟨?_,.inl ⟨rfl,p2,by simp[p3]⟩⟩ (aG.refl _ _) ?_⟩
   ·simp;omega
   ·rintro R ⟨o,d⟩;cases d
  ·rw[p1];refine ab.bind ?_;rw[add_eq,zG];have j:=cw m l;have a:=cw m l2;have F:(l2.flatMap f).length<=rest.length:=by
    rw[a,p3];exact zm k (by omega)
   refine cL (e:=e) (pre:=l.flatMap f) (old:=rest.take (l2.flatMap f).length) (post:=rest.drop (l2.flatMap f).length) ?_ ?_ ?_ ?_ ?_
   ·rw[qm,qA];exact p2
   ·rw[qR];exact wv F
   ·rw[j,u];omega
   ·intro c hc;obtain⟨x,_,B⟩:=zL.1 hc;exact q x c B
   ·refine ab.pure' ⟨⟨some ⟨b,0,none⟩,s.len+v.len,s.cap⟩,rfl,L _ _ ⟨?_,.inr ⟨b,rest.drop (l2.flatMap f).length,rfl,?_,?_,g⟩⟩ ?_ ?_⟩
    ·simp;omega
    ·rw[eF p2,if_pos rfl];simp
    ·rw[qV,p3,a,<-Nat.sub_mul];show(s.cap-s.len-l2.length)*k=(s.cap-(s.len+v.len))*k;congr 1;omega
    ·exact aG.fc p2 (fun hn=>hn ⟨0,p1⟩)
    ·rintro R ⟨o,d⟩;cases d;exact .inl ⟨0,p1⟩
 ·rw[if_neg g];have r:Seq h (fun _=>True) s k f l:=y.seq m (fun _ _=>trivial);have S:=y.cap;refine ab.bind (ab.always (co A) ?_);rw[if_neg (fun X=>by rcases X.2 with h|h<;>first|exact h|(rw[x3]at h;omega))];refine ab.bind (ab.always (co A) ?_);have Z:=NG (s.len+v.len) s.cap;rw[if_neg (by
   have:yN (s.len+v.len) s.cap*O.bytes<=(16*2^32+16*768)*128:=wm (by omega) (by rw[x3];exact E.2);omega)]
  refine ab.bind (ab.Gh ⟨fun U=>(by cases U),fun _ W=>?_⟩);refine ab.bind (ab.always (co A) ?_);refine ab.bind (ab.Dc ?_);refine ab.bind (dV m r ?_);refine ab.bind (dV m J ?_);have D:aA C.P (zeroValue e) zv:=(co A).bind (by rw[Y];exact .pure);refine ab.bind (ab.always D ?_);rw[V,xV];unfold newRow;refine ab.bind (ab.bind (ab.lJ (ab.pure' (ab.pure' ?_))));generalize N:Question.cut (Question.appendCap (s.len+v.len) s.cap e) W=cc;have n:s.len+v.len<=cc:=by rw[<-N];simp only[Question.cut];omega
  refine⟨⟨some ⟨h.size,0,none⟩,s.len+v.len,cc⟩,rfl,L _ _ ⟨?_,.inr ⟨h.size,gl z (cc-(s.len+v.len)),rfl,?_,?_,n⟩⟩ (aG.push _ _ _) ?_⟩
  ·simp;omega
  ·simp
  ·rw[lz,hz]
  ·rintro R ⟨o,d⟩;cases d;exact .inr (qp _)
end
structure bZ (h:Heap) (a:Addr) (e:TypeId) (cs:aQ):Prop where
 off:a.off=0
 spot:a.spot=none
 blk:h[a.block]?=some (.cells cs.toArray e (0,0))
section
variable {h h':Heap} {a:Addr} {e:TypeId} {cs:aQ} {p:ap}
theorem bZ.addr(c:bZ h a e cs):a=⟨a.block,0,none⟩:=by
 obtain⟨b,o,s⟩:=a;have:=c.off;have:=c.spot
 simp_all
theorem bZ.ah(b:bZ h a e cs)(c:aG p h h')(d:p a.block):bZ h' a e cs:=⟨b.off,b.spot,c.block d b.blk⟩
theorem bZ.lt(b:bZ h a e cs):a.block<h.size:=lt_of_block b.blk
theorem bZ.cell(b:bZ h a e cs){j:Nat}{v:Value}(c:cs[j]?=some v):cellOf h (a.add j)=some v:=by
 rw[b.addr,add_eq,uh b.blk];simpa using c
theorem bZ.cell0(c:bZ h a e cs){v:Value}(b:cs[0]?=some v):cellOf h a=some v:=c.cell (j:=0) b
theorem bZ.cells(d:bZ h a e cs)(j:Nat)(vs:aQ)(c:(cs.drop j).take vs.length=vs):ai h (a.add j) 0 vs:=by
 rw[d.addr,add_eq,zG];have b:vs.length<=(cs.drop j).length:=by
  have:=congrArg List.length c;rw[qR]at this;omega
 rcases Nat.lt_or_ge cs.length j with hj|hj
 ·rw[qV]at b;have:vs=[]:=qK (by omega);subst this;trivial
 ·refine sh (e:=e) (fr:=(0,0)) (pre:=cs.take j) (post:=(cs.drop j).drop vs.length) ?_ (by simp;omega);have:cs.take j++vs++(cs.drop j).drop vs.length=cs:=by
   conv=>lhs;rw[qm];arg 2;arg 1;rw[<-c]
   rw[qA,qA]
  rw[this];exact d.blk
theorem bZ.aF(c:bZ h a e cs)(vs:aQ)(b:cs.take vs.length=vs):ai h a 0 vs:=c.cells 0 vs b
end
section
variable {C:Ctx} {t:Nat} {i:TI} {h:Heap}
theorem Hs(e:C.Ok)(f:C.T.get t=some i){K:Addr->Heap->Prop}(c:∀a h',a.block=h.size->bZ h' a t i.zero->aG (fun _=>True) h h'->h'.size=h.size+1->K a h'):
  aI C.P (qG t true (.tuple #[])) h K:=by
 obtain⟨z,d,b⟩:=nw e.toOk f;unfold aI qG;refine ab.bind (ab.always d ?_);refine ab.bind (ab.bind (ab.bind (ab.lJ (ab.pure' (ab.pure' (ab.pure' ?_))))));refine⟨⟨h.size,0,none⟩,rfl,c _ _ rfl ⟨rfl,rfl,?_⟩ (aG.push _ _ _) (by simp)⟩;rw[<-b];simp
theorem VL{v:Value}{P:Program}{K:Addr->Heap->Prop}(b:∀a h',a.block=h.size->bZ h' a t v.cells.toList->aG (fun _=>True) h h'->h'.size=h.size+1->K a h'):
  aI P (qI t v) h K:=by
 unfold aI qI;refine ab.bind (ab.bind (ab.bind (ab.lJ (ab.pure' (ab.pure' (ab.pure' ?_))))));refine⟨⟨h.size,0,none⟩,rfl,b _ _ rfl ⟨rfl,rfl,?_⟩ (aG.push _ _ _) (by simp)⟩;simp
theorem run_store(j:C.Ok){a:Addr}{e:TypeId}{b:aQ}(c:bZ h a e b)(n:C.T.get t=some i)(off:Nat){v:Value}(vs:aQ)(l:v.cells=vs.toArray)(f:i.size=vs.length)
  (d:vs.all (·.oneCell')=true) (g:off+vs.length<=b.length) {K:Unit->Heap->Prop}
  (m:∀h',bZ h' a e (b.take off++vs++b.drop (off+vs.length))->aG (·≠a.block) h h'->h'.size=h.size->K () h'):
  ab C.P (qe t (.pointer (some (a.add off))) v) h K:=by
 have o:=c.addr;unfold qe;refine ab.bind (ab.pure' ?_);unfold storeVar;refine ab.bind (ab.always (cJ j.toOk n) ?_);rw[l,f];simp only[z7,ne_eq,not_true,if_false];rw[o,add_eq,zG];refine cL (e:=e) (pre:=b.take off) (old:=(b.drop off).take vs.length) (post:=b.drop (off+vs.length)) ?_ ?_ ?_ ?_ ?_
 ·have:b.take off++(b.drop off).take vs.length++b.drop (off+vs.length)=b:=by
   rw[<-zq,qm,qA,qA]
  rw[this];exact c.blk
 ·simp;omega
 ·simp;omega
 ·intro x k;have:=qU.1 d x k;exact this
 ·refine m _ ⟨c.off,c.spot,?_⟩ (aG.fc c.blk (by simp)) (by simp[fc]);rw[eF c.blk,if_pos rfl]
theorem Ou(j:C.Ok){a:Addr}{e:TypeId}{c:aQ}(m:bZ h a e c)(k:C.T.get t=some i){v:Value}(vs:aQ)(l:v.cells=vs.toArray)(d:i.size=vs.length)
  (b:vs.all (·.oneCell')=true) (f:vs.length<=c.length) {K:Unit->Heap->Prop}
  (g:∀h',bZ h' a e (vs++c.drop vs.length)->aG (·≠a.block) h h'->h'.size=h.size->K () h'):
  ab C.P (qe t (.pointer (some a)) v) h K:=
 run_store j m k 0 vs l d b (by omega) (fun h' x y z=>g h' (by simpa using x) y z)
end
section
variable {C:Ctx} {t e k:Nat} {z:aQ} {by_:Nat} {α:Type} {h:Heap} {p:ap} {s v:Sl} {f:α->aQ} {l l2:List α}
theorem xW{a:α}(b:f a=z):∀n,gl z n=(qh n a).flatMap f
 |0=>rfl
 |n+1=>by rw[gl,List.replicate_succ,zf,b,xW b n]
theorem an(x:Int)(c:-9223372036854775808<=x:=by omega)(b:x<=9223372036854775807:=by omega):qc vW x=x:=by
 show(if(true&&decide (x%2^64>=2^63))=true then x%2^64-2^64 else x%2^64)=x;by_cases a:x%2^64>=2^63
 ·rw[if_pos (by rw[z8];exact decide_eq_true a)];omega
 ·rw[if_neg (by rw[z8];exact fun h=>a (of_decide_eq_true h))];omega
theorem run_make(l:C.Ok)(q:bN C.tosH t e k z by_)(p:0<by_/\by_<=128)(s:α)(A:f s=z)(d:z.length=k){E J:IntKind}{n c:Int}(m b:Nat)(N:n=m)(M:c=b)(r:m<=b)(u:b<=2^32)
  {K:Sl->Heap->Prop} (L:∀j h',Own h' e j k f (qh m s)->j.ptr=some ⟨h.size,0,none⟩->j.cap=b->aG (fun _=>True) h h'->h'.size=h.size+1->K j h'):
  av C.P (zD t (.int E n) (.int J c)) (.one (.sc .slc)) h K:=by
 subst N;subst M;obtain⟨y,B,x2,x3,I,G,F⟩:=q.info l;unfold av zD;refine ab.bind (ab.always (au (q.under l)) ?_);refine ab.bind (ab.pure' ?_);refine ab.bind (ab.pure' ?_);refine ab.bind (ab.always (co B) ?_);have D:qc vW (m:Int)=m:=an _;have H:qc vW (b:Int)=b:=an _;have O:¬((y.bytes:Int)*(b:Int)>2^48):=by
  rw[x3];have:by_*b<=128*2^32:=wm p.2 u;have:((by_:Int)*(b:Int))<=((128*2^32:Nat):Int):=by exact_mod_cast this
  omega
 simp only[D,H];rw[if_neg (by simp;omega)];refine ab.bind (ab.Dc ?_);refine ab.bind (ab.always (q.size l) ?_);have o:aA C.P (zeroValue e) I:=(co B).bind (by rw[G];exact .pure);have fin:∀g:Array Value,(b*k≠0->g=z.toArray)->ab C.P (do
   let a<-newRow e ((vH (b*k)).map (g[·%g.size]!))
   pure (Value.slice (some a) m b)) h (fun v h'=>∃x:(Rt.one (.sc .slc)).den,v=(Rt.one (.sc .slc)).enc x/\K x h'):=by
  intro g w;have i:((vH (b*k)).map (g[·%g.size]!))=(gl z b).toArray:=by
   by_cases h0:b*k=0
   ·rw[h0];have:gl z b=[]:=qK (by rw[lz,d,h0]);rw[this];simp
   ·rw[w h0];exact JP z b _ (by rw[d])
  rw[i];refine ab.bind (ab.bind (ab.lJ (ab.pure' (ab.pure' ?_))));refine⟨⟨some ⟨h.size,0,none⟩,m,b⟩,rfl,L _ _ ⟨by simp,.inr ⟨h.size,gl z (b-m),rfl,?_,?_,r⟩⟩ rfl rfl (aG.push _ _ _) (by simp)⟩
  ·have:gl z b=(qh m s).flatMap f++gl z (b-m):=by
    rw[xW A,xW A,<-qY,List.replicate_append_replicate];congr 2;omega
   rw[this];simp
  ·rw[lz,d]
 simp only[qq];by_cases h0:b*k=0
 ·rw[if_pos h0];exact ab.bind (ab.pure' (fin _ (fun h=>absurd h0 h)))
 ·rw[if_neg h0];refine ab.bind (ab.always o ?_);exact ab.bind (ab.pure' (fin _ (fun _=>F)))
theorem NH(j:C.Ok)(p:bN C.tosH t e k z by_)(d:z.length=k){n:Nat}{parts:Array (Nat×Value)}(l:List α)(D:l.length=n)(w:n*k<=2^20)
  (b:wi (fun i=>some (i*k,k)) (gl z n).toArray parts.toList=some (l.flatMap f).toArray) {K:Sl->Heap->Prop}
  (y:∀o h',Own h' e o k f l->o.ptr=some ⟨h.size,0,none⟩->aG (fun _=>True) h h'->h'.size=h.size+1->K o h'):
  av C.P (qt t n parts) (.one (.sc .slc)) h K:=by
 obtain⟨A,B,x2,x3,u,s,r⟩:=p.info j;unfold av qt;refine ab.bind (ab.always (au (p.under j)) ?_);refine ab.bind (ab.always (p.size j) ?_);rw[if_neg (by omega)];have m:aA C.P (zeroValue e) u:=(co B).bind (by rw[s];exact .pure);have fin:∀c:Array Value,(n*k≠0->c=z.toArray)->ab C.P (do
   let some cells:=wi (fun i=>some (i*k,k)) ((vH (n*k)).map (c[·%c.size]!)) parts.toList
    |stuck "buildSlice: a part of the wrong size"
   pure (Value.slice (some (<-newRow e cells)) n n)) h (fun v h'=>∃x:(Rt.one (.sc .slc)).den,v=(Rt.one (.sc .slc)).enc x/\K x h'):=by
  intro c q;have g:((vH (n*k)).map (c[·%c.size]!))=(gl z n).toArray:=by
   by_cases h0:n*k=0
   ·rw[h0];have:gl z n=[]:=qK (by rw[lz,d,h0]);rw[this];simp
   ·rw[q h0];exact JP z n _ (by rw[d])
  rw[g,b];refine ab.bind (ab.bind (ab.lJ (ab.pure' (ab.pure' ?_))));refine⟨⟨some ⟨h.size,0,none⟩,n,n⟩,rfl,y _ _ ⟨D.symm,.inr ⟨h.size,[],rfl,by simp,by simp,qp _⟩⟩ rfl (aG.push _ _ _) (by simp)⟩
 by_cases h0:n*k=0
 ·rw[if_pos h0];exact ab.bind (ab.pure' (fin _ (fun h=>absurd h0 h)))
 ·rw[if_neg h0];refine ab.bind (ab.always m ?_);exact ab.bind (ab.pure' (fin _ (fun _=>r)))
theorem Own.set{i:TI}(w:C.Ok)(p:Own h e s k f l)(o:∀x,(f x).length=k)(F:C.T.get t=some i){x:Int}(n:Nat)(A:x=n)(u:n<l.length){val:Value}(y:α)(B:val.cells=(f y).toArray)(r:i.size=k)
  (g:(f y).all (·.oneCell')=true) {K:Heap->Prop} (D:∀h',Own h' e s k f (l.set n y)->aG (fun b=>¬s.on b) h h'->h'.size=h.size->K h'):
  ∃a:Addr,(s.ptr=some a/\0<=x/\x<((s.len:Nat):Int))/\ab C.P (qe t (.pointer (some (a.add (x.toNat*k)))) val) h fun _ h'=>K h':=by
 subst A;rcases p.head with⟨_,_,h3⟩|⟨b,rest,h1,h2,h3,h4⟩
 ·subst h3;simp at u
 ·refine⟨_,⟨h1,by omega,by rw[p.len];omega⟩,?_⟩;unfold qe;refine ab.bind (ab.pure' ?_);unfold storeVar;refine ab.bind (ab.always (cJ w.toOk F) ?_);rw[B,r];have q:=o y;simp only[z7,q,ne_eq,not_true,if_false];rw[add_eq,zG,qq];have d:l=l.take n++l[n]::l.drop (n+1):=by rw[<-qS u,qA]
  have m:l.set n y=l.take n++y::l.drop (n+1):=yh.trans (if_pos u);have j:((l.take n).flatMap f).length=n*k:=by rw[cw o,qR,wv (by omega)]
  refine cL (e:=e) (pre:=(l.take n).flatMap f) (old:=f l[n]) (post:=(l.drop (n+1)).flatMap f++rest) ?_ ?_ ?_ ?_ ?_
  ·have:l.flatMap f++rest=(l.take n).flatMap f++f l[n]++((l.drop (n+1)).flatMap f++rest):=by
    have v:=congrArg (List.flatMap f) d;rw[qY,zf]at v;rw[v];simp
   rw[<-this];exact h2
  ·rw[o,o]
  ·rw[j];omega
  ·intro c E;have:=qU.1 g c E;exact this
  ·refine D _ ⟨by rw[zy];exact p.len,.inr ⟨b,rest,h1,?_,h3,h4⟩⟩ (aG.fc h2 (fun z=>z ⟨0,h1⟩)) (by simp[fc]);rw[eF h2,if_pos rfl,m];simp
end
def grow(c:Nat->Nat)(n i:Nat):Nat->Nat:=fun b=>if b<n then c b else i
theorem dF{c:Nat->Nat}{n i b:Nat}(h:b<n):grow c n i b=c b:=if_pos h
theorem Dg{c:Nat->Nat}{n i b:Nat}(h:n<=b):grow c n i b=i:=if_neg (by omega)
structure gm {α:Type} (h:Heap) (c:Nat->Nat) (i:Nat) (e:TypeId) (s:Sl) (k:Nat) (f:α->aQ) (l:List α):Prop where
 own:Own h e s k f l
 bu:∀b,s.on b->c b=i
structure ui (h:Heap) (c:Nat->Nat) (i:Nat) (a:Addr) (e:TypeId) (cs:aQ):Prop where
 box:bZ h a e cs
 bu:c a.block=i
structure Dh (h0 h:Heap) (c:Nat->Nat):Prop where
 ah:aG (fun b=>b<h0.size) h0 h
 bu:∀b,b<h0.size->c b=0
section
variable {α:Type} {h h' h0:Heap} {c:Nat->Nat} {i j n m:Nat} {e:TypeId} {s:Sl} {k:Nat} {f:α->aQ} {l:List α} {a:Addr} {cs:aQ}
theorem gm.keep(a:gm h c j e s k f l)(n:aG (fun b=>c b≠i) h h')(g:j≠i):gm h' (grow c h.size m) j e s k f l:=
 ⟨a.own.ah n fun b d=>by rw[a.bu b d];exact g,fun b d=>by rw[dF (a.own.lt d)];exact a.bu b d⟩
theorem ui.keep(d:ui h c j a e cs)(g:aG (fun b=>c b≠i) h h')(f:j≠i):ui h' (grow c h.size m) j a e cs:=
 ⟨d.box.ah g (by rw[d.bu];exact f),by rw[dF d.box.lt];exact d.bu⟩
theorem Dh.keep(a:Dh h0 h c)(f:aG (fun b=>c b≠i) h h')(e:i≠0):Dh h0 h' (grow c h.size m):=
 ⟨a.ah.then f fun b d _=>by rw[a.bu b d];exact e.symm,fun b d=>by rw[dF (qQ d a.ah.1)];exact a.bu b d⟩
theorem Dh.refl(h:Heap):Dh h h (fun _=>0):=⟨aG.refl _ _,fun _ _=>rfl⟩
theorem gm.seq(a:gm h c j e s k f l)(d:∀x,(f x).length=k):Seq h (fun b=>c b=j) s k f l:=a.own.seq d a.bu
theorem gm.nil(h:Heap)(c:Nat->Nat)(i:Nat)(e:TypeId)(k:Nat)(f:α->aQ):gm h c i e ⟨none,0,0⟩ k f []:=⟨Own.nil h e k f,fun b d=>by obtain⟨o,a⟩:=d;cases a⟩
def JQ(h:Heap)(c:Nat->Nat)(i:Nat)(s:Sl)(k:Nat)(f:α->aQ)(l:List α):Prop:=Seq h (fun b=>b<h.size/\c b=i) s k f l
theorem JQ.keep(g:JQ h c j s k f l)(e:aG (fun b=>c b≠i) h h')(d:j≠i):JQ h' (grow c h.size m) j s k f l:=
 (Seq.ah g (e.mono fun b _ a=>by rw[a.2];exact d)).mono fun b a=>⟨qQ a.1 e.1,by rw[dF a.1];exact a.2⟩
theorem JQ.new(d:Seq h' (fun b=>h.size<=b/\b<h'.size) s k f l):JQ h' (grow c h.size i) i s k f l:=
 Seq.mono d fun b a=>⟨a.2,Dg a.1⟩
theorem gm.fresh(g:gm h c i e s k f l)(n:Dh h0 h c)(j:i≠0)(m:∀x,(f x).length=k):Seq h (fun b=>h0.size<=b/\b<h.size) s k f l:=
 g.own.seq m fun b a=>⟨vm fun d=>j (by rw[<-g.bu b a,n.bu b d]),g.own.lt a⟩
theorem aG.bu(a:aG (fun _=>True) h h')(c:Nat->Nat)(i:Nat):aG (fun b=>c b≠i) h h':=a.mono fun _ _ _=>trivial
end
section
variable {α:Type} {C:Ctx} {h h' h0:Heap} {c:Nat->Nat} {i:Nat} {e t t2:Nat} {s v:Sl} {k by_:Nat} {f:α->aQ} {l l2:List α} {a:Addr} {cs z:aQ} {p:ap} {ti:TI}
theorem ui.store(l:C.Ok)(g:ui h c i a e cs)(p:C.T.get t=some ti)(off:Nat){v:Value}(vs:aQ)(n:v.cells=vs.toArray)(k:ti.size=vs.length)
  (d:vs.all (·.oneCell')=true) (f:off+vs.length<=cs.length) {K:Unit->Heap->Prop}
  (o:∀h',ui h' (grow c h.size i) i a e (cs.take off++vs++cs.drop (off+vs.length))->aG (fun b=>c b≠i) h h'->K () h'):
  ab C.P (qe t (.pointer (some (a.add off))) v) h K:=
 run_store l g.box p off vs n k d f fun h' x y z=>o h' ⟨x,by rw[dF g.box.lt];exact g.bu⟩ (y.mono fun b _ j m=>j (by rw[m];exact g.bu))
theorem ui.pk(k:C.Ok)(n:ui h c i a e cs)(l:C.T.get t=some ti){v:Value}(vs:aQ)(m:v.cells=vs.toArray)(f:ti.size=vs.length)
  (d:vs.all (·.oneCell')=true) (g:vs.length<=cs.length) {K:Unit->Heap->Prop}
  (j:∀h',ui h' (grow c h.size i) i a e (vs++cs.drop vs.length)->aG (fun b=>c b≠i) h h'->K () h'):
  ab C.P (qe t (.pointer (some a)) v) h K:=
 n.store k l 0 vs m f d (by omega) (fun h' x y=>j h' (by simpa using x) y)
theorem gm.append(q:C.Ok)(d:gm h c i e s k f l)(u:bN C.tosH t e k z by_)(j:∃i e2,C.T.get t2=some i/\i.cr=.slice e2)(E:z.length=k)(m:0<by_/\by_<=128)(r:∀x,(f x).length=k)
  (A:Seq h p v k f l2) (a:∀x,∀c∈f x,c.oneCell'=true) (o:l.length+l2.length<=2^32) {ty:Nat} {K:Sl->Heap->Prop}
  (D:∀g h',gm h' (grow c h.size i) i e g k f (l++l2)->aG (fun b=>c b≠i) h h'->K g h'):
  av C.P (qu #[t,t2] ty #[.slice s.ptr s.len s.cap,.slice v.ptr v.len v.cap]) (.one (.sc .slc)) h K:=
 Ot q u j E m r d.own A a o fun g h' x y w=>D g h' ⟨x,fun b B=>by
  rcases w b B with w|w
  ·rw[dF (d.own.lt w)];exact d.bu b w
  ·exact Dg w⟩ (y.mono fun b _ n j=>n (d.bu b j))
theorem gm.set(p:C.Ok)(g:gm h c i e s k f l)(r:∀x,(f x).length=k)(B:C.T.get t=some ti){x:Int}(n:Nat)(q:x=n)(D:n<l.length){val:Value}(y:α)(v:val.cells=(f y).toArray)(m:ti.size=k)
  (d:(f y).all (·.oneCell')=true) {K:Heap->Prop} (A:∀h',gm h' (grow c h.size i) i e s k f (l.set n y)->aG (fun b=>c b≠i) h h'->K h'):
  ∃a:Addr,(s.ptr=some a/\0<=x/\x<((s.len:Nat):Int))/\ab C.P (qe t (.pointer (some (a.add (x.toNat*k)))) val) h fun _ h'=>K h':=
 g.own.set p r B n q D y v m d fun h' z w _=>A h' ⟨z,fun b o=>by rw[dF (g.own.lt o)];exact g.bu b o⟩ (w.mono fun b _ j u=>j (g.bu b u))
end
section
variable {α:Type} {C:Ctx} {h h' h0:Heap} {c:Nat->Nat} {i j n m:Nat} {e t:Nat} {s v:Sl} {k by_:Nat} {f:α->aQ} {l l2:List α} {z:aQ} {p:ap}
theorem grow_grow{c:Nat->Nat}{n m i:Nat}(h:n<=m):grow (grow c n i) m i=grow c n i:=by
 funext b;unfold grow;split
 ·rfl
 ·rw[if_neg (by omega)]
theorem aG.step(a:aG (fun b=>c b≠i) h h'){d:Heap}(b:aG (fun b=>grow c h.size i b≠i) h' d):aG (fun b=>c b≠i) h d:=
 a.then b fun x f e=>by rw[dF f];exact e
theorem gm.push(E:C.Ok)(q:gm h c i e s k f l)(A:bN C.tosH t e k z by_)(H:z.length=k)(r:0<by_/\by_<=128)(F:∀x,(f x).length=k)
  (d:∀x,∀c∈f x,c.oneCell'=true) (x:α) {parts:Array (Nat×Value)} (a:wi (fun i=>some (i*k,k)) (gl z 1).toArray parts.toList=some ([x].flatMap f).toArray)
  (y:1*k<=2^20) (D:l.length+1<=2^32) {ty:Nat} {K:Sl->Heap->Prop}
  (N:∀n h',gm h' (grow c h.size i) i e n k f (l++[x])->aG (fun b=>c b≠i) h h'->K n h'):
  av C.P (qt t 1 parts) (.one (.sc .slc)) h fun v j=>av C.P (qu #[t,t] ty #[.slice s.ptr s.len s.cap,.slice v.ptr v.len v.cap]) (.one (.sc .slc)) j K:=by
 refine NH E A H [x] rfl y a fun v j L M u _=>?_;have w:aG (fun b=>c b≠i) h j:=u.bu c i;have o:gm j (grow c h.size i) i e s k f l:=⟨q.own.ah u fun _ _=>trivial,fun b G=>by rw[dF (q.own.lt G)];exact q.bu b G⟩
 have m:h.size<=j.size:=u.1;obtain⟨J,Q,O,x2,_⟩:=A.ex;refine o.append E A ⟨J,e,O,x2⟩ H r F (L.seq (p:=fun _=>True) F fun _ _=>trivial) d D fun n I g B=>?_;rw[grow_grow m]at g;exact N n I g (w.step B)
structure nz (h:Heap) (c:Nat->Nat) (top lo:Nat) (e:TypeId) (s:Sl) (k:Nat) (f:α->aQ) (ll:List (List α)) (rs:List Sl):Prop where
 own:gm h c top e s 1 cF rs
 len:rs.length=ll.length
 row:∀(i:Nat) r l,rs[i]?=some r->ll[i]?=some l->Seq h (fun b=>b<h.size/\lo<=c b/\c b<lo+ll.length) r k f l
theorem nz.keep{j:List (List α)}{rs:List Sl}{a d:Nat}(p:nz h c a d e s k f j rs)(q:aG (fun b=>c b≠i) h h')(u:a≠i)(v:i<d∨d+j.length<=i):nz h' (grow c h.size m) a d e s k f j rs:=
 ⟨p.own.keep q u,p.len,fun t r l o n=>((p.row t r l o n).ah (q.mono fun b _ g=>by rintro rfl;omega)).mono fun b g=>⟨qQ g.1 q.1,by rw[dF g.1];exact g.2⟩⟩
theorem nz.nil(h:Heap)(c:Nat->Nat)(a b:Nat)(e:TypeId)(k:Nat)(f:α->aQ):nz h c a b e ⟨none,0,0⟩ k f [] []:=
 ⟨gm.nil _ _ _ _ _ _,rfl,fun i r l h=>by simp at h⟩
theorem pm:∀x,∀c∈cF x,c.oneCell'=true:=by intro x c a;simp only[cF,qB]at a;subst a;rfl
theorem nz.push{j:List (List α)}{rs:List Sl}{a g:Nat}{r:Sl}{x:List α}(G:C.Ok)(u:nz h c a g e s k f j rs)(L:bN C.tosH t e 1 [.slice none 0 0] 24)
  (H:Seq h (fun b=>b<h.size/\c b=g+j.length) r k f x) (D:a<g) (A:j.length+1<=2^32) {ty:Nat} {K:Sl->Heap->Prop}
  (M:∀w h',nz h' (grow c h.size a) a g e w k f (j++[x]) (rs++[r])->aG (fun b=>c b≠a) h h'->K w h'):
  av C.P (qt t 1 #[(0,.slice r.ptr r.len r.cap)]) (.one (.sc .slc)) h fun v n=>av C.P (qu #[t,t] ty #[.slice s.ptr s.len s.cap,.slice v.ptr v.len v.cap]) (.one (.sc .slc)) n K:=by
 refine u.own.push G L rfl (by decide) (fun _=>rfl) pm r rfl (by decide) (by rw[u.len];exact A) fun w h' z o=>M w h' ⟨z,by simp[u.len],fun i J F n p=>?_⟩ o;have d:∀{q:ap} {E:Sl} {l:List α},Seq h q E k f l->(∀b,q b->b<h.size/\g<=c b/\c b<g+(j++[x]).length)->Seq h' (fun b=>b<h'.size/\g<=grow c h.size a b/\grow c h.size a b<g+(j++[x]).length) E k f l:=fun N B=>
  (N.ah (o.mono fun b _ m=>by have:=B b m;omega)).mono fun b m=>by
   have:=B b m;rw[dF this.1];exact⟨qQ this.1 o.1,this.2⟩
 have I:=u.len;by_cases O:i<j.length
 ·rw[ql (by omega)]at n p;exact d (u.row i J F n p) fun b m=>⟨m.1,m.2.1,by simp;omega⟩
 ·have y:i=j.length:=by
   have:=(qk.1 p).1;simp at this;omega
  subst y;simp at p;rw[<-I]at n;simp at n;subst n;subst p;exact d H fun b m=>⟨m.1,by omega,by simp;omega⟩
theorem nz.fresh{j:List (List α)}{rs:List Sl}{a n:Nat}(g:nz h c a n e s k f j rs)(m:Dh h0 h c)(q:a≠0)(p:n≠0):fv h (fun b=>h0.size<=b/\b<h.size) s k f j rs:=
 ⟨g.own.fresh m q fun _=>rfl,g.len,fun i r l t o=>(g.row i r l t o).mono fun b u=>⟨vm fun d=>by have:=m.bu b d;omega,u.1⟩⟩
theorem Own.WV{i:TI}(B:C.Ok)(v:Own h e s k f l)(u:∀x,(f x).length=k)(J:C.T.get t=some i){x:Int}(n w:Nat)(E:x=n)(L:l.length<=n)(q:n<s.cap)(p:w=s.cap){val:Value}(y:α)(G:val.cells=(f y).toArray)(r:i.size=k)
  (j:(f y).all (·.oneCell')=true) {K:Heap->Prop} (H:∀h',Own h' e s k f l->aG (fun b=>¬s.on b) h h'->h'.size=h.size->K h'):
  ∃a:Addr,(s.ptr=some a/\0<=x/\x<((w:Nat):Int))/\ab C.P (qe t (.pointer (some (a.add (x.toNat*k)))) val) h fun _ h'=>K h':=by
 subst E p;rcases v.head with⟨_,h2,h3⟩|⟨b,rest,h1,h2,h3,h4⟩
 ·omega
 ·refine⟨_,⟨h1,by omega,by omega⟩,?_⟩;unfold qe;refine ab.bind (ab.pure' ?_);unfold storeVar;refine ab.bind (ab.always (cJ B.toOk J) ?_);rw[G,r];have g:=u y;simp only[z7,g,ne_eq,not_true,if_false];rw[add_eq,zG,qq];have d:=v.len;have m:=cw u l;have z:l.length*k<=n*k:=zm k L;have o:(n+1)*k<=s.cap*k:=zm k q;have A:(s.cap-s.len)*k=s.cap*k-l.length*k:=by rw[Nat.sub_mul,d]
  have F:(n+1)*k=n*k+k:=zU n k;refine cL (e:=e) (pre:=l.flatMap f++rest.take (n*k-l.length*k)) (old:=(rest.drop (n*k-l.length*k)).take k) (post:=rest.drop (n*k-l.length*k+k)) ?_ ?_ ?_ ?_ ?_
  ·have:l.flatMap f++rest=l.flatMap f++rest.take (n*k-l.length*k)++(rest.drop (n*k-l.length*k)).take k++rest.drop (n*k-l.length*k+k):=by
    rw[qm,qm,<-zq,qA,qA]
   rw[<-this];exact h2
  ·rw[g,qR,qV];omega
  ·rw[qw,qR,m];omega
  ·intro c I;have:=qU.1 j c I;exact this
  ·refine H _ ⟨d,.inr ⟨b,rest.take (n*k-l.length*k)++f y++rest.drop (n*k-l.length*k+k),h1,?_,?_,h4⟩⟩ (aG.fc h2 (fun D=>D ⟨0,h1⟩)) (by simp[fc])
   ·rw[eF h2,if_pos rfl];simp
   ·simp only[qw,qR,qV,g];omega
theorem Own.copy(o:C.Ok)(r:bN C.tosH t e k z by_)(n:∀x,(f x).length=k)(q:Own h e s k f l)(u:Seq h p v k f l2)(a:l2.length=l.length)(d:∀x,∀c∈f x,c.oneCell'=true){A ty:Nat}{K:Int->Heap->Prop}
  (w:∀h',Own h' e s k f l2->aG (fun b=>¬s.on b) h h'->h'.size=h.size->K l2.length h'):
  av C.P (zK #[t,A] ty #[.slice s.ptr s.len s.cap,.slice v.ptr v.len v.cap]) (.one (.sc (.int .i64))) h K:=by
 unfold av zK;simp only[zp,zX,qo];refine ab.bind (ab.always (au (r.under o)) ?_);refine ab.bind (ab.pure' ?_);refine ab.bind (ab.always (r.size o) ?_);have g:=q.len;have i:=u.len;have j:Nat.min v.len s.len=v.len:=wv (by omega);rw[j];refine ab.bind (dV n u ?_);rcases q.head with⟨h1,h2,h3⟩|⟨b,rest,h1,h2,h3,h4⟩
 ·rw[h1];have:l2=[]:=qK (by rw[a,h3];rfl);subst this;refine ab.pure' ⟨0,by simp[goInt,i],w h ⟨by rw[g,h3],.inl ⟨h1,h2,rfl⟩⟩ (aG.refl _ _) rfl⟩
 ·rw[h1];refine ab.bind ?_;refine cL (e:=e) (pre:=[]) (old:=l.flatMap f) (post:=rest) (by simpa using h2) (by rw[cw n,cw n,a]) rfl ?_ ?_
  ·intro c y;obtain⟨x,_,m⟩:=zL.1 y;exact d x c m
  ·refine ab.pure' ⟨_,by rw[goInt,i],w _ ⟨by rw[g,a],.inr ⟨b,rest,h1,?_,h3,h4⟩⟩ (aG.fc h2 (fun B=>B ⟨0,h1⟩)) (by simp[fc])⟩;rw[eF h2,if_pos rfl];simp
end
def uj{α:Type}(x:Int)(v:α):List (Int×α)->List (Int×α)
 |[]=>[(x,v)]
 |(k,u)::t=>if k=x then(k,v)::t else(k,u)::uj x v t
def nA{α:Type}(x:Int):List (Int×α)->Option α
 |[]=>none
 |(k,u)::t=>if k=x then some u else nA x t
structure nB {α:Type} (h:Heap) (r:Nat) (g:α->Value) (kvs:List (Int×α)):Prop where
 ex:∃es clock,h[r]?=some (.map es clock)/\es.toList.map (fun e=>(e.key,e.val))=kvs.map (fun p=>(Value.int .i64 p.1,g p.2))
section
variable {α:Type} {P:Program} {h h':Heap} {r:Nat} {g:α->Value} {kvs:List (Int×α)}
theorem nB.ah{p:ap}(i:nB h r g kvs)(f:aG p h h')(d:p r):nB h' r g kvs:=by
 obtain⟨c,a,e,b⟩:=i.ex;exact⟨c,a,f.block d e,b⟩
theorem nB.lt(c:nB h r g kvs):r<h.size:=by
 obtain⟨e,a,b,d⟩:=c.ex;exact lt_of_block b
theorem po{x:Int}:∀{L:List MapEntry} {kvs:List (Int×α)} {n:Nat},L.map (fun e=>(e.key,e.val))=kvs.map (fun p=>(Value.int .i64 p.1,g p.2))->nA x kvs=none->
  wU (.int .i64) (vQ vW x) L n=some none
 |[],_,_,_,_=>rfl
 |e::L,[],_,h,_=>by simp at h
 |e::L,(k,u)::t,n,h,hg=>by
  simp only[z6,List.cons.injEq,Prod.mk.injEq]at h;obtain⟨⟨b,c⟩,h3⟩:=h;unfold nA at hg;split at hg
  ·cases hg
  ·rename_i a;have:(x==k)=false:=by simp;exact fun e=>a e.symm
   simp only[wU,yY,b,if_true,this];exact po h3 hg
theorem pq{x:Int}{u:α}(v:α)(f:MapEntry->MapEntry)(c:∀e,e.key=Value.int .i64 x->((f e).key,(f e).val)=(Value.int .i64 x,g v)):∀{L:List MapEntry} {kvs:List (Int×α)} {n:Nat},L.map (fun e=>(e.key,e.val))=kvs.map (fun p=>(Value.int .i64 p.1,g p.2))->nA x kvs=some u->
  ∃j e,wU (.int .i64) (vQ vW x) L n=some (some (n+j,g u))/\L[j]?=some e/\e.key=vQ vW x/\(L.modify j f).map (fun e=>(e.key,e.val))=(uj x v kvs).map (fun p=>(Value.int .i64 p.1,g p.2))
 |[],[],_,_,hg=>by cases hg
 |e::L,[],_,h,_=>by simp at h
 |[],_::_,_,h,_=>by simp at h
 |e::L,(k,w)::t,n,h,hg=>by
  simp only[z6,List.cons.injEq,Prod.mk.injEq]at h;obtain⟨⟨a,d⟩,h3⟩:=h;unfold nA at hg;by_cases b:k=x
  ·subst b;rw[if_pos rfl]at hg;cases hg;refine⟨0,e,?_,rfl,a,?_⟩
   ·simp only[wU,yY,a,if_true,beq_self_eq_true,d,wT]
   ·simp only[uj,if_true,List.modify_zero_cons,z6,h3,c e a]
  ·rw[if_neg b]at hg;obtain⟨j,i,m,l,q,o⟩:=pq v f c (n:=n+1) h3 hg;refine⟨j+1,i,?_,l,q,?_⟩
   ·have:(x==k)=false:=by simp;exact fun e=>b e.symm
    simp only[wU,yY,a,if_true,this];rw[m];congr 3;omega
   ·simp only[uj,b,if_false,List.modify_succ_cons,z6,o,a,d]
theorem xX{a:TypeId}{k:IntKind}{x:Int}{b:Bool}(c:P.underlying a=some (.int k))(n:Nat):aA P (vC b (n+1) a (.int k x)) ():=by
 unfold vC;exact(au c).bind .pure
theorem nB.lookup{t f i:Nat}{u0:α}{x:Int}(q:nB h r g kvs)(m:P.underlying t=some (.map f i))(b:P.underlying f=some (.int .i64))(p:aA P (zeroValue i) (g u0))
  {rt:Rt} {K:rt.den->Heap->Prop} (a:∃d:rt.den,g ((nA x kvs).getD u0)=rt.enc d/\K d h):
  av P (vg t (.map (some r)) (vQ vW x) false) rt h K:=by
 obtain⟨s,c,o,k⟩:=q.ex;unfold av vg;refine ab.bind (ab.always (au m) ?_);refine ab.bind (ab.oV o (fun _ _ _ h=>by cases h) ?_);refine ab.bind (ab.pure' ?_);refine ab.bind (ab.always (xX b 9999) ?_);unfold vv;refine ab.bind (ab.bind (ab.always (au b) ?_));cases hg:nA x kvs with
 |none=>
  rw[po k hg];refine ab.pure' ?_;refine ab.bind (ab.always p ?_);refine ab.bind (ab.pure' (ab.pure' ?_));rw[hg]at a;exact a
 |some u=>
  obtain⟨j,e,l,_⟩:=pq (x:=x) (n:=0) u (fun e=>⟨e.key,g u,e.born⟩) (fun e a=>by simp[a]) k hg;rw[l];refine ab.pure' ?_;refine ab.bind (ab.pure' (ab.pure' ?_));rw[hg]at a;exact a
theorem nB.update{t m y:Nat}{x:Int}(v:α)(I:nB h r g kvs)(D:P.underlying t=some (.map m y))(a:P.underlying m=some (.int .i64))
  {K:Unit->Heap->Prop} (s:∀h',nB h' r g (uj x v kvs)->aG (·≠r) h h'->h'.size=h.size->K () h'):
  ab P (yj t (.map (some r)) (vQ vW x) (g v)) h K:=by
 obtain⟨A,i,b,d⟩:=I.ex;have q:=lt_of_block b;unfold yj;refine ab.bind (ab.always (au D) ?_);refine ab.bind (ab.oV b (fun _ _ _ h=>by cases h) ?_);refine ab.bind (ab.always (xX a 9999) ?_);unfold vv;refine ab.bind (ab.bind (ab.always (au a) ?_));have ah:∀o,aG (·≠r) h (h.setIfInBounds r o):=fun o=>aG.fc b (fun w=>w rfl);cases hg:nA x kvs with
 |none=>
  rw[po d hg];refine ab.pure' ?_;refine ab.oW b (fun _ _ _ h=>by cases h) ?_;refine s _ ⟨_,_,by rw[zC,if_pos rfl,if_pos q],?_⟩ (ah _) (by simp);have app:∀l:List (Int×α),nA x l=none->uj x v l=l++[(x,v)]:=by
   intro l
   induction l with
   |nil=>intro _;rfl
   |cons p l ih=>
    obtain⟨k,u⟩:=p;intro c;unfold nA at c;split at c
    ·cases c
    ·rename_i f;simp only[uj,f,if_false,ih c,zk]
  rw[app kvs hg];simp[d]
 |some u=>
  obtain⟨j,e,B,z,G,F⟩:=pq (x:=x) (n:=0) v (fun e=>{e with key:=vQ vW x,val:=g v}) (fun e _=>rfl) d hg;rw[B];refine ab.pure' ?_;have E:A[0+j]?=some e:=by rw[zG,<-Array.getElem?_toList];exact z
  dsimp only;rw[E];simp only[qJ,Option.getD_some,G];refine ab.bind ?_;unfold Instr.keyThatStays;have H:vD 10000 (vQ vW x) (vQ vW x)=true:=by simp[vD]
  rw[H,if_pos rfl];refine ab.pure' ?_;refine ab.oW b (fun _ _ _ h=>by cases h) ?_;refine s _ ⟨_,_,by rw[zC,if_pos rfl,if_pos q],?_⟩ (ah _) (by simp);rw[Array.toList_modify,zG];exact F
end
theorem JR(x n:Int)(b:0<n):x%n=if x.tmod n<0 then x.tmod n+n else x.tmod n:=by
 have e:=Int.tmod_lt_of_pos x b;have c:-n<x.tmod n:=Int.lt_tmod_of_pos x b;have d:=Int.tmod_add_mul_tdiv x n;have a:0<=(if x.tmod n<0 then x.tmod n+n else x.tmod n)/\(if x.tmod n<0 then x.tmod n+n else x.tmod n)<n:=by split<;>omega
 have e2:x=(if x.tmod n<0 then x.tmod n+n else x.tmod n)+n*(if x.tmod n<0 then x.tdiv n-1 else x.tdiv n):=by
  split
  ·rw[Int.mul_sub];omega
  ·omega
 conv=>lhs;rw[e2]
 rw[Int.add_mul_emod_self_left];exact Int.emod_eq_of_lt a.1 a.2
theorem aK{α:Type}(l:List α)(k:Nat)(h:k<l.length:=by omega):l.take (k+1)=l.take k++[l[k]]:=List.take_succ_eq_append_getElem h
theorem iU:∀x,∀c∈aE x,c.oneCell'=true:=by intro x c a;simp only[aE,qB]at a;subst a;rfl
theorem fX:∀x,∀c∈aw x,c.oneCell'=true:=by intro x c a;simp only[aw,qB]at a;subst a;rfl
theorem up{h c d:Heap}(a:aG (fun b=>b<h.size) h c)(b:aG (fun b=>b<c.size) c d):aG (fun b=>b<h.size) h d:=
 a.then b fun _ e _=>qQ e a.1
theorem any{h c:Heap}(a:aG (fun _=>True) h c):aG (fun b=>b<h.size) h c:=a.mono fun _ _ _=>trivial
theorem Seq.up{α:Type}{h a:Heap}{s:Sl}{k:Nat}{f:α->aQ}{l:List α}(d:Seq h (fun b=>b<h.size) s k f l)(c:aG (fun b=>b<h.size) h a):Seq a (fun b=>b<a.size) s k f l:=
 (d.ah c).mono fun _ e=>qQ e c.1
theorem fv.up{α:Type}{h a:Heap}{s:Sl}{k:Nat}{f:α->aQ}{l:List (List α)}{rs:List Sl}(d:fv h (fun b=>b<h.size) s k f l rs)(c:aG (fun b=>b<h.size) h a):fv a (fun b=>b<a.size) s k f l rs:=
 (d.ah c).mono fun _ e=>qQ e c.1
theorem fv.Ov{α:Type}{h:Heap}{p:ap}{s:Sl}{k:Nat}{f:α->aQ}{b:List (List α)}{rs:List Sl}(m:fv h p s k f b rs){i:Int}(n:Nat)(j:i=n)(o:n<b.length){K:Addr->Sl->Prop}
  (g:∀a r,cellOf h (a.add (i.toNat*1))=some (.slice r.ptr r.len r.cap)->Seq h p r k f b[n]->rs[n]?=some r->K a r):
  ∃a:Addr,(s.ptr=some a/\0<=i/\i<((s.len:Nat):Int))/\∃x:Sl,cellOf h (a.add (i.toNat*1))=some (.slice x.ptr x.len x.cap)/\K a x:=by
 obtain⟨a,l,x,e,d,c⟩:=m.get n j o (K:=fun r=>Seq h p r k f b[n]/\rs[n]?=some r) (fun r d c=>⟨d,c⟩);exact⟨a,l,x,e,g a x e d c⟩
theorem Seq.drop{α:Type}{h:Heap}{p:ap}{s:Sl}{w:Nat}{f:α->aQ}{l:List α}(c:Seq h p s w f l)(k:Nat)(m:s.len<=s.cap):
  Seq h p ⟨if s.cap=k then s.ptr else s.ptr.map (·.add (k*w)),s.len-k,s.cap-k⟩ w f (l.drop k):=by
 have e:=c.len;refine⟨by simp[e],fun i x a=>?_⟩;rw[wo]at a;obtain⟨b,o,j,g,h3⟩:=c.elem _ x a;have d:=(qk.1 a).1;refine⟨b,o+k*w,?_,g,?_⟩
 ·dsimp only;rw[if_neg (by omega),j,qJ,add_eq]
 ·rw[show o+k*w+i*w=o+(k+i)*w by rw[Nat.add_mul];omega];exact h3
theorem Seq.take{α:Type}{h:Heap}{p:ap}{s:Sl}{w:Nat}{f:α->aQ}{l:List α}(b:Seq h p s w f l)(k:Nat)(c:k<=l.length):
  Seq h p ⟨s.ptr,k,s.cap⟩ w f (l.take k):=by
 refine⟨by simp;omega,fun i x a=>?_⟩;rw[yA]at a;split at a
 ·exact b.elem i x a
 ·cases a
theorem getD_lt{α:Type}{l:List α}{d:α}{i:Nat}(h:i<l.length):l.getD i d=l[i]:=by rw[qf,qd h];rfl
structure HP where
 p:Heap->ap->Prop
 loc:∀{h h':Heap} {q:ap},p h q->aG q h h'->p h' q
 mono:∀{h:Heap} {q q':ap},p h q->(∀b,q b->q' b)->p h q'
def emp:HP:=⟨fun _ _=>True,fun _ _=>trivial,fun _ _=>trivial⟩
def aj{α:Type}(e:TypeId)(s:Sl)(k:Nat)(f:α->aQ)(l:List α):HP:=
 ⟨fun h q=>Own h e s k f l/\∀b,s.on b->q b,fun a d=>⟨a.1.ah d a.2,a.2⟩,fun a c=>⟨a.1,fun b g=>c b (a.2 b g)⟩⟩
def ag(a:Addr)(e:TypeId)(b:aQ):HP:=
 ⟨fun h q=>bZ h a e b/\q a.block,fun x d=>⟨x.1.ah d x.2,x.2⟩,fun x c=>⟨x.1,c _ x.2⟩⟩
def jo{α:Type}(s:Sl)(k:Nat)(f:α->aQ)(l:List α):HP:=
 ⟨fun h q=>Seq h q s k f l,fun a c=>a.ah c,fun a b=>a.mono b⟩
def gz{α:Type}(e:TypeId)(s:Sl)(k:Nat)(f:α->aQ)(m:List (List α)):HP:=
 ⟨fun h q=>∃(rs:List Sl) (j:ap),Own h e s 1 cF rs/\(∀b,s.on b->q b/\¬j b)/\(∀b,j b->q b)/\rs.length=m.length/\∀(i:Nat) r l,rs[i]?=some r->m[i]?=some l->Seq h j r k f l,
  fun⟨rs,j,a,b,c,d,e⟩ hp=>⟨rs,j,a.ah hp fun x g=>(b x g).1,b,c,d,fun i r l o n=>(e i r l o n).ah (hp.mono fun x _ g=>c x g)⟩,
  fun⟨rs,j,a,b,c,d,e⟩ hq=>⟨rs,j,a,fun x g=>⟨hq x (b x g).1,(b x g).2⟩,fun x g=>hq x (c x g),d,e⟩⟩
structure aa (B:ap) (h0 h:Heap) (As:List HP):Prop where
 low:∀b,B b->b<h0.size
 ah:aG B h0 h
 ex:∃c:Nat->Nat,(∀b,B b->c b=0)/\∀(i:Nat) (A:HP),As[i]?=some A->A.p h (fun b=>b<h.size/\c b=i+1)
abbrev Sp(a h:Heap)(As:List HP):Prop:=aa (fun b=>b<a.size) a h As
section
variable {B:ap} {h0 h h':Heap} {As Bs:List HP} {A A2 D:HP} {c:Nat->Nat} {i j:Nat}
theorem Sp.refl(h:Heap):Sp h h []:=⟨fun _ h=>h,aG.refl _ _,fun _=>0,fun _ _=>rfl,fun i A a=>by simp at a⟩
theorem aa.le(H:aa B h0 h As):h0.size<=h.size:=H.ah.1
theorem aa.at(H:aa B h0 h As)(i:Nat)(d:As[i]?=some A):A.p h (fun b=>b<h.size):=by
 obtain⟨c,_,a⟩:=H.ex;exact A.mono (a i A d) fun _ e=>e.1
theorem aa.fin(H:aa B h0 h As)(i:Nat)(e:As[i]?=some A):A.p h (fun b=>¬B b/\b<h.size):=by
 obtain⟨c,f,d⟩:=H.ex;exact A.mono (d i A e) fun b g=>⟨fun a=>by have:=f b a;omega,g.1⟩
theorem Sp.fresh(H:Sp h0 h As)(i:Nat)(a:As[i]?=some A):A.p h (fun b=>h0.size<=b/\b<h.size):=
 A.mono (aa.fin H i a) fun b c=>⟨by omega,c.2⟩
theorem aa.comp(H:aa B h0 h As)(R:Sp h h' Bs):aa B h0 h' (As++Bs):=by
 obtain⟨g,k,o,p,q⟩:=H;obtain⟨_,f,j,m,n⟩:=R;have c:=k.1;refine⟨g,k.then f fun b a _=>qQ a c,fun b=>if b<h.size then o b else if j b=0 then 0 else As.length+j b,fun b a=>?_,fun i A d=>?_⟩
 ·dsimp only;rw[if_pos (qQ (g b a) c)];exact p b a
 ·by_cases l:i<As.length
  ·rw[ql l]at d;refine A.mono (A.loc (q i A d) (f.mono fun b _ a=>a.1)) fun b a=>⟨qQ a.1 f.1,?_⟩
   dsimp only;rw[if_pos a.1];exact a.2
  ·rw[qg (by omega)]at d;refine A.mono (n _ A d) fun b a=>⟨a.1,?_⟩
   have:¬b<h.size:=fun e=>by have:=m b e;omega
   dsimp only;rw[if_neg this,if_neg (by omega)];omega
theorem aa.up(H:aa B h0 h As)(R:aG (fun b=>b<h.size) h h'):aa B h0 h' As:=by
 have:=H.comp (Bs:=[]) ⟨fun _ h=>h,R,fun _=>0,fun _ _=>rfl,fun i A a=>by simp at a⟩;simpa using this
theorem Sp.one(R:aG (fun b=>b<h.size) h h')(d:A.p h' (fun b=>h.size<=b/\b<h'.size)):Sp h h' [A]:=by
 refine⟨fun _ h=>h,R,fun b=>if b<h.size then 0 else 1,fun b c=>if_pos c,fun i A2 a=>?_⟩;cases i with
 |succ i=>simp at a
 |zero=>
  simp at a;subst a;exact A.mono d fun b c=>⟨c.2,by dsimp only;rw[if_neg (by omega)]⟩
theorem Sp.zip(R:aG (fun b=>b<h.size) h h'):Sp h h' []:=aa.up (Sp.refl h) R
theorem aa.enter(q:ap)(c:Nat->Nat)(f:∀b,q b->b<h.size)(a:∀(i:Nat) (A:HP),As[i]?=some A->A.p h (fun b=>q b/\c b=i+1)):aa (fun b=>b<h.size/\¬q b) h h As:=by
 classical
 refine⟨fun b d=>d.1,aG.refl _ _,fun b=>if q b then c b else 0,fun b d=>if_neg d.2,fun i A e=>A.mono (a i A e) fun b d=>⟨f b d.1,?_⟩⟩;dsimp only;rw[if_pos d.1];exact d.2
theorem aa.Qz(q:ap)(d:∀b,q b->b<h.size)(a:A.p h q):aa (fun b=>b<h.size/\¬q b) h h [A]:=
 .enter q (fun _=>1) d fun i A2 c=>by
  cases i with
  |succ i=>simp at c
  |zero=>simp at c;subst c;exact A.mono a fun b e=>⟨e,rfl⟩
theorem aa.BH(l:∀b,B b->b<h0.size)(f:aG B h0 h)(z:∀b,B b->c b=0)(a:∀(i:Nat) (A:HP),As[i]?=some A->A.p h (fun b=>b<h.size/\c b=i+1))
  (k:aG (fun b=>¬(b<h.size/\c b=i+1)) h h') (m:D.p h' (fun b=>b<h'.size/\((b<h.size/\c b=i+1)∨h.size<=b))):aa B h0 h' (As.set i D):=by
 refine⟨l,f.then k fun b _ d n=>by have:=z b d;omega,grow c h.size (i+1),fun b d=>?_,fun j A e=>?_⟩
 ·rw[dF (qQ (l b d) f.1)];exact z b d
 ·rw[qW]at e;split at e
  ·rename_i g;subst g;split at e
   ·injection e with e
    subst e;refine D.mono m fun b d=>⟨d.1,?_⟩
    rcases d.2 with h1|h1
    ·rw[dF h1.1];exact h1.2
    ·exact Dg h1
   ·cases e
  ·rename_i g;refine A.mono (A.loc (a j A e) (k.mono fun b _ d n=>by omega)) fun b d=>⟨qQ d.1 k.1,?_⟩
   rw[dF d.1];exact d.2
theorem aa.step(H:aa B h0 h As)(i:Nat)(e:As[i]?=some A)(j:∀q:ap,A.p h q->(∀b,q b->b<h.size)->aG (fun b=>¬q b) h h'/\D.p h' (fun b=>b<h'.size/\(q b∨h.size<=b))):aa B h0 h' (As.set i D):=by
 obtain⟨f,p,c,z,a⟩:=H;obtain⟨g,d⟩:=j _ (a i A e) fun b k=>k.1;exact aa.BH f p z a g d
theorem aa.gn(H:aa B h0 h As)(i:Nat)(d:As[i]?=some A)(f:∀q:ap,A.p h q->D.p h q):aa B h0 h (As.set i D):=
 H.step i d fun q e a=>⟨aG.refl _ _,D.mono (f q e) fun b c=>⟨a b c,.inl c⟩⟩
theorem aa.merge(H:aa B h0 h As)(i j:Nat)(u:i≠j)(r:As[i]?=some A)(q:As[j]?=some A2)
  (t:∀m l:ap,(∀b,m b->¬l b)->A.p h m->A2.p h l->D.p h (fun b=>m b∨l b)):aa B h0 h ((As.set i D).set j emp):=by
 obtain⟨o,p,c,z,a⟩:=H;refine⟨o,p,fun b=>if c b=j+1 then i+1 else c b,fun b f=>?_,fun k n d=>?_⟩
 ·have:=z b f;dsimp only;rw[if_neg (by omega)];exact this
 ·rw[qW]at d;split at d
  ·split at d
   ·cases d;trivial
   ·cases d
  ·rename_i s;rw[qW]at d;split at d
   ·rename_i g;subst g;split at d
    ·injection d with d
     subst d;refine D.mono (t _ _ (fun b e v=>by omega) (a i A r) (a j A2 q)) fun b f=>?_;rcases f with e|e
     ·exact⟨e.1,by dsimp only;rw[if_neg (by omega)];exact e.2⟩
     ·exact⟨e.1,by dsimp only;rw[if_pos e.2]⟩
    ·cases d
   ·rename_i g;refine n.mono (a k n d) fun b f=>⟨f.1,?_⟩
    dsimp only;rw[if_neg (by omega)];exact f.2
theorem aa.pick(H:aa B h0 h As)(f:Nat->Nat)(l:∀i j,f i=f j->i=j)(m:∀(i:Nat) (A2:HP),Bs[i]?=some A2->As[f i]?=some A2):aa B h0 h Bs:=by
 obtain⟨n,p,c,z,a⟩:=H
 classical
 refine⟨n,p,fun b=>if e:∃i,c b=f i+1 then e.choose+1 else 0,fun b e=>?_,fun i A2 g=>?_⟩
 ·have:=z b e;dsimp only;rw[dif_neg];rintro⟨i,g⟩;omega
 ·refine A2.mono (a _ _ (m i A2 g)) fun b e=>⟨e.1,?_⟩
  have d:∃i,c b=f i+1:=⟨i,e.2⟩
  dsimp only;rw[dif_pos d];have o:=d.choose_spec;have k:=l d.choose i (by omega);rw[k]
theorem aa.take(H:aa B h0 h As)(n:Nat)(a:∀(i:Nat) (A2:HP),Bs[i]?=some A2->As[n+i]?=some A2):aa B h0 h Bs:=H.pick (fun i=>n+i) (fun _ _ h=>by omega) a
end
section
variable {B:ap} {α:Type} {C:Ctx} {h0 h h':Heap} {As:List HP} {i e t t2:Nat} {s v:Sl} {k by_:Nat} {f:α->aQ} {l l2:List α} {a:Addr} {cs z:aQ} {p:ap} {ti:TI}
theorem aa.own(H:aa B h0 h As)(i:Nat)(a:As[i]?=some (aj e s k f l)):Own h e s k f l:=(H.at i a).1
theorem aa.seq(H:aa B h0 h As)(i:Nat)(a:As[i]?=some (aj e s k f l))(c:∀x,(f x).length=k):Seq h (fun b=>b<h.size) s k f l:=(H.at i a).1.seq c (H.at i a).2
theorem aa.rd(H:aa B h0 h As)(i:Nat)(a:As[i]?=some (jo s k f l)):Seq h (fun b=>b<h.size) s k f l:=H.at i a
theorem aa.box(H:aa B h0 h As)(i:Nat)(b:As[i]?=some (ag a e cs)):bZ h a e cs:=(H.at i b).1
theorem aa.jN(H:aa B h0 h As)(i:Nat)(r:As[i]?=some (aj e s k f l)){β:Type}{n p:Nat}{g:β->aQ}{m:List β}(o:aG (fun b=>¬s.on b) h h')(q:Own h' n s p g m):aa B h0 h' (As.set i (aj n s p g m)):=
 H.step i r fun _ j c=>⟨o.mono fun b _ a d=>a (j.2 b d),q,fun b a=>⟨qQ (c b (j.2 b a)) o.1,.inl (j.2 b a)⟩⟩
theorem aa.oY(H:aa B h0 h As)(i:Nat)(l:As[i]?=some (ag a e cs)){c:aQ}(j:aG (fun b=>b≠a.block) h h')(k:bZ h' a e c):aa B h0 h' (As.set i (ag a e c)):=
 H.step i l fun q g d=>⟨j.mono fun b _ m f=>m (by rw[f];exact g.2),k,⟨qQ (d _ g.2) j.1,.inl g.2⟩⟩
theorem aa.freeze(H:aa B h0 h As)(i:Nat)(b:As[i]?=some (aj e s k f l))(c:∀x,(f x).length=k):aa B h0 h (As.set i (jo s k f l)):=H.gn i b fun _ a=>a.1.seq c a.2
theorem aa.set(g:C.Ok)(H:aa B h0 h As)(i:Nat)(d:As[i]?=some (aj e s k f l))(m:∀x,(f x).length=k)(o:C.T.get t=some ti){x:Int}(n:Nat)(j:x=n)(r:n<l.length){val:Value}(y:α)(p:val.cells=(f y).toArray)(c:ti.size=k)
  (b:(f y).all (·.oneCell')=true) {K:Heap->Prop} (q:∀h',aa B h0 h' (As.set i (aj e s k f (l.set n y)))->K h'):
  ∃a:Addr,(s.ptr=some a/\0<=x/\x<((s.len:Nat):Int))/\ab C.P (qe t (.pointer (some (a.add (x.toNat*k)))) val) h fun _ h'=>K h':=
 (H.own i d).set g m o n j r y p c b fun h' z w _=>q h' (H.jN i d w z)
theorem aa.push(y:C.Ok)(H:aa B h0 h As)(i:Nat)(N:As[i]?=some (aj e s k f l))(G:bN C.tosH t e k z by_)(L:z.length=k)(p:0<by_/\by_<=128)(E:∀x,(f x).length=k)
  (n:∀x,∀c∈f x,c.oneCell'=true) (x:α) {parts:Array (Nat×Value)} (g:wi (fun i=>some (i*k,k)) (gl z 1).toArray parts.toList=some ([x].flatMap f).toArray)
  (q:1*k<=2^20) (u:l.length+1<=2^32) {ty:Nat} {K:Sl->Heap->Prop}
  (J:∀o h',aa B h0 h' (As.set i (aj e o k f (l++[x])))->K o h'):
  av C.P (qt t 1 parts) (.one (.sc .slc)) h fun v I=>av C.P (qu #[t,t] ty #[.slice s.ptr s.len s.cap,.slice v.ptr v.len v.cap]) (.one (.sc .slc)) I K:=by
 obtain⟨A,D,c,O,a⟩:=H;have w:=a i _ N;have F:gm h c (i+1) e s k f l:=⟨w.1,fun b j=>(w.2 b j).2⟩
 refine F.push y G L p E n x g q u fun o h' d r=>J o h' ?_;refine aa.BH A D O a (r.mono fun b j Q M=>Q ⟨j,M⟩) ⟨d.own,fun b j=>⟨d.own.lt j,?_⟩⟩;have:=d.bu b j;by_cases m:b<h.size
 ·rw[dF m]at this;exact .inl ⟨m,this⟩
 ·exact .inr (by omega)
theorem aa.append(w:C.Ok)(H:aa B h0 h As)(i:Nat)(N:As[i]?=some (aj e s k f l))(G:bN C.tosH t e k z by_)(E:∃i e2,C.T.get t2=some i/\i.cr=.slice e2)(L:z.length=k)(o:0<by_/\by_<=128)(D:∀x,(f x).length=k)
  (I:Seq h p v k f l2) (m:∀x,∀c∈f x,c.oneCell'=true) (r:l.length+l2.length<=2^32) {ty:Nat} {K:Sl->Heap->Prop}
  (J:∀n h',aa B h0 h' (As.set i (aj e n k f (l++l2)))->K n h'):
  av C.P (qu #[t,t2] ty #[.slice s.ptr s.len s.cap,.slice v.ptr v.len v.cap]) (.one (.sc .slc)) h K:=by
 obtain⟨y,A,c,O,a⟩:=H;have u:=a i _ N;have F:gm h c (i+1) e s k f l:=⟨u.1,fun b g=>(u.2 b g).2⟩
 refine F.append w G E L o D I m r fun n h' d q=>J n h' ?_;refine aa.BH y A O a (q.mono fun b g Q M=>Q ⟨g,M⟩) ⟨d.own,fun b g=>⟨d.own.lt g,?_⟩⟩;have:=d.bu b g;by_cases j:b<h.size
 ·rw[dF j]at this;exact .inl ⟨j,this⟩
 ·exact .inr (by omega)
theorem Gm{h c:Heap}{n:Nat}(j:n=h.size)(g:Own c e s k f l)(i:s.ptr=some ⟨n,0,none⟩)(d:aG (fun _=>True) h c):Sp h c [aj e s k f l]:=
 .one (any d) ⟨g,fun b a=>⟨by obtain⟨o,a⟩:=a;rw[i]at a;cases a;omega,g.lt a⟩⟩
theorem aa.make(p:C.Ok)(H:aa B h0 h As)(f:α->aQ)(r:bN C.tosH t e k z by_)(d:0<by_/\by_<=128)(i:α)(u:f i=z)(c:z.length=k){o q:IntKind}{n l:Int}(m b:Nat)(D:n=m)(v:l=b)(g:m<=b)(j:b<=2^32)
  {K:Sl->Heap->Prop} (s:∀a h',a.len=m->a.cap=b->aa B h0 h' (As++[aj e a k f (qh m i)])->K a h'):
  av C.P (zD t (.int o n) (.int q l)) (.one (.sc .slc)) h K:=
 run_make p r d i u c m b D v g j fun a h' x y w A _=>s a h' (by rw[x.len];simp) w (H.comp (Gm rfl x y A))
theorem aa.lit(g:C.Ok)(H:aa B h0 h As)(f:α->aQ)(j:bN C.tosH t e k z by_)(c:z.length=k){n:Nat}{parts:Array (Nat×Value)}(l:List α)(p:l.length=n)(d:n*k<=2^20)
  (a:wi (fun i=>some (i*k,k)) (gl z n).toArray parts.toList=some (l.flatMap f).toArray) {K:Sl->Heap->Prop}
  (m:∀b h',aa B h0 h' (As++[aj e b k f l])->K b h'):
  av C.P (qt t n parts) (.one (.sc .slc)) h K:=
 NH g j c l p d a fun b h' x y o _=>m b h' (H.comp (Gm rfl x y o))
theorem Gn{h b:Heap}(f:a.block=h.size)(d:bZ b a e cs)(c:aG (fun _=>True) h b):Sp h b [ag a e cs]:=
 .one (any c) ⟨d,by omega,d.lt⟩
theorem aa.alloc(c:C.Ok)(H:aa B h0 h As)(d:C.T.get t=some ti){K:Addr->Heap->Prop}(b:∀a h',aa B h0 h' (As++[ag a t ti.zero])->K a h'):
  aI C.P (qG t true (.tuple #[])) h K:=
 Hs c d fun a h' x y e _=>b a h' (H.comp (Gn x y e))
theorem aa.boxed(H:aa B h0 h As){P:Program}{v:Value}{K:Addr->Heap->Prop}(b:∀a h',aa B h0 h' (As++[ag a t v.cells.toList])->K a h'):
  aI P (qI t v) h K:=
 VL fun a h' x y c _=>b a h' (H.comp (Gn x y c))
theorem aa.store(k:C.Ok)(H:aa B h0 h As)(i:Nat)(f:As[i]?=some (ag a e cs))(j:C.T.get t=some ti)(off:Nat){v:Value}(vs:aQ)(l:v.cells=vs.toArray)(d:ti.size=vs.length)
  (c:vs.all (·.oneCell')=true) (b:off+vs.length<=cs.length) {K:Unit->Heap->Prop}
  (g:∀h',aa B h0 h' (As.set i (ag a e (cs.take off++vs++cs.drop (off+vs.length))))->K () h'):
  ab C.P (qe t (.pointer (some (a.add off))) v) h K:=
 run_store k (H.box i f) j off vs l d c b fun h' x y _=>g h' (H.oY i f y x)
theorem aa.pk(j:C.Ok)(H:aa B h0 h As)(i:Nat)(k:As[i]?=some (ag a e cs))(g:C.T.get t=some ti){v:Value}(vs:aQ)(l:v.cells=vs.toArray)(c:ti.size=vs.length)
  (b:vs.all (·.oneCell')=true) (d:vs.length<=cs.length) {K:Unit->Heap->Prop}
  (f:∀h',aa B h0 h' (As.set i (ag a e (vs++cs.drop vs.length)))->K () h'):
  ab C.P (qe t (.pointer (some a)) v) h K:=
 H.store j i k g 0 vs l c b (by omega) (fun h' x=>f h' (by simpa using x))
theorem aa.copy(j:C.Ok)(H:aa B h0 h As)(i:Nat)(d:As[i]?=some (aj e s k f l))(m:bN C.tosH t e k z by_)(o:∀x,(f x).length=k)(n:Seq h p v k f l2)(a:l2.length=l.length)(b:∀x,∀c∈f x,c.oneCell'=true){ty:Nat}{K:Int->Heap->Prop}
  (g:∀h',aa B h0 h' (As.set i (aj e s k f l2))->K l2.length h'):
  av C.P (zK #[t,t2] ty #[.slice s.ptr s.len s.cap,.slice v.ptr v.len v.cap]) (.one (.sc (.int .i64))) h K:=
 (H.own i d).copy j m o n a b fun h' x y _=>g h' (H.jN i d y x)
theorem aa.WV(o:C.Ok)(H:aa B h0 h As)(i:Nat)(m:As[i]?=some (aj e s k f l))(q:∀x,(f x).length=k)(r:C.T.get t=some ti){x:Int}(n g:Nat)(p:x=n)(A:l.length<=n)(d:n<s.cap)(c:g=s.cap){val:Value}(y:α)(u:val.cells=(f y).toArray)(j:ti.size=k)
  (b:(f y).all (·.oneCell')=true) {K:Heap->Prop} (v:∀h',aa B h0 h' (As.set i (aj e s k f l))->K h'):
  ∃a:Addr,(s.ptr=some a/\0<=x/\x<((g:Nat):Int))/\ab C.P (qe t (.pointer (some (a.add (x.toNat*k)))) val) h fun _ h'=>K h':=
 (H.own i m).WV o q r n g p A d c y u j b fun h' z w _=>v h' (H.jN i m w z)
theorem aa.nil(H:aa B h0 h As)(e k:Nat)(f:α->aQ):aa B h0 h (As++[aj e ⟨none,0,0⟩ k f []]):=
 H.comp (.one (aG.refl _ _) ⟨Own.nil h e k f,fun b a=>by obtain⟨o,a⟩:=a;cases a⟩)
theorem aa.Ow(H:aa B h0 h As)(e k:Nat)(f:α->aQ):aa B h0 h (As++[gz e ⟨none,0,0⟩ k f []]):=
 H.comp (.one (aG.refl _ _) ⟨[],fun _=>False,Own.nil h e 1 cF,fun b a=>(by obtain⟨o,a⟩:=a;cases a),fun _ a=>a.elim,rfl,fun i r l h=>by simp at h⟩)
theorem aa.Gp(X:C.Ok)(H:aa B h0 h As)(i j:Nat)(E:i≠j){J:List (List α)}{r:Sl}{x:List α}(T:As[i]?=some (gz e s k f J))(hj:As[j]?=some (jo r k f x))(he:bN C.tosH t e 1 [.slice none 0 0] 24)
  (ad:J.length+1<=2^32) {ty:Nat} {K:Sl->Heap->Prop} (hk:∀O h',aa B h0 h' ((As.set j emp).set i (gz e O k f (J++[x])))->K O h'):
  av C.P (qt t 1 #[(0,.slice r.ptr r.len r.cap)]) (.one (.sc .slc)) h fun v u=>av C.P (qu #[t,t] ty #[.slice s.ptr s.len s.cap,.slice v.ptr v.len v.cap]) (.one (.sc .slc)) u K:=by
 have H2:=H.merge i j E T hj (D:=⟨fun h q=>∃(rs:List Sl) (g:ap),Own h e s 1 cF rs/\(∀b,s.on b->q b/\¬g b)/\(∀b,g b->q b)/\rs.length=J.length/\(∀(i:Nat) r l,rs[i]?=some r->J[i]?=some l->Seq h g r k f l)/\Seq h g r k f x,
  fun⟨rs,g,a,b,c,d,e,f⟩ hp=>⟨rs,g,a.ah hp fun x n=>(b x n).1,b,c,d,fun i r l u z=>(e i r l u z).ah (hp.mono fun x _ n=>c x n),f.ah (hp.mono fun x _ n=>c x n)⟩,
  fun⟨rs,g,a,b,c,d,e,f⟩ hq=>⟨rs,g,a,fun x n=>⟨hq x (b x n).1,(b x n).2⟩,fun x n=>hq x (c x n),d,e,f⟩⟩)
  (fun g q2 hd hA Y=>by
   obtain⟨rs,q3,a,b,c,d,W⟩:=hA;refine⟨rs,fun b=>q3 b∨q2 b,a,fun x n=>⟨.inl (b x n).1,fun I=>I.elim (b x n).2 (hd x (b x n).1)⟩,fun x n=>n.elim (fun h=>.inl (c x h)) .inr,d,fun i r l u z=>(W i r l u z).mono fun _ h=>.inl h,Seq.mono Y fun _ h=>.inr h⟩)
 have o:i<As.length:=(qk.1 T).1;obtain⟨Z,pp,c,zz,a⟩:=H2;have ha:=a i _ (by rw[zN (Ne.symm E),zO o]);obtain⟨rs,g,a1,a2,a3,a4,a5,a6⟩:=ha;let S:Nat->Nat:=fun b=> @ite _ (g b) (Classical.propDecidable _) (As.length+2) (c b);have G:∀b,g b->b<h.size/\c b=i+1:=a3;have ho:gm h S (i+1) e s 1 cF rs:=⟨a1,fun b m=>by
  have:=a2 b m;show @ite _ (g b) (Classical.propDecidable _) _ _=_;rw[if_neg this.2];exact this.1.2⟩
 refine ho.push X he rfl (by decide) (fun _=>rfl) pm r rfl (by decide) (by omega) fun O h' y F=>hk O h' ?_;rw[vJ _ _ (Ne.symm E)];rw[<-vO (l:=As) (i:=i),vJ _ _ E];have L:∀b,g b->S b≠i+1:=fun b m=>by
  show @ite _ (g b) (Classical.propDecidable _) _ _≠_;rw[if_pos m];omega
 refine aa.BH Z pp zz a (F.mono fun b m hn hc=>hn ⟨m,?_⟩) ⟨rs++[r],fun b=>g b/\b<h.size,y.own,fun b m=>?_,fun b m=>⟨qQ m.2 F.1,.inl ⟨m.2,(G b m.1).2⟩⟩,by simp[a4],fun Q r' V u z=>?_⟩
 ·by_cases A:g b
  ·exact(G b A).2
  ·have p:@ite _ (g b) (Classical.propDecidable _) (As.length+2) (c b)=i+1:=hc;rw[if_neg A]at p;exact p
 ·have w:=y.bu b m;by_cases o:b<h.size
  ·rw[dF o]at w;have N:¬g b:=fun A=>L b A w;have p:@ite _ (g b) (Classical.propDecidable _) (As.length+2) (c b)=i+1:=w;rw[if_neg N]at p;exact⟨⟨y.own.lt m,.inl ⟨o,p⟩⟩,fun I=>N I.1⟩
  ·exact⟨⟨y.own.lt m,.inr (by omega)⟩,fun I=>o I.2⟩
 ·have M:∀{U:Sl} {l:List α},Seq h g U k f l->Seq h' (fun b=>g b/\b<h.size) U k f l:=fun hs=>
   (hs.mono (q:=fun b=>g b/\b<h.size) fun b m=>⟨m,(G b m).1⟩).ah (F.mono fun b _ m=>L b m.1)
  by_cases R:Q<rs.length
  ·rw[ql R]at u;rw[ql (by omega)]at z;exact M (a5 Q r' V u z)
  ·have:Q=rs.length:=by
    have:=(qk.1 u).1;simp at this;omega
   subst this;simp at u;rw[a4]at z;simp at z;subst u;subst z;exact M a6
theorem aa.rows(H:aa B h0 h As)(i:Nat){g:List (List α)}(n:As[i]?=some (gz e s k f g)):∃rs,fv h (fun b=>b<h.size) s k f g rs:=by
 obtain⟨rs,p,a,b,c,d,e⟩:=H.at i n;exact⟨rs,a.seq (fun _=>rfl) fun x m=>(b x m).1,d,fun i r l o j=>(e i r l o j).mono c⟩
end
theorem Tj(vs:aQ):∀(pre old post:aQ),old.length=vs.length->((vs.zipIdx 0).foldl (fun(cs:Array Value) (p:Value×Nat)=>cs.setIfInBounds (pre.length+p.2) p.1) (pre++old++post).toArray)=(pre++vs++post).toArray:=by
 have b:∀(vs pre old post:aQ) (k:Nat),old.length=vs.length->pre.length=pre.length->∀n,n+k=pre.length->((vs.zipIdx k).foldl (fun(cs:Array Value) (p:Value×Nat)=>cs.setIfInBounds (n+p.2) p.1) (pre++old++post).toArray)=(pre++vs++post).toArray:=by
  intro vs
  induction vs with
  |nil=>intro pre old post k a _ n _;rw[qK a];rfl
  |cons v vs ih=>
   intro pre old post k a _ n c;cases old with
   |nil=>simp at a
   |cons u old=>
    rw[List.zipIdx_cons,List.foldl_cons];have e:(pre++(u::old)++post).toArray.setIfInBounds (n+k) v=((pre++[v])++old++post).toArray:=by
     rw[c];apply wZ;simp
    dsimp only;rw[e,ih (pre++[v]) old post (k+1) (by simpa using a) rfl n (by simp;omega)];simp
 intro pre old post h;exact b vs pre old post 0 h rfl pre.length (by omega)
theorem JS{a:Nat->Option (Nat×Nat)}{i:Nat}{v:Value}{vs pre old post:aQ}{rest:List (Nat×Value)}(c:v.cells=vs.toArray)(d:a i=some (pre.length,vs.length))(b:old.length=vs.length):
  wi a (pre++old++post).toArray ((i,v)::rest)=wi a (pre++vs++post).toArray rest:=by
 conv=>lhs;unfold wi
 simp only[d,c];rw[if_neg (by simp;omega)];congr 1;have:=Tj vs pre old post b;simpa using this
section
variable {C:Ctx} {t:Nat} {i:TI} {h:Heap}
theorem xY(c:C.Ok)(l:C.T.get t=some i){m:List (Nat×TypeId)}(j:i.cr=.struct m){ps:List (Nat×Nat)}(d:placesOf C.T m=some ps){vs:List (Nat×Value)}{cells:Array Value}
  (a:wi (fun n=>ps[n]?) i.zero.toArray vs=some cells):aA C.P (Instr.build t vs.toArray) (.agg cells):=by
 obtain⟨z,q,g⟩:=nw c.toOk l;have b:i.zero.toArray=z.cells:=by rw[<-g]
 have k:=c.cr l;rw[j]at k;obtain⟨o,p,rfl⟩:=lZ k;refine q.bind ((au p).bind ?_);have e:aA C.P (o.mapM fun f=>(do pure (f.offset,<-sizeOf f.type):Sem (Nat×Nat))) ps.toArray:=by
  rw[Array.mapM_eq_mapM_toList];intro w;have:=kT c.toOk d w;rw[map_eq_pure_bind,Sem.run_bind,this];rfl
 refine e.bind ?_;have h:wi (fun n=>ps.toArray[n]?) z.cells vs.toArray.toList=some cells:=by
  rw[<-b];simpa using a
 rw[h];exact .pure
end
theorem take_set{α:Type}(l:List α)(n:Nat)(x:α)(h:n<l.length):l.take n++[x]++l.drop (n+1)=l.set n x:=by
 rw[yh,if_pos h];simp
section
variable {B:ap} {C:Ctx} {h0 h h':Heap} {As:List HP} {e t:Nat} {a:Addr} {cs:aQ} {ti:TI}
theorem aa.storeAt(j:C.Ok)(H:aa B h0 h As)(i:Nat)(k:As[i]?=some (ag a e cs))(g:C.T.get t=some ti){off:Nat}{v:Value}(l:v.cells=#[v])(d:ti.size=1)
  (c:v.oneCell'=true) (b:off<cs.length) {K:Unit->Heap->Prop}
  (f:∀h',aa B h0 h' (As.set i (ag a e (cs.set off v)))->K () h'):
  ab C.P (qe t (.pointer (some (a.add off))) v) h K:=
 H.store j i k g off [v] l d (by simp[c]) (by simp;omega) fun h' x=>f h' (by rw[<-take_set _ _ _ b];simpa using x)
theorem aa.storeAll(j:C.Ok)(H:aa B h0 h As)(i:Nat)(k:As[i]?=some (ag a e cs))(g:C.T.get t=some ti){v:Value}(vs:aQ)(l:v.cells=vs.toArray)(c:ti.size=vs.length)
  (b:vs.all (·.oneCell')=true) (d:vs.length=cs.length) {K:Unit->Heap->Prop}
  (f:∀h',aa B h0 h' (As.set i (ag a e vs))->K () h'):
  ab C.P (qe t (.pointer (some a)) v) h K:=
 H.pk j i k g vs l c b (by omega) fun h' x=>f h' (by rw[zd (by omega),List.append_nil]at x;exact x)
end
theorem oF(n:Nat)(a:n<=9223372036854775807:=by omega):qc vW (n:Int)=n:=an _
abbrev Rd{α:Type}(h:Heap)(s:Sl)(k:Nat)(f:α->aQ)(l:List α):Prop:=Seq h (fun b=>b<h.size) s k f l
abbrev dU{α:Type}(h:Heap)(s:Sl)(k:Nat)(f:α->aQ)(a:List (List α)):Prop:=∃rs,fv h (fun b=>b<h.size) s k f a rs
section
variable {α:Type} {B:ap} {h0 h h':Heap} {As:List HP} {s:Sl} {k e:Nat} {f:α->aQ} {l:List α} {ll:List (List α)}
theorem dU.up(a:dU h s k f ll)(c:aG (fun b=>b<h.size) h h'):dU h' s k f ll:=by
 obtain⟨rs,a⟩:=a;exact⟨rs,fv.up a c⟩
theorem dU.len(a:dU h s k f ll):s.len=ll.length:=by obtain⟨rs,a⟩:=a;exact a.Ti
theorem dU.get(b:dU h s k f ll){i:Int}(n:Nat)(d:i=n)(g:n<ll.length){K:Sl->Prop}(c:∀r,Rd h r k f ll[n]->K r):
  ∃a:Addr,(s.ptr=some a/\0<=i/\i<((s.len:Nat):Int))/\∃x:Sl,cellOf h (a.add (i.toNat*1))=some (.slice x.ptr x.len x.cap)/\K x:=by
 obtain⟨rs,b⟩:=b;exact b.get n d g fun r e _=>c r e
theorem Seq.isSome{p:ap}(c:Seq h p s k f l)(d:l≠[]):s.ptr.isNone=false:=by
 cases l with
 |nil=>exact absurd rfl d
 |cons x t=>obtain⟨b,o,a,_⟩:=c.elem 0 x (by simp);rw[a];rfl
theorem Seq.isNil{p:ap}(b:Seq h p s k f l)(a:s.ptr.isNone=true):l=[]:=by
 cases l with
 |nil=>rfl
 |cons x t=>rw[b.isSome (by simp)]at a;cases a
theorem aa.Ek(H:aa B h0 h As)(i:Nat)(a:As[i]?=some (gz e s k f ll)):dU h s k f ll:=H.rows i a
end
section
variable {B:ap} {h0 h h':Heap} {As Bs:List HP} {A D:HP}
theorem aa.del(H:aa B h0 h As)(i:Nat):aa B h0 h (As.eraseIdx i):=
 H.pick (fun j=>if j<i then j else j+1) (fun a b d=>by split at d<;>split at d<;>omega) fun j A e=>by
  rw[List.getElem?_eraseIdx]at e;split at e
  ·rename_i c;rw[if_pos c];exact e
  ·rename_i c;rw[if_neg c];exact e
theorem aa.call(H:aa B h0 h As)(i:Nat)(G:As[i]?=some A)(q:ap)(I:∀q':ap,A.p h q'->∀b,q b->q' b)(R:aa (fun b=>b<h.size/\¬q b) h h' (D::Bs)):aa B h0 h' (As.set i D++Bs):=by
 classical
 obtain⟨u,y,j,z,F⟩:=H;obtain⟨_,t,g,J,w⟩:=R;have s:=y.1;have E:=(qk.1 G).1;have o:∀b,q b->b<h.size/\j b=i+1:=I _ (F i A G);have x:∀b,B b->b<h.size/\¬q b:=fun b a=>⟨qQ (u b a) s,fun l=>by have:=z b a;have:=o b l;omega⟩
 let c:Nat->Nat:=fun b=>if b<h.size/\¬q b then(if j b=i+1 then 0 else j b)else if g b=0 then 0 else if g b=1 then i+1 else As.length+g b-1
 have e:∀b,b<h.size/\¬q b->j b≠i+1->c b=j b:=fun b a L=>by show ite _ _ _=_;rw[if_pos a,if_neg L]
 have f:∀b,g b≠0->c b=if g b=1 then i+1 else As.length+g b-1:=fun b a=>by
  have:¬(b<h.size/\¬q b):=fun l=>a (J b l);show ite _ _ _=_;rw[if_neg this,if_neg a]
 refine⟨u,y.then t fun b _ a=>x b a,c,fun b a=>?_,fun k r d=>?_⟩
 ·have:=z b a;rw[e b (x b a) (by omega)];exact this
 ·by_cases v:k<As.length
  ·rw[ql (by simpa using v),qW]at d;split at d
   ·rename_i n;subst n;injection d with d
    subst d;refine D.mono (w 0 D rfl) fun b a=>⟨a.1,?_⟩
    rw[f b (by omega),if_pos a.2]
   ·rename_i n;have m:∀b,b<h.size/\j b=k+1->b<h.size/\¬q b:=fun b a=>⟨a.1,fun l=>by have:=o b l;omega⟩
    refine r.mono (r.loc (F k r d) (t.mono fun b _ a=>m b a)) fun b a=>⟨qQ a.1 t.1,?_⟩
    rw[e b (m b a) (by omega)];exact a.2
  ·rw[qg (by simpa using v)]at d;rw[zy]at d;have K:=w (k-As.length+1) r (by simpa using d);refine r.mono K fun b a=>⟨a.1,?_⟩
   rw[f b (by omega),if_neg (by omega)];omega
end
section
variable {B:ap} {α:Type} {h0 h h':Heap} {As Bs:List HP} {A D:HP} {e k:Nat} {s:Sl} {f:α->aQ} {l:List α}
theorem aa.off(H:aa B h0 h As)(i j:Nat)(m:i≠j)(n:As[i]?=some (aj e s k f l))(g:As[j]?=some A):A.p h (fun b=>b<h.size/\¬s.on b):=by
 obtain⟨_,_,c,_,a⟩:=H;refine A.mono (a j A g) fun b o=>⟨o.1,fun d=>?_⟩
 have:=(a i _ n).2 b d;omega
theorem aa.base(H:aa B h0 h As)(i:Nat)(g:As[i]?=some (aj e s k f l)){b:Nat}(j:B b):¬s.on b:=fun d=>by
 obtain⟨_,_,c,z,a⟩:=H;have:=(a i _ g).2 b d;have:=z b j;omega
theorem aa.WW(H:aa B h0 h (As++[D]))(i:Nat)(k:i<As.length):aa B h0 h (As.set i D):=
 H.pick (fun j=>if j<As.length then(if j=i then As.length else j)else j+1) (fun a b c=>by split at c<;>split at c<;>(try split at c)<;>(try split at c)<;>omega) fun j A f=>by
  have e:j<As.length:=by have:=(qk.1 f).1;simpa using this
  rw[if_pos e];rw[qW]at f;split at f
  ·rename_i d;subst d;rw[if_pos rfl,qg (qp _),qZ];exact f
  ·rename_i d;rw[if_neg (fun g=>d g.symm),ql e];exact f
theorem aa.UQ(H:aa B h0 h As)(i j:Nat){A2:HP}(n:As[i]?=some A)(m:As[j]?=some A2):aa B h0 h ((As.set i A2).set j A):=by
 have g:=(qk.1 n).1;have l:=(qk.1 m).1;refine H.pick (fun x=>if x=j then i else if x=i then j else x) (fun a b c=>by split at c<;>split at c<;>(try split at c)<;>(try split at c)<;>omega) fun x o d=>?_;rw[qW,qW]at d;by_cases f:j=x
 ·subst f;simp[l]at d;subst d;simpa using n
 ·by_cases k:i=x
  ·subst k;simp[f,g]at d;subst d;rw[if_neg (fun e=>f e.symm),if_pos rfl];exact m
  ·simp[f,k]at d;rw[if_neg (fun e=>f e.symm),if_neg (fun e=>k e.symm)];exact d
end
def bx{α:Type}(e k:Nat)(f:α->aQ)(rs:List Sl)(a:List (List α)):List HP:=List.zipWith (fun r l=>aj e r k f l) rs a
section
variable {α:Type} {e k:Nat} {f:α->aQ} {rs:List Sl} {ll:List (List α)}
theorem Cq(h:rs.length=ll.length):(bx e k f rs ll).length=ll.length:=by simp[bx,h]
theorem gO(h:rs.length=ll.length)(i:Nat)(b:i<ll.length):(bx e k f rs ll)[i]?=some (aj e (rs[i]'(by omega)) k f ll[i]):=by
 have a:i<rs.length:=by omega
 simp[bx,zB,qd b,qd a]
theorem pr(h:rs.length=ll.length)(r:Sl)(l:List α):bx e k f (rs++[r]) (ll++[l])=bx e k f rs ll++[aj e r k f l]:=by
 unfold bx;rw[List.zipWith_append h];rfl
theorem kW(h:rs.length=ll.length)(i:Nat)(r:Sl)(l:List α):(bx e k f rs ll).set i (aj e r k f l)=bx e k f (rs.set i r) (ll.set i l):=by
 apply List.ext_getElem?;intro j;simp only[bx,qW,zB,List.length_zipWith];by_cases a:i=j
 ·subst a;by_cases b:i<ll.length
  ·have:i<rs.length:=by omega
   simp[b,this];omega
  ·have:¬i<rs.length:=by omega
   simp[b];omega
 ·simp[a]
theorem JT(h:rs.length=ll.length)(i:Nat)(a:i<ll.length)(l:List α):(bx e k f rs ll).set i (aj e (rs[i]'(by omega)) k f l)=bx e k f rs (ll.set i l):=by
 rw[kW h,List.set_getElem_self]
theorem aa.JU{B:ap}{n h:Heap}{s:Sl}{b:Nat}(H:aa B n h (aj b s 1 cF rs::bx e k f rs ll))(c:rs.length=ll.length)(m:∀x,(f x).length=k):dU h s k f ll:=by
 refine⟨rs,H.seq 0 rfl (fun _=>rfl),c,fun i r l d a=>?_⟩;have g:i<ll.length:=(qk.1 a).1;have j:=gO (e:=e) (k:=k) (f:=f) c i g;have h3:=H.seq (i+1) (by simpa using j) m;have b:rs[i]'(by omega)=r:=by rw[qd (by omega)]at d;simpa using d
 have e2:ll[i]=l:=by rw[qd g]at a;simpa using a
 rw[b,e2]at h3;exact h3
end
section
variable {α:Type} {h:Heap} {p:ap} {s:Sl} {f:α->aQ} {l:List α}
theorem Seq.kA{X:Type}{g:X->Value}(d:Seq h p s 1 f l){i:Int}(n:Nat)(q:i=n)(r:n<l.length)(x:X)(j:f l[n]=[g x]){K:Addr->X->Prop}(m:∀a:Addr,cellOf h (a.add (i.toNat*1))=some (g x)->K a x):
  ∃a:Addr,(s.ptr=some a/\0<=i/\i<((s.len:Nat):Int))/\∃x:X,cellOf h (a.add (i.toNat*1))=some (g x)/\K a x:=by
 subst q;obtain⟨b,o,k,_,h3⟩:=d.elem n l[n] (qd r);rw[j]at h3;have c:=h3.1;rw[add_eq,wT]at c;have e:cellOf h ((⟨b,o,none⟩:Addr).add ((n:Int).toNat*1))=some (g x):=by rw[add_eq];simpa using c
 exact⟨_,⟨k,by omega,by rw[d.len];omega⟩,x,e,m _ e⟩
end
theorem Seq.si{h:Heap}{p:ap}{s:Sl}{rs:List Sl}(d:Seq h p s 1 cF rs){i:Int}(n:Nat)(k:i=n)(l:n<rs.length){K:Addr->Sl->Prop}
  (j:∀a:Addr,cellOf h (a.add (i.toNat*1))=some (.slice rs[n].ptr rs[n].len rs[n].cap)->p (a.add (i.toNat*1)).block->K a rs[n]):
  ∃a:Addr,(s.ptr=some a/\0<=i/\i<((s.len:Nat):Int))/\∃x:Sl,cellOf h (a.add (i.toNat*1))=some (.slice x.ptr x.len x.cap)/\K a x:=by
 subst k;obtain⟨b,o,g,f,h3⟩:=d.elem n rs[n] (qd l);have c:=h3.1;rw[add_eq,wT]at c;have e:cellOf h ((⟨b,o,none⟩:Addr).add ((n:Int).toNat*1))=some (.slice rs[n].ptr rs[n].len rs[n].cap):=by rw[add_eq];simpa using c
 exact⟨_,⟨g,by omega,by rw[d.len];omega⟩,rs[n],e,j _ e (by rw[add_eq];exact f)⟩
section
variable {B:ap} {α:Type} {h0 h:Heap} {As:List HP} {e k:Nat} {s:Sl} {f:α->aQ} {l:List α}
theorem Own.cut(a:Own h e s k f l)(c:∀x,(f x).length=k)(j:Nat)(d:j<=l.length):Own h e ⟨s.ptr,j,s.cap⟩ k f (l.take j):=by
 have g:=a.len;refine⟨by simp;omega,?_⟩;rcases a.head with⟨h1,h2,h3⟩|⟨b,rest,h1,h2,h3,h4⟩
 ·subst h3;exact .inl ⟨h1,h2,by simp⟩
 ·refine .inr ⟨b,(l.drop j).flatMap f++rest,h1,?_,?_,by dsimp only;omega⟩
  ·rw[<-qm,<-qY,qA];exact h2
  ·rw[qw,cw c,qV,h3,<-Nat.add_mul];dsimp only;congr 1;omega
theorem aa.cut(H:aa B h0 h As)(i:Nat)(c:As[i]?=some (aj e s k f l))(d:∀x,(f x).length=k)(j:Nat)(b:j<=l.length):aa B h0 h (As.set i (aj e ⟨s.ptr,j,s.cap⟩ k f (l.take j))):=
 H.gn i c fun _ a=>⟨a.1.cut d j b,a.2⟩
end
section
variable {B:ap} {α:Type} {C:Ctx} {h0 h:Heap} {As:List HP} {e t k:Nat} {s:Sl} {f:α->aQ} {l:List α} {ti:TI}
theorem Own.JV(u:C.Ok)(p:Own h e s k f l)(o:∀x,(f x).length=k)(E:C.T.get t=some ti){x:Int}{r:Nat}(w:x=l.length)(q:l.length<s.cap)(m:r=s.cap){val:Value}(y:α)(z:val.cells=(f y).toArray)(n:ti.size=k)
  (g:(f y).all (·.oneCell')=true) {K:Heap->Prop} (B:∀h',Own h' e ⟨s.ptr,l.length+1,s.cap⟩ k f (l++[y])->aG (fun b=>¬s.on b) h h'->K h'):
  ∃a:Addr,(s.ptr=some a/\0<=x/\x<((r:Nat):Int))/\ab C.P (qe t (.pointer (some (a.add (x.toNat*k)))) val) h fun _ h'=>K h':=by
 subst w m;have d:=p.len;rcases p.head with⟨_,h2,h3⟩|⟨b,rest,h1,h2,h3,h4⟩
 ·omega
 ·refine⟨_,⟨h1,by omega,by omega⟩,?_⟩;unfold qe;refine ab.bind (ab.pure' ?_);unfold storeVar;refine ab.bind (ab.always (cJ u.toOk E) ?_);rw[z,n];have i:=o y;simp only[z7,i,ne_eq,not_true,if_false];rw[add_eq,zG,qq];have j:=cw o l;have A:k<=rest.length:=by
   rw[h3,d];have:=zm k (show 1<=s.cap-l.length by omega);omega
  refine cL (e:=e) (pre:=l.flatMap f) (old:=rest.take k) (post:=rest.drop k) ?_ ?_ ?_ ?_ ?_
  ·rw[qm,qA];exact h2
  ·rw[i,qR];omega
  ·rw[j];omega
  ·intro c D;exact qU.1 g c D
  ·refine B _ ⟨by simp,.inr ⟨b,rest.drop k,h1,?_,?_,by dsimp only;omega⟩⟩ (aG.fc h2 (fun v=>v ⟨0,h1⟩))
   ·rw[eF h2,if_pos rfl];simp
   ·rw[qV,h3,d];dsimp only;rw[Nat.sub_add_eq,Nat.sub_mul (s.cap-l.length) 1 k,Nat.one_mul]
theorem aa.JV(u:C.Ok)(H:aa B h0 h As)(i:Nat)(r:As[i]?=some (aj e s k f l))(A:∀x,(f x).length=k)(D:C.T.get t=some ti){x:Int}{q:Nat}(v:x=l.length)(d:l.length<s.cap)(n:q=s.cap){val:Value}(y:α)(E:val.cells=(f y).toArray)(p:ti.size=k)
  (c:(f y).all (·.oneCell')=true) {K:Heap->Prop} (F:∀h',aa B h0 h' (As.set i (aj e ⟨s.ptr,l.length+1,s.cap⟩ k f (l++[y])))->K h'):
  ∃a:Addr,(s.ptr=some a/\0<=x/\x<((q:Nat):Int))/\ab C.P (qe t (.pointer (some (a.add (x.toNat*k)))) val) h fun _ h'=>K h':=
 (H.own i r).JV u A D v d n y E p c fun h' z w=>F h' (H.step i r fun _ m j=>⟨w.mono fun b _ g o=>g (m.2 b o),z,fun b g=>⟨qQ (j b (m.2 b g)) w.1,.inl (m.2 b g)⟩⟩)
end
section
variable {C:Ctx} {t t2 ty e k:Nat} {z:aQ} {by_:Nat} {α:Type} {h h0:Heap} {p B:ap} {s v:Sl} {f:α->aQ} {l l2:List α} {As:List HP}
theorem Own.El(D:C.Ok)(E:bN C.tosH t e k z by_)(o:∀x,(f x).length=k)(q:Own h e s k f l)(F:Seq h p v k f l2)(d:∀x,∀c∈f x,c.oneCell'=true){K:Int->Heap->Prop}
  (y:∀n h',Own h' e s k f (l2.take l.length++l.drop l2.length)->aG (fun b=>¬s.on b) h h'->K n h'):
  av C.P (zK #[t,t2] ty #[.slice s.ptr s.len s.cap,.slice v.ptr v.len v.cap]) (.one (.sc (.int .i64))) h K:=by
 unfold av zK;simp only[zp,zX,qo];refine ab.bind (ab.always (au (E.under D)) ?_);refine ab.bind (ab.pure' ?_);refine ab.bind (ab.always (E.size D) ?_);have a:=q.len;have g:=F.len;obtain⟨m,i⟩:∃m,m=Nat.min v.len s.len:=⟨_,rfl⟩
 rw[<-i];have B:m<=l2.length:=by rw[i,<-g];exact Nat.min_le_left _ _
 have r:m<=l.length:=by rw[i,<-a];exact Nat.min_le_right _ _
 have G:m=min l2.length l.length:=by rw[i,a,g]
 have A:=F.take m B;have H:l2.take l.length++l.drop l2.length=l2.take m++l.drop m:=by
  rcases Nat.le_total l2.length l.length with hh|hh
  ·rw[List.take_of_length_le hh,show m=l2.length by omega,List.take_length]
  ·rw[show m=l.length by omega,zd hh,List.drop_length]
 rw[H]at y;have w:wk k m (.slice v.ptr v.len v.cap)=wk k m (.slice v.ptr m v.cap):=by cases v.ptr<;>rfl
 rw[w];refine ab.bind (dV (v:=⟨v.ptr,m,v.cap⟩) o A ?_);rcases q.head with⟨h1,h2,h3⟩|⟨b,rest,h1,h2,h3,h4⟩
 ·rw[h1];subst h3;have:m=0:=by simpa using r
  subst this;refine ab.pure' ⟨_,rfl,y _ h ?_ (aG.refl _ _)⟩;simpa using q
 ·rw[h1];refine ab.bind ?_;have u:l.flatMap f++rest=(l.take m).flatMap f++((l.drop m).flatMap f++rest):=by
   rw[<-qm,<-qY,qA]
  rw[u]at h2;refine cL (e:=e) (pre:=[]) (old:=(l.take m).flatMap f) (post:=(l.drop m).flatMap f++rest) (by simpa using h2) (by rw[cw o,cw o,qR,qR];congr 1;omega) rfl ?_ ?_
  ·intro c J;obtain⟨x,_,j⟩:=zL.1 J;exact d x c j
  ·refine ab.pure' ⟨_,rfl,y _ _ ⟨by rw[a,qw,qR,qV];omega,.inr ⟨b,rest,h1,?_,h3,h4⟩⟩ (aG.fc h2 (fun I=>I ⟨0,h1⟩))⟩;rw[eF h2,if_pos rfl,qY];simp
theorem aa.El(g:C.Ok)(H:aa B h0 h As)(i:Nat)(b:As[i]?=some (aj e s k f l))(j:bN C.tosH t e k z by_)(o:∀x,(f x).length=k)(m:Seq h p v k f l2)(a:∀x,∀c∈f x,c.oneCell'=true){K:Int->Heap->Prop}
  (d:∀n h',aa B h0 h' (As.set i (aj e s k f (l2.take l.length++l.drop l2.length)))->K n h'):
  av C.P (zK #[t,t2] ty #[.slice s.ptr s.len s.cap,.slice v.ptr v.len v.cap]) (.one (.sc (.int .i64))) h K:=
 (H.own i b).El g j o m a fun n h' x y=>d n h' (H.jN i b y x)
end
def Gq(d:Sl)(w i:Nat):Sl:=⟨if d.cap=i*w then d.ptr else d.ptr.map (·.add (i*w*1)),(i+1)*w-i*w,d.cap-i*w⟩
def xZ{α:Type}(l:List α)(w i:Nat):List α:=(l.drop (i*w)).take w
theorem Seq.piece{α:Type}{h:Heap}{p:ap}{s:Sl}{f:α->aQ}{l:List α}(d:Seq h p s 1 f l)(b:s.len<=s.cap)(w i:Nat)(g:(i+1)*w<=l.length):Seq h p (Gq s w i) 1 f (xZ l w i):=by
 have c:=d.drop (i*w) b;have e:(i+1)*w=i*w+w:=zU i w;have a:=c.take w (by rw[qV];omega);have e2:(i+1)*w-i*w=w:=by omega
 unfold Gq xZ;rw[e2];exact a
theorem VM{α:Type}{l:List α}{w i:Nat}(a:(i+1)*w<=l.length):(xZ l w i).length=w:=by
 have e:(i+1)*w=i*w+w:=zU i w;simp only[xZ,qR,qV];omega
def HP.sep(A D:HP):HP:=
 ⟨fun h q=>∃g f:ap,(∀b,g b->¬f b)/\(∀b,g b->q b)/\(∀b,f b->q b)/\A.p h g/\D.p h f,
  fun⟨g,f,a,b,c,d,e⟩ hp=>⟨g,f,a,b,c,A.loc d (hp.mono fun x _ i=>b x i),D.loc e (hp.mono fun x _ i=>c x i)⟩,
  fun⟨g,f,a,b,c,d,e⟩ hq=>⟨g,f,a,fun x i=>hq x (b x i),fun x i=>hq x (c x i),d,e⟩⟩
def HP.ex{ι:Type}(F:ι->HP):HP:=⟨fun h q=>∃i,(F i).p h q,fun⟨i,a⟩ hp=>⟨i,(F i).loc a hp⟩,fun⟨i,a⟩ hq=>⟨i,(F i).mono a hq⟩⟩
def HP.pure(P:Prop):HP:=⟨fun _ _=>P,fun a _=>a,fun a _=>a⟩
def HP.and(A:HP)(P:Prop):HP:=⟨fun h q=>A.p h q/\P,fun a c=>⟨A.loc a.1 c,a.2⟩,fun a b=>⟨A.mono a.1 b,a.2⟩⟩
section
variable {B:ap} {h0 h h':Heap} {As Bs:List HP} {A D E:HP} {i j:Nat}
theorem aa.split(H:aa B h0 h As)(i:Nat)(o:As[i]?=some (A.sep D)):aa B h0 h (As.set i A++[D]):=by
 classical
 obtain⟨r,p,c,z,a⟩:=H;obtain⟨x,s,w,n,g,v,t⟩:=a i _ o;have q:=(qk.1 o).1;refine⟨r,p,fun b=>if s b then As.length+1 else c b,fun b e=>?_,fun j X d=>?_⟩
 ·have u:=z b e;dsimp only;rw[if_neg];exact u;intro l;have:=(g b l).2;omega
 ·by_cases k:j<As.length
  ·rw[ql (by simpa using k),qW]at d;split at d
   ·rename_i f;subst f
    first|rw[if_pos k]at d|skip
    injection d with d
    subst d;refine A.mono v fun b e=>⟨(n b e).1,?_⟩
    dsimp only;rw[if_neg (w b e)];exact(n b e).2
   ·rename_i f;refine X.mono (a j X d) fun b e=>⟨e.1,?_⟩
    dsimp only;rw[if_neg];exact e.2;intro l;have:=(g b l).2;omega
  ·rw[qg (by simpa using k)]at d;rw[zy]at d;have m:j=As.length:=by
    have:=(qk.1 d).1;simp at this;omega
   subst m;simp at d;subst d;refine D.mono t fun b e=>⟨(g b e).1,?_⟩
   dsimp only;rw[if_pos e]
theorem aa.join(H:aa B h0 h As)(i j:Nat)(a:i≠j)(k:As[i]?=some A)(e:As[j]?=some D):aa B h0 h ((As.set i (A.sep D)).set j emp):=
 H.merge i j a k e fun g d c l f=>⟨g,d,c,fun _ b=>.inl b,fun _ b=>.inr b,l,f⟩
theorem aa.UR{ι:Type}{F:ι->HP}(H:aa B h0 h As)(i:Nat)(g:As[i]?=some (HP.ex F)):∃x,aa B h0 h (As.set i (F x)):=by
 obtain⟨f,p,c,z,a⟩:=H;obtain⟨x,e⟩:=a i _ g;refine⟨x,f,p,c,z,fun j X b=>?_⟩;rw[qW]at b;split at b
 ·rename_i d;subst d;split at b
  ·injection b with b;subst b;exact e
  ·cases b
 ·exact a j X b
theorem aa.close'{ι:Type}{F:ι->HP}(H:aa B h0 h As)(i:Nat)(x:ι)(a:As[i]?=some (F x)):aa B h0 h (As.set i (HP.ex F)):=H.gn i a fun _ b=>⟨x,b⟩
theorem aa.fact{P:Prop}(H:aa B h0 h As)(i:Nat)(a:As[i]?=some (A.and P)):P:=(H.at i a).2
theorem aa.Yf{P:Prop}(H:aa B h0 h As)(i:Nat)(a:As[i]?=some (A.and P)):aa B h0 h (As.set i A):=H.gn i a fun _ b=>b.1
theorem aa.Yg{P:Prop}(H:aa B h0 h As)(i:Nat)(a:As[i]?=some A)(c:P):aa B h0 h (As.set i (A.and P)):=H.gn i a fun _ b=>⟨b,c⟩
theorem aa.cons(H:aa B h0 h As)(i:Nat)(g:As[i]?=some A):aa B h0 h (A::As.set i emp):=by
 obtain⟨l,p,c,z,a⟩:=H;have k:=(qk.1 g).1;refine⟨l,p,fun b=>if c b=i+1 then 1 else if c b=0 then 0 else c b+1,fun b e=>?_,fun j X d=>?_⟩
 ·have:=z b e;dsimp only;rw[if_neg (by omega),if_pos this]
 ·cases j with
  |zero=>
   simp at d;subst d;refine A.mono (a i A g) fun b e=>⟨e.1,by dsimp only;rw[if_pos e.2]⟩
  |succ j=>
   rw[qo,qW]at d;split at d
   ·rename_i f;injection d with d;subst d;trivial
   ·rename_i f;refine X.mono (a j X d) fun b e=>⟨e.1,by dsimp only;rw[if_neg (by omega),if_neg (by omega)];omega⟩
theorem aa.rest(H:aa B h0 h (A::As)):aa B h0 h As:=H.pick (fun j=>j+1) (fun a b h=>by omega) fun j X c=>by simpa using c
end
structure jf (α β:Type) where
 p:Heap->ap->α->β->Prop
 loc:∀{h h':Heap} {q:ap} {a:α} {b:β},p h q a b->aG q h h'->p h' q a b
 mono:∀{h:Heap} {q q':ap} {a:α} {b:β},p h q a b->(∀x,q x->q' x)->p h q' a b
def Gr{α:Type}(k:Nat)(f:α->aQ):jf Sl (List α):=⟨fun h q s l=>Seq h q s k f l,fun a c=>a.ah c,fun a b=>a.mono b⟩
def cS{α β:Type}(E:jf α β)(k:Nat)(f:α->aQ):jf Sl (List β):=
 ⟨fun h q s ll=>∃rs:List α,Seq h q s k f rs/\rs.length=ll.length/\∀(i:Nat) r l,rs[i]?=some r->ll[i]?=some l->E.p h q r l,
  fun⟨rs,a,b,c⟩ hp=>⟨rs,a.ah hp,b,fun i r l e d=>E.loc (c i r l e d) hp⟩,fun⟨rs,a,b,c⟩ hq=>⟨rs,a.mono hq,b,fun i r l e d=>E.mono (c i r l e d) hq⟩⟩
def EA{α β:Type}(E:jf α β)(a:α)(b:β):HP:=⟨fun h q=>E.p h q a b,fun x d=>E.loc x d,fun x c=>E.mono x c⟩
abbrev nN{α β:Type}(E:jf α β)(h:Heap)(a:α)(b:β):Prop:=E.p h (fun b=>b<h.size) a b
def cR{α β:Type}(e:TypeId)(s:Sl)(k:Nat)(f:α->aQ)(E:jf α β)(m:List β):HP:=
 ⟨fun h q=>∃(rs:List α) (j:ap),Own h e s k f rs/\(∀b,s.on b->q b/\¬j b)/\(∀b,j b->q b)/\rs.length=m.length/\∀(i:Nat) r l,rs[i]?=some r->m[i]?=some l->E.p h j r l,
  fun⟨rs,j,a,b,c,d,e⟩ hp=>⟨rs,j,a.ah hp fun x g=>(b x g).1,b,c,d,fun i r l o n=>E.loc (e i r l o n) (hp.mono fun x _ g=>c x g)⟩,
  fun⟨rs,j,a,b,c,d,e⟩ hq=>⟨rs,j,a,fun x g=>⟨hq x (b x g).1,(b x g).2⟩,fun x g=>hq x (c x g),d,e⟩⟩
section
variable {α β:Type} {E:jf α β} {k:Nat} {f:α->aQ} {h h':Heap} {q:ap} {s:Sl} {ll:List β} {a:α} {b:β}
theorem nN.up(x:nN E h a b)(c:aG (fun b=>b<h.size) h h'):nN E h' a b:=E.mono (E.loc x c) fun _ d=>qQ d c.1
theorem cS.Em(x:(cS E k f).p h q s ll):∃rs:List α,Seq h q s k f rs/\rs.length=ll.length/\∀(i:Nat) (e:i<rs.length) (d:i<ll.length),E.p h q rs[i] ll[i]:=by
 obtain⟨rs,a,b,c⟩:=x;exact⟨rs,a,b,fun i e d=>c i _ _ (qd e) (qd d)⟩
theorem cS.len(x:(cS E k f).p h q s ll):s.len=ll.length:=by obtain⟨rs,a,b,c⟩:=x;rw[a.len,b]
theorem cS.nil(h:Heap)(q:ap)(a:aM)(c:Nat):(cS E k f).p h q ⟨a,0,c⟩ []:=⟨[],Seq.nil h q c a k f,rfl,fun i r l b=>by simp at b⟩
theorem cS.take(x:(cS E k f).p h q s ll)(n:Nat)(j:n<=ll.length):(cS E k f).p h q ⟨s.ptr,n,s.cap⟩ (ll.take n):=by
 obtain⟨rs,a,b,c⟩:=x;refine⟨rs.take n,a.take n (by omega),by simp[b],fun i r l d e=>?_⟩;rw[yA]at d e;split at d
 ·rename_i g;rw[if_pos g]at e;exact c i r l d e
 ·cases d
theorem cS.drop(x:(cS E k f).p h q s ll)(n:Nat)(g:s.len<=s.cap):(cS E k f).p h q ⟨if s.cap=n then s.ptr else s.ptr.map (·.add (n*k)),s.len-n,s.cap-n⟩ (ll.drop n):=by
 obtain⟨rs,a,b,c⟩:=x;refine⟨rs.drop n,a.drop n g,by simp[b],fun i r l e d=>?_⟩;rw[wo]at e d;exact c _ r l e d
theorem cS.get{X:Type}{g:X->Value}(x:(cS E 1 f).p h q s ll){i:Int}(n:Nat)(c:i=n)(e:n<ll.length)(u:α->X)(j:∀r,f r=[g (u r)]){K:X->Prop}(b:∀r,E.p h q r ll[n]->K (u r)):
  ∃a:Addr,(s.ptr=some a/\0<=i/\i<((s.len:Nat):Int))/\∃x:X,cellOf h (a.add (i.toNat*1))=some (g x)/\K x:=by
 obtain⟨rs,d,k,h3⟩:=cS.Em x;exact d.cK n c (by omega) (u (rs[n]'(by omega))) (j _) (b _ (h3 n (by omega) e))
theorem cS.si{E:jf Sl β}(x:(cS E 1 cF).p h q s ll){i:Int}(n:Nat)(c:i=n)(d:n<ll.length){K:Sl->Prop}(b:∀r,E.p h q r ll[n]->K r):
  ∃a:Addr,(s.ptr=some a/\0<=i/\i<((s.len:Nat):Int))/\∃x:Sl,cellOf h (a.add (i.toNat*1))=some (.slice x.ptr x.len x.cap)/\K x:=
 cS.get (g:=fun r:Sl=>Value.slice r.ptr r.len r.cap) x n c d id (fun _=>rfl) b
end
section
variable {α β:Type} {E:jf α β} {C:Ctx} {k e t:Nat} {f:α->aQ} {B:ap} {h0 h h':Heap} {As:List HP} {s:Sl} {ll:List β} {z:aQ} {by_:Nat}
theorem aa.Ox(H:aa B h0 h As)(e k:Nat)(f:α->aQ)(E:jf α β):aa B h0 h (As++[cR e ⟨none,0,0⟩ k f E []]):=
 H.comp (.one (aG.refl _ _) ⟨[],fun _=>False,Own.nil h e k f,fun b a=>(by obtain⟨o,a⟩:=a;cases a),fun _ a=>a.elim,rfl,fun i r l h=>by simp at h⟩)
theorem aa.VN(H:aa B h0 h As)(i:Nat)(m:As[i]?=some (cR e s k f E ll))(o:∀x,(f x).length=k):aa B h0 h (As.set i (EA (cS E k f) s ll)):=
 H.gn i m fun q ⟨rs,p,a,b,c,d,e⟩=>⟨rs,a.seq o fun x j=>(b x j).1,d,fun i r l n g=>E.mono (e i r l n g) c⟩
theorem aa.Yu{a:α}{b:β}(H:aa B h0 h As)(i:Nat)(c:As[i]?=some (EA E a b)):nN E h a b:=H.at i c
theorem aa.Yz(H:aa B h0 h As)(i:Nat)(g:As[i]?=some (cR e s k f E ll)):s.len=ll.length/\s.len<=s.cap:=by
 obtain⟨rs,j,a,b,c,d,e⟩:=H.at i g;exact⟨by rw[a.len,d],a.cap⟩
theorem aa.Oy(hC:C.Ok)(H:aa B h0 h As)(i j:Nat)(G:i≠j){a:α}{b:β}(Z:As[i]?=some (cR e s k f E ll))(hj:As[j]?=some (EA E a b))(he:bN C.tosH t e k z by_)(hz:z.length=k)(W:0<by_/\by_<=128)(hw:∀x,(f x).length=k)
  (Q:∀x,∀c∈f x,c.oneCell'=true) {parts:Array (Nat×Value)} (L:wi (fun i=>some (i*k,k)) (gl z 1).toArray parts.toList=some ([a].flatMap f).toArray) (X:1*k<=2^20)
  (ad:ll.length+1<=2^32) {ty:Nat} {K:Sl->Heap->Prop} (hk:∀T h',aa B h0 h' ((As.set j emp).set i (cR e T k f E (ll++[b])))->K T h'):
  av C.P (qt t 1 parts) (.one (.sc .slc)) h fun v y=>av C.P (qu #[t,t] ty #[.slice s.ptr s.len s.cap,.slice v.ptr v.len v.cap]) (.one (.sc .slc)) y K:=by
 have H2:=H.merge i j G Z hj (D:=⟨fun h q=>∃(rs:List α) (g:ap),Own h e s k f rs/\(∀b,s.on b->q b/\¬g b)/\(∀b,g b->q b)/\rs.length=ll.length/\(∀(i:Nat) r l,rs[i]?=some r->ll[i]?=some l->E.p h g r l)/\E.p h g a b,
  fun⟨rs,g,a,b,c,d,e,f⟩ hp=>⟨rs,g,a.ah hp fun x n=>(b x n).1,b,c,d,fun i r l y I=>E.loc (e i r l y I) (hp.mono fun x _ n=>c x n),E.loc f (hp.mono fun x _ n=>c x n)⟩,
  fun⟨rs,g,a,b,c,d,e,f⟩ hq=>⟨rs,g,a,fun x n=>⟨hq x (b x n).1,(b x n).2⟩,fun x n=>hq x (c x n),d,e,f⟩⟩)
  (fun g q2 hd hA hB=>by
   obtain⟨rs,q3,a,b,c,d,e'⟩:=hA;refine⟨rs,fun b=>q3 b∨q2 b,a,fun x n=>⟨.inl (b x n).1,fun O=>O.elim (b x n).2 (hd x (b x n).1)⟩,fun x n=>n.elim (fun h=>.inl (c x h)) .inr,d,fun i r l y I=>E.mono (e' i r l y I) fun _ h=>.inl h,E.mono hB fun _ h=>.inr h⟩)
 have u:i<As.length:=(qk.1 Z).1;obtain⟨lo,pp,c,zz,ax⟩:=H2;have ha:=ax i _ (by rw[zN (Ne.symm G),zO u]);obtain⟨rs,g,a1,a2,a3,a4,a5,a6⟩:=ha;let Y:Nat->Nat:=fun b=> @ite _ (g b) (Classical.propDecidable _) (As.length+2) (c b);have M:∀b,g b->b<h.size/\c b=i+1:=a3;have ho:gm h Y (i+1) e s k f rs:=⟨a1,fun b m=>by
  have:=a2 b m;show @ite _ (g b) (Classical.propDecidable _) _ _=_;rw[if_neg this.2];exact this.1.2⟩
 refine ho.push hC he hz W hw Q a L X (by omega) fun T h' A J=>hk T h' ?_;rw[vJ _ _ (Ne.symm G)];rw[<-vO (l:=As) (i:=i),vJ _ _ G];have R:∀b,g b->Y b≠i+1:=fun b m=>by
  show @ite _ (g b) (Classical.propDecidable _) _ _≠_;rw[if_pos m];omega
 refine aa.BH lo pp zz ax (J.mono fun b m hn hc=>hn ⟨m,?_⟩) ⟨rs++[a],fun b=>g b/\b<h.size,A.own,fun b m=>?_,fun b m=>⟨qQ m.2 J.1,.inl ⟨m.2,(M b m.1).2⟩⟩,by simp[a4],fun V r' l' y I=>?_⟩
 ·by_cases F:g b
  ·exact(M b F).2
  ·have o:@ite _ (g b) (Classical.propDecidable _) (As.length+2) (c b)=i+1:=hc;rw[if_neg F]at o;exact o
 ·have w:=A.bu b m;by_cases u:b<h.size
  ·rw[dF u]at w;have S:¬g b:=fun F=>R b F w;have o:@ite _ (g b) (Classical.propDecidable _) (As.length+2) (c b)=i+1:=w;rw[if_neg S]at o;exact⟨⟨A.own.lt m,.inl ⟨u,o⟩⟩,fun O=>S O.1⟩
  ·exact⟨⟨A.own.lt m,.inr (by omega)⟩,fun O=>u O.2⟩
 ·have N:∀{rr:α} {l:β},E.p h g rr l->E.p h' (fun b=>g b/\b<h.size) rr l:=fun hs=>
   E.loc (E.mono hs (q':=fun b=>g b/\b<h.size) fun b m=>⟨m,(M b m).1⟩) (J.mono fun b _ m=>R b m.1)
  by_cases U:V<rs.length
  ·rw[ql U]at y;rw[ql (by omega)]at I;exact N (a5 V r' l' y I)
  ·have:V=rs.length:=by
    have:=(qk.1 y).1;simp at this;omega
   subst this;simp at y;rw[a4]at I;simp at I;subst y;subst I;exact N a6
end
section
variable {α β:Type} {E:jf α β} {k e:Nat} {f:α->aQ} {B:ap} {h0 h:Heap} {As:List HP} {s:Sl}
end
section
variable {α:Type} {B:ap} {h0 h:Heap} {As:List HP} {e e2 k:Nat} {s:Sl} {f:α->aQ} {rs:List Sl} {ll:List (List α)}
end
theorem Ht{h a:Heap}{p:ap}(b:aG p h a):∀{L:aB},L.ok h->(∀x∈L,p x.1.block)->L.ok a
 |[],_,_=>trivial
 |x::L,hk,hq=>⟨b.cell (hq x (by simp)) hk.1,Ht b hk.2 fun y c=>hq y (by simp[c])⟩
theorem yx{h d:Heap}(e:aG (fun b=>b<h.size) h d){L:aB}(c:L.ok h):L.ok d:=Ht e c (by
 clear e
 induction L with
 |nil=>intro x a;cases a
 |cons y L ih=>
  intro x a;rcases List.mem_cons.1 a with rfl|a
  ·exact cC c.1
  ·exact ih c.2 x a)
theorem av.both{P:Program}{s:Sem Value}{h:Heap}{K:Sl->Heap->Prop}{Q:Heap->Prop}(f:av P s (.one (.sc .slc)) h fun _ h'=>Q h')(d:av P s (.one (.sc .slc)) h K):av P s (.one (.sc .slc)) h fun x h'=>Q h'/\K x h':=by
 intro w a;obtain⟨l,j,c,e,o,a3,a4⟩:=f w a;obtain⟨m,k,b,n,x2,g,i⟩:=d w a;rw[c]at b;cases b;exact⟨_,_,c,e,x2,g,a4,i⟩
theorem aa.sJ{α:Type}{B:ap}{C:Ctx}{m h:Heap}{As:List HP}{e t k b:Nat}{z:aQ}{K:Sl->Heap->Prop}(g:C.Ok)(H:aa B m h As)(f:α->aQ)(p:bN C.tosH t e k z b)(c:z.length=k){n:Nat}{parts:Array (Nat×Value)}(l:List α)(r:l.length=n)(d:n*k<=2^20)
  (a:wi (fun i=>some (i*k,k)) (gl z n).toArray parts.toList=some (l.flatMap f).toArray) {L:aB} (o:L.ok h) (j:av C.P (qt t n parts) (.one (.sc .slc)) h K):
  av C.P (qt t n parts) (.one (.sc .slc)) h fun x h'=>L.ok h'/\K x h':=
 av.both ((Sp.refl h).lit g f p c l r d a fun _ _ q=>yx q.ah o) j
section
variable {B:ap} {h0 h h':Heap} {As Bs:List HP} {A D E:HP} {i j:Nat}
theorem aa.front(H:aa B h0 h (As++Bs)):aa B h0 h (Bs++As):=
 H.pick (fun j=>if j<Bs.length then As.length+j else if j<Bs.length+As.length then j-Bs.length else j)
  (fun a b c=>by(try dsimp only at c);split at c<;>split at c<;>(try split at c)<;>(try split at c)<;>omega) fun j X e=>by
  try dsimp only
  split
  ·rename_i d;rw[ql d]at e;rw[qg (by omega),zg];exact e
  ·rename_i d;rw[qg (by omega)]at e;have:=(qk.1 e).1;rw[if_pos (by omega),ql this];exact e
theorem aa.cl(H:aa B h0 h (As++[A])):aa B h0 h (A::As):=H.front
theorem aa.cM(H:aa B h0 h As)(R:Sp h h' [A]):aa B h0 h' (A::As):=(H.comp R).cl
theorem aa.BI(H:aa B h0 h (A::D::As)):aa B h0 h (A::As):=H.del 1
theorem aa.uk{ι:Type}{F:ι->HP}(H:aa B h0 h (HP.ex F::As)):∃x,aa B h0 h (F x::As):=H.UR 0 rfl
theorem aa.En{ι:Type}{F:ι->HP}(x:ι)(H:aa B h0 h (F x::As)):aa B h0 h (HP.ex F::As):=H.close' 0 x rfl
theorem aa.nO(H:aa B h0 h (A.sep D::As)):aa B h0 h (D::A::As):=(H.split 0 rfl).cl
theorem aa.jX(H:aa B h0 h (D::A::As)):aa B h0 h (A.sep D::As):=by
 have a:aa B h0 h (emp::A.sep D::As):=H.join 1 0 (by decide) rfl rfl;exact a.rest
theorem aa.jF(H:aa B h0 h (A::D::As)):aa B h0 h (D::A::As):=H.UQ 0 1 rfl rfl
end
theorem Seq.Tk{h:Heap}{p:ap}{s:Sl}{rs:List Sl}(d:Seq h p s 1 cF rs){i:Int}(n:Nat)(c:i=n)(e:n<rs.length){K:Sl->Prop}(b:K rs[n]):
  ∃a:Addr,(s.ptr=some a/\0<=i/\i<((s.len:Nat):Int))/\∃x:Sl,cellOf h (a.add (i.toNat*1))=some (.slice x.ptr x.len x.cap)/\K x:=
 d.cK (g:=fun r:Sl=>Value.slice r.ptr r.len r.cap) n c e rs[n] rfl b
def St(B:ap)(a:Heap)(As:List HP)(Q:Heap->Prop):Prop:=∀(Bs:List HP) (h':Heap),aa B a h' (Bs++As)->Q h'
section
variable {B:ap} {h0 h h':Heap} {As Bs:List HP} {A:HP} {Q:Heap->Prop}
theorem St.at(x:St B h0 As Q)(Bs:List HP)(H:aa B h0 h (Bs++As)):Q h:=x Bs h H
theorem St.base(b:Q h0)(a:∀h',aG B h0 h'->Q h'):St B h0 As Q:=fun _ _ H=>a _ H.ah
theorem St.iv(j:Nat)(a:As[j]?=some A)(c:∀h',A.p h' (fun b=>b<h'.size)->Q h'):St B h0 As Q:=fun Bs h' H=>c _ (H.at (Bs.length+j) (by rw[qg (by omega),zg];exact a))
theorem St.cons(x:St B h0 As Q):St B h0 (A::As) Q:=fun Bs h' H=>x (Bs++[A]) h' (by rw[qm];exact H)
end
section
variable {β:Type} {E:jf Sl β} {h:Heap} {q:ap} {s:Sl} {ll:List β}
theorem cS.pick(x:(cS E 1 cF).p h q s ll)(n:Nat)(l:n<ll.length){a:Addr}{r:Sl}(k:s.ptr=some a)(j:cellOf h (a.add (n*1))=some (.slice r.ptr r.len r.cap)):E.p h q r ll[n]:=by
 obtain⟨rs,g,m,h3⟩:=cS.Em x;obtain⟨b,o,c,e2,i⟩:=g.elem n (rs[n]'(by omega)) (qd (by omega));rw[k]at c;injection c with c
 subst c;have f:=i.1;rw[add_eq,wT]at f;have d:cellOf h ((⟨b,o,none⟩:Addr).add (n*1))=some (.slice (rs[n]'(by omega)).ptr (rs[n]'(by omega)).len (rs[n]'(by omega)).cap):=by rw[add_eq];exact f
 rw[j]at d;have e:=h3 n (by omega) l;generalize rs[n]'(by omega)=r' at d e;obtain⟨u,y,v⟩:=r;obtain⟨w,l2,t⟩:=r';simp at d;obtain⟨rfl,rfl,rfl⟩:=d;exact e
end
theorem yH{α:Type}{l:List α}(f:l.Nodup){a b:Nat}(d:a<l.length)(e:b<l.length)(h:l[a]=l[b]):a=b:=by
 have c:=List.pairwise_iff_getElem.1 f;rcases Nat.lt_trichotomy a b with hlt|he|hgt
 ·exact absurd h (c a b d e hlt)
 ·exact he
 ·exact absurd h.symm (c b a e d hgt)
theorem aa.ca{B:ap}{k h:Heap}{As:List HP}(H:aa B k h As)(L:List Nat)(g:∀j∈L,j<As.length:=by simp)(m:L.Nodup:=by decide):aa B k h (L.map fun j=>As.getD j emp):=by
 refine H.pick (fun i=>if h:i<L.length then L[i]else As.length+i) (fun a b c=>?_) fun i A2 e=>?_
 ·try dsimp only at c
  split at c<;>split at c
  ·exact yH m _ _ c
  ·have:=g _ (qn (l:=L) (n:=a) (by assumption));omega
  ·have:=g _ (qn (l:=L) (n:=b) (by assumption));omega
  ·omega
 ·try dsimp only
  rw[qP]at e;split
  ·rename_i d;rw[qd d]at e;have f:=g _ (qn d);simp only[qJ,wG.injEq]at e;rw[<-e,qf,qd f];rfl
  ·rename_i d;rw[qX (by omega)]at e;simp at e
theorem St.mk'{B:ap}{a:Heap}{As:List HP}{Q:Heap->Prop}(x:∀h',aa B a h' As->Q h'):St B a As Q:=fun Bs h' H=>x h' (H.take Bs.length fun i A b=>by
 rw[qg (by omega),zg];exact b)
theorem St.mono{B:ap}{b:Heap}{As:List HP}{Q a:Heap->Prop}(x:St B b As Q)(c:∀h,Q h->a h):St B b As a:=fun Bs h' H=>c _ (x Bs h' H)
theorem St.and{B:ap}{a:Heap}{As:List HP}{Q b:Heap->Prop}(x:St B a As Q)(y:St B a As b):St B a As fun h=>Q h/\b h:=fun Bs h' H=>⟨x Bs h' H,y Bs h' H⟩
theorem aa.bj{B:ap}{m h:Heap}{As:List HP}(H:aa B m h As)(k:Nat)(L:List Nat)(p:k<=As.length:=by simp)(f:∀j∈L,j<k:=by simp)(o:L.Nodup:=by decide):aa B m h (L.map (fun j=>As.getD j emp)++As.drop k):=by
 refine H.pick (fun i=>if h:i<L.length then L[i]else k+(i-L.length)) (fun a b d=>?_) fun i A2 e=>?_
 ·try dsimp only at d
  split at d<;>split at d
  ·exact yH o _ _ d
  ·have:=f _ (qn (l:=L) (n:=a) (by assumption));omega
  ·have:=f _ (qn (l:=L) (n:=b) (by assumption));omega
  ·omega
 ·try dsimp only
  by_cases c:i<L.length
  ·rw[dif_pos c];rw[ql (by simpa using c),qP,qd c]at e;have g:=f _ (qn c);simp only[qJ,wG.injEq]at e;rw[<-e,qf,qd (by omega)];rfl
  ·rw[dif_neg c];rw[qg (by simpa using c),List.length_map,wo]at e;exact e
section
variable {α β:Type} {E:jf α β} {C:Ctx} {k e t by_:Nat} {f:α->aQ} {B:ap} {h0 h h':Heap} {As:List HP} {q:ap} {s:Sl} {rs:List α} {ll:List β} {ti:TI} {z:aQ}
def Fix(E:jf α β)(k:Nat)(f:α->aQ)(h:Heap)(q:ap)(s:Sl)(rs:List α)(a:List β):Prop:=Seq h q s k f rs/\rs.length=a.length/\∀(i:Nat) r l,rs[i]?=some r->a[i]?=some l->E.p h q r l
theorem Fix.ah(x:Fix E k f h q s rs ll)(a:aG q h h'):Fix E k f h' q s rs ll:=⟨x.1.ah a,x.2.1,fun i r l c b=>E.loc (x.2.2 i r l c b) a⟩
theorem Fix.mono{q':ap}(x:Fix E k f h q s rs ll)(a:∀b,q b->q' b):Fix E k f h q' s rs ll:=⟨x.1.mono a,x.2.1,fun i r l d c=>E.mono (x.2.2 i r l d c) a⟩
abbrev mO(E:jf α β)(k:Nat)(f:α->aQ)(h:Heap)(s:Sl)(rs:List α)(a:List β):Prop:=Fix E k f h (fun b=>b<h.size) s rs a
theorem mO.up(x:mO E k f h s rs ll)(a:aG (fun b=>b<h.size) h h'):mO E k f h' s rs ll:=(Fix.ah x a).mono fun _ c=>qQ c a.1
theorem Fix.row(x:Fix E k f h q s rs ll){i:Nat}(a:i<ll.length):E.p h q (rs[i]'(by rw[x.2.1];exact a)) ll[i]:=x.2.2 i _ _ (qd _) (qd _)
theorem cS.fix(x:(cS E k f).p h q s ll):∃rs,Fix E k f h q s rs ll:=x
theorem Fix.YK(x:Fix E k f h q s rs ll):(cS E k f).p h q s ll:=⟨rs,x⟩
def eG(E:jf α β)(k:Nat)(f:α->aQ)(s:Sl)(rs:List α)(a:List β):HP:=⟨fun h q=>Fix E k f h q s rs a,fun x c=>x.ah c,fun x b=>x.mono b⟩
theorem aa.YA(H:aa B h0 h As)(i:Nat)(m:As[i]?=some (cR e s k f E ll))(o:∀x,(f x).length=k):∃rs,aa B h0 h (As.set i (eG E k f s rs ll)):=by
 have g:i<As.length:=(qk.1 m).1;have u:aa B h0 h (As.set i (HP.ex fun rs=>eG E k f s rs ll)):=H.gn i m fun q ⟨rs,v,a,b,c,d,e⟩=>⟨rs,a.seq o fun x n=>(b x n).1,d,fun i r l t p=>E.mono (e i r l t p) c⟩
 obtain⟨rs,j⟩:=u.UR i (zO g);exact⟨rs,by rw[vO]at j;exact j⟩
theorem aa.jY(H:aa B h0 h As)(i:Nat)(a:As[i]?=some (eG E k f s rs ll)):mO E k f h s rs ll:=H.at i a
theorem aa.JW(e:C.Ok)(H:aa B h0 h As)(f:C.T.get t=some ti){K:Addr->Heap->Prop}(d:∀a h',aG (fun b=>b<h.size) h h'->aa B h0 h' (As++[ag a t ti.zero])->K a h'):
  aI C.P (qG t true (.tuple #[])) h K:=
 Hs e f fun a h' x y c _=>d a h' (c.mono fun _ _ _=>trivial) (H.comp (Gn x y c))
theorem aa.Yh(r:C.Ok)(H:aa B h0 h As)(f:α->aQ)(u:bN C.tosH t e k z by_)(g:0<by_/\by_<=128)(j:α)(A:f j=z)(d:z.length=k){q s:IntKind}{n o:Int}(m c:Nat)(E:n=m)(D:o=c)(i:m<=c)(l:c<=2^32)
  {K:Sl->Heap->Prop} (v:∀a h',a.len=m->aG (fun b=>b<h.size) h h'->aa B h0 h' (As++[aj e a k f (qh m j)])->K a h'):
  av C.P (zD t (.int q n) (.int s o)) (.one (.sc .slc)) h K:=
 run_make r u g j A d m c E D i l fun a h' x y w p _=>v a h' (by rw[x.len];simp) (p.mono fun _ _ _=>trivial) (H.comp (Gm rfl x y p))
end
section
variable {α:Type} {C:Ctx} {B:ap} {h0 h:Heap} {As:List HP} {e t k:Nat} {s:Sl} {f:α->aQ} {l:List α} {i:TI}
theorem Own.Tl(A:C.Ok)(q:Own h e s k f l)(v:∀x,(f x).length=k)(J:C.T.get t=some i){x:Int}(n:Nat)(D:x=n)(u:n<l.length)(j:Nat)(vs:aQ)(L:j+vs.length<=k){val:Value}(y:α)(G:val.cells=vs.toArray)(r:i.size=vs.length)
  (m:vs.all (·.oneCell')=true) (E:f y=(f l[n]).take j++vs++(f l[n]).drop (j+vs.length)) {K:Heap->Prop} (H:∀h',Own h' e s k f (l.set n y)->aG (fun b=>¬s.on b) h h'->K h'):
  ∃a:Addr,(s.ptr=some a/\0<=x/\x<((s.len:Nat):Int))/\ab C.P (qe t (.pointer (some ((a.add (x.toNat*k)).add j))) val) h fun _ h'=>K h':=by
 subst D;rcases q.head with⟨_,_,h3⟩|⟨b,rest,h1,h2,h3,h4⟩
 ·subst h3;simp at u
 ·refine⟨_,⟨h1,by omega,by rw[q.len];omega⟩,?_⟩;unfold qe;refine ab.bind (ab.pure' ?_);unfold storeVar;refine ab.bind (ab.always (cJ A.toOk J) ?_);rw[G,r];simp only[z7,ne_eq,not_true,if_false];rw[add_eq,add_eq,zG,qq];have g:l=l.take n++l[n]::l.drop (n+1):=by rw[<-qS u,qA]
  have p:l.set n y=l.take n++y::l.drop (n+1):=yh.trans (if_pos u);have o:((l.take n).flatMap f).length=n*k:=by rw[cw v,qR,wv (by omega)]
  have F:=v l[n];have d:f l[n]=(f l[n]).take j++((f l[n]).drop j).take vs.length++(f l[n]).drop (j+vs.length):=by
   rw[qm,<-zq,qA,qA]
  refine cL (e:=e) (pre:=(l.take n).flatMap f++(f l[n]).take j) (old:=((f l[n]).drop j).take vs.length) (post:=(f l[n]).drop (j+vs.length)++((l.drop (n+1)).flatMap f++rest)) ?_ ?_ ?_ ?_ ?_
  ·have:l.flatMap f++rest=(l.take n).flatMap f++(f l[n]).take j++((f l[n]).drop j).take vs.length++((f l[n]).drop (j+vs.length)++((l.drop (n+1)).flatMap f++rest)):=by
    have w:=congrArg (List.flatMap f) g;rw[qY,zf]at w;rw[w];generalize f l[n]=z at d;rw[qm]at d;simp only[qm];congr 1
    conv=>lhs;rw[d]
    simp only[qm]
   rw[<-this];exact h2
  ·simp;omega
  ·rw[qw,o,qR];omega
  ·intro c I;exact qU.1 m c I
  ·refine H _ ⟨by rw[zy];exact q.len,.inr ⟨b,rest,h1,?_,h3,h4⟩⟩ (aG.fc h2 (fun B=>B ⟨0,h1⟩));rw[eF h2,if_pos rfl,p,qY,zf,E];simp[qm]
theorem aa.Tl(m:C.Ok)(H:aa B h0 h As)(d:Nat)(c:As[d]?=some (aj e s k f l))(p:∀x,(f x).length=k)(A:C.T.get t=some i){x:Int}(n:Nat)(o:x=n)(D:n<l.length)(j:Nat)(vs:aQ)(v:j+vs.length<=k){val:Value}(y:α)(r:val.cells=vs.toArray)(g:i.size=vs.length)
  (b:vs.all (·.oneCell')=true) (q:f y=(f l[n]).take j++vs++(f l[n]).drop (j+vs.length)) {K:Heap->Prop} (u:∀h',aa B h0 h' (As.set d (aj e s k f (l.set n y)))->K h'):
  ∃a:Addr,(s.ptr=some a/\0<=x/\x<((s.len:Nat):Int))/\ab C.P (qe t (.pointer (some ((a.add (x.toNat*k)).add j))) val) h fun _ h'=>K h':=
 (H.own d c).Tl m p A n o D j vs v y r g b q fun h' z w=>u h' (H.jN d c w z)
end
def HP.all:List HP->HP
 |[]=>emp
 |A::L=>A.sep (HP.all L)
section
variable {B:ap} {h0 h h':Heap} {As L:List HP} {A D E:HP}
theorem aa.lL:∀{L:List HP} {As:List HP},aa B h0 h (HP.all L::As)->aa B h0 h (L++As)
 |[],_,H=>H.rest
 |A::L,As,H=>by
  have f:aa B h0 h (HP.all L::A::As):=H.nO;have e:=aa.lL f;exact e.pick (fun i=>if i=0 then L.length else if i<=L.length then i-1 else i) (fun a b c=>by(try dsimp only at c);split at c<;>split at c<;>(try split at c)<;>(try split at c)<;>omega) fun i X d=>by
   try dsimp only
   rw[zk]at d;cases i with
   |zero=>simp at d;subst d;rw[if_pos rfl,qg (qp _),qZ];rfl
   |succ i=>
    rw[qo]at d;rw[if_neg (by omega)];by_cases g:i<L.length
    ·rw[ql g]at d;rw[if_pos (by omega),ql (by omega)];simpa using d
    ·rw[qg (by omega)]at d;rw[if_neg (by omega),qg (by omega)];rw[show i+1-L.length=(i-L.length)+1 by omega,qo];exact d
theorem aa.closeAll:∀(L:List HP) {As:List HP},aa B h0 h (L++As)->aa B h0 h (HP.all L::As)
 |[],As,H=>((H.comp (.one (A:=emp) (aG.refl _ _) trivial)).cl:aa B h0 h (emp::As))
 |A::L,As,H=>by
  have g:aa B h0 h (L++(A::As)):=H.pick (fun i=>if i<L.length then i+1 else if i=L.length then 0 else i) (fun a b c=>by(try dsimp only at c);split at c<;>split at c<;>(try split at c)<;>(try split at c)<;>omega) fun i X d=>by
   try dsimp only
   by_cases e:i<L.length
   ·rw[ql e]at d;rw[if_pos e,zk,qo,ql e];exact d
   ·rw[qg (by omega)]at d;by_cases f:i=L.length
    ·subst f;rw[qZ]at d;rw[if_neg (by omega),if_pos rfl];simpa using d
    ·rw[if_neg e,if_neg f,zk];obtain⟨j,rfl⟩:∃j,i=L.length+(j+1):=⟨i-L.length-1,by omega⟩
     rw[zg,qo]at d;rw[show L.length+(j+1)=(L.length+j)+1 by omega,qo,qg (by omega),zg];exact d
  exact(aa.closeAll L g).jX
theorem aa.lA{P:Prop}(H:aa B h0 h (A.and P::As)):aa B h0 h (A::As)/\P:=⟨H.Yf 0 rfl,H.fact 0 rfl⟩
theorem aa.tolA{P:Prop}(H:aa B h0 h (A::As))(p:P):aa B h0 h (A.and P::As):=H.Yg 0 rfl p
end
def iw{α:Type}(e:TypeId)(s:Sl)(b:TypeId)(k:Nat)(f:α->aQ)(a:List (List α)):HP:=
 HP.ex fun rs:List Sl=>(HP.all (aj e s 1 cF rs::bx b k f rs a)).and (rs.length=a.length)
section
variable {α:Type} {C:Ctx} {B:ap} {h0 h h':Heap} {As:List HP} {e e2 k t by_:Nat} {s:Sl} {f:α->aQ} {ll:List (List α)}
theorem aa.ul(H:aa B h0 h (iw e s e2 k f ll::As)):∃rs:List Sl,rs.length=ll.length/\aa B h0 h ((aj e s 1 cF rs::bx e2 k f rs ll)++As):=by
 obtain⟨rs,H⟩:=H.uk;obtain⟨H,a⟩:=H.lA;exact⟨rs,a,H.lL⟩
theorem aa.Eo{rs:List Sl}(a:rs.length=ll.length)(H:aa B h0 h ((aj e s 1 cF rs::bx e2 k f rs ll)++As)):aa B h0 h (iw e s e2 k f ll::As):=
 ((aa.closeAll _ H).tolA a).En (F:=fun rs:List Sl=>(HP.all (aj e s 1 cF rs::bx e2 k f rs ll)).and (rs.length=ll.length)) rs
theorem aa.Di(H:aa B h0 h As)(e a k:Nat)(f:α->aQ):aa B h0 h (iw e ⟨none,0,0⟩ a k f []::As):=
 aa.Eo (rs:=[]) rfl ((H.nil e 1 cF).cl)
theorem aa.Dj{Bs:List HP}(H:aa B h0 h (As++Bs)):aa B h0 h As:=H.pick id (fun _ _ h=>h) fun i A a=>by
 rw[id,ql (qk.1 a).1];exact a
theorem aa.yI(H:aa B h0 h (iw e s e2 k f ll::As))(b:∀x,(f x).length=k):dU h s k f ll:=by
 obtain⟨rs,a,H⟩:=H.ul;exact aa.JU (aa.Dj H) a b
theorem aa.sj(H:aa B h0 h (iw e s e2 k f ll::As)):s.len=ll.length/\s.len<=s.cap:=by
 obtain⟨rs,a,H⟩:=H.ul;exact⟨by rw[(H.own 0 rfl).len,a],(H.own 0 rfl).cap⟩
theorem aa.Ep(d:C.Ok){r:Sl}{x:List α}(H:aa B h0 h (iw e s e2 k f ll::aj e2 r k f x::As))(i:bN C.tosH t e 1 [.slice none 0 0] 24)(m:ll.length+1<=2^32){ty:Nat}{K:Sl->Heap->Prop}
  (l:∀a h',aa B h0 h' (iw e a e2 k f (ll++[x])::As)->K a h'):
  av C.P (qt t 1 #[(0,.slice r.ptr r.len r.cap)]) (.one (.sc .slc)) h fun v j=>av C.P (qu #[t,t] ty #[.slice s.ptr s.len s.cap,.slice v.ptr v.len v.cap]) (.one (.sc .slc)) j K:=by
 obtain⟨rs,c,H⟩:=H.ul;refine H.push d 0 rfl i rfl (by decide) (fun _=>rfl) pm r rfl (by decide) (by omega) fun a h' b=>l a h' ?_;refine aa.Eo (rs:=rs++[r]) (by simp[c]) ?_;rw[pr c];have b:aa B h0 h' (aj e a 1 cF (rs++[r])::(bx e2 k f rs ll++aj e2 r k f x::As)):=b;have g:aj e a 1 cF (rs++[r])::(bx e2 k f rs ll++[aj e2 r k f x])++As=aj e a 1 cF (rs++[r])::(bx e2 k f rs ll++aj e2 r k f x::As):=by simp
 rw[g];exact b
theorem aa.YB(H:aa B h0 h (iw e s e2 k f ll::As))(j:Nat)(o:j<=ll.length):aa B h0 h (iw e ⟨s.ptr,j,s.cap⟩ e2 k f (ll.take j)::As):=by
 obtain⟨rs,m,H⟩:=H.ul;have H:=H.cut 0 rfl (fun _=>rfl) j (by omega);refine aa.Eo (rs:=rs.take j) (by simp[m]) ?_;have n:bx e2 k f (rs.take j) (ll.take j)=(bx e2 k f rs ll).take j:=by unfold bx;rw[List.take_zipWith]
 rw[n];have H:aa B h0 h (aj e ⟨s.ptr,j,s.cap⟩ 1 cF (rs.take j)::(bx e2 k f rs ll++As)):=H;have g:=Cq (e:=e2) (k:=k) (f:=f) m;refine H.pick (fun i=>if i<=j then i else i+(ll.length-j)) (fun a b c=>by(try dsimp only at c);split at c<;>split at c<;>omega) fun i X d=>?_
 try dsimp only
 cases i with
 |zero=>rw[if_pos (by omega)];exact d
 |succ i=>
  rw[zk,qo]at d;by_cases l:i<j
  ·rw[if_pos (by omega),qo];rw[ql (by simp;omega),List.getElem?_take_of_lt l]at d;rw[ql (by omega)];exact d
  ·rw[if_neg (by omega),show i+1+(ll.length-j)=(i+(ll.length-j))+1 by omega,qo];rw[qg (by simp;omega)]at d;rw[qg (by omega)];have:i-((bx e2 k f rs ll).take j).length=i+(ll.length-j)-(bx e2 k f rs ll).length:=by simp[g];omega
   rw[<-this];exact d
end
end Go.Vc
namespace Gf
theorem Tm{p:UInt8->Prop}(h:∀n,n<256->p (UInt8.ofNat n))(a:UInt8):p a:=by
 have:=h a.toNat (UInt8.toNat_lt a)
 rwa [UInt8.ofNat_toNat]at this
def x2(a:UInt8):UInt8:=(a<<<1)^^^(if a&&&0x80=0 then 0 else 0x1b)
def x3(a:UInt8):UInt8:=x2 a^^^a
def pw:Nat->UInt8
 |0=>1
 |n+1=>x3 (pw n)
theorem VO(a b c:UInt8):(a^^^b)&&&c=(a&&&c)^^^(b&&&c):=by
 apply UInt8.toBitVec_inj.1;simp[UInt8.toBitVec_xor,UInt8.toBitVec_and];ext i hi;simp[Bool.and_xor_distrib_right]
theorem VP(a b:UInt8):(a^^^b)<<<1=(a<<<1)^^^(b<<<1):=by
 apply UInt8.toBitVec_inj.1;simp[UInt8.toBitVec_xor,UInt8.toBitVec_shiftLeft,BitVec.shiftLeft_xor_distrib]
theorem JX:∀a:UInt8,a&&&0x80=0∨a&&&0x80=0x80:=Tm (by decide+kernel)
theorem Tn(a b c d:UInt8):(a^^^b)^^^(c^^^d)=(a^^^c)^^^(b^^^d):=by ac_rfl
theorem WX(a b:UInt8):x2 (a^^^b)=x2 a^^^x2 b:=by
 unfold x2;rw[VO,VP];rcases JX a with ha|ha<;>rcases JX b with hb|hb<;>rw[ha,hb]
 ·simp
 ·simp[UInt8.xor_assoc]
 ·rw[Tn];simp
 ·rw[Tn];simp
theorem WY(a b:UInt8):x3 (a^^^b)=x3 a^^^x3 b:=by unfold x3;rw[WX,Tn]
def pu:Nat->UInt8->UInt8
 |0,a=>a
 |n+1,a=>x3 (pu n a)
theorem NI(a b:UInt8):∀n,pu n (a^^^b)=pu n a^^^pu n b
 |0=>rfl
 |n+1=>by simp only[pu,NI a b n,WY]
theorem Gs(a:UInt8)(m:Nat):∀n,pu (n+m) a=pu n (pu m a)
 |0=>by simp[pu]
 |n+1=>by rw[Nat.add_right_comm];simp only[pu,Gs a m n]
theorem JY:∀n,pu n 0=0
 |0=>rfl
 |n+1=>by rw[pu,JY n];rfl
theorem sK:∀n,pw n=pu n 1
 |0=>rfl
 |n+1=>by rw[pw,pu,sK n]
def YC:Nat:=939374623831894136699086600277250597547650664638770418422125146541797353646788332867483593573384618611044815625336497665827114626705134492515730415652478061620339993830966980270842846318821775850471098591710629241171812800746666233448222972174585295916389942636813666312872914849454985560152530477328703759683306625234997237483834721220409437442253146756845415190424543171129629468776480674528486868811725071010351012234056630775688111116293610821126543142160426617079940511630006820862697466582575257349116925728488930366609138264019883664906661504235885380294353134295748489096855100647154935187045898006656778240
def lg(a:UInt8):Nat:=(YC>>>(8*a.toNat))%256
theorem Er:∀a:UInt8,lg a<255:=Tm (by decide+kernel)
theorem Oz:∀a:UInt8,a≠0->pw (lg a)=a:=Tm (by decide+kernel)
theorem OA:∀n,n<255->lg (pw n)=n:=by decide+kernel
theorem WZ:pw 255=1:=by decide+kernel
theorem OB:∀n,n<255->pw n≠0:=by decide+kernel
theorem QA(n:Nat):pw (n+255)=pw n:=by
 rw[sK,Gs,<-sK 255,WZ,<-sK]
theorem QB(n:Nat):pw (n%255)=pw n:=by
 have:∀k m,pw (m+255*k)=pw m:=by
  intro k
  induction k with
  |zero=>intro m;rfl
  |succ k ih=>intro m;rw[Nat.mul_succ,<-w7,QA,ih]
 have h:=this (n/255) (n%255);rw[Nat.mod_add_div]at h;exact h.symm
def mul(a b:UInt8):UInt8:=if a=0∨b=0 then 0 else pw ((lg a+lg b)%255)
def inv(a:UInt8):UInt8:=if a=0 then 0 else pw ((255-lg a)%255)
theorem mul_zero(a:UInt8):mul a 0=0:=by simp[mul]
theorem zero_mul(a:UInt8):mul 0 a=0:=by simp[mul]
theorem mul_comm(a b:UInt8):mul a b=mul b a:=by
 unfold mul;rw[Nat.add_comm];by_cases h:a=0∨b=0
 ·rw[if_pos h,if_pos h.symm]
 ·rw[if_neg h,if_neg fun x=>h x.symm]
theorem JZ(a b:UInt8)(d:a≠0):mul a b=pu (lg a) b:=by
 by_cases c:b=0
 ·subst c;rw[mul_zero,JY]
 ·rw[mul,if_neg (by simp[d,c]),QB,sK,Gs,<-sK,Oz b c]
theorem ip(a b c:UInt8):mul a (b^^^c)=mul a b^^^mul a c:=by
 by_cases d:a=0
 ·subst d;simp[zero_mul]
 ·rw[JZ _ _ d,JZ _ _ d,JZ _ _ d,NI]
theorem NJ(a b c:UInt8):mul (a^^^b) c=mul a c^^^mul b c:=by rw[mul_comm,ip,mul_comm c a,mul_comm c b]
theorem QC{a b:UInt8}(c:a≠0)(d:b≠0):mul a b≠0:=by
 rw[mul,if_neg (by simp[c,d])];exact OB _ (yM _ (by decide))
theorem QD{a b:UInt8}(c:a≠0)(d:b≠0):lg (mul a b)=(lg a+lg b)%255:=by
 rw[mul,if_neg (by simp[c,d]),OA _ (yM _ (by decide))]
theorem mul_assoc(a b c:UInt8):mul (mul a b) c=mul a (mul b c):=by
 by_cases f:a=0
 ·subst f;simp[zero_mul]
 by_cases d:b=0
 ·subst d;simp[zero_mul,mul_zero]
 by_cases e:c=0
 ·subst e;simp[mul_zero]
 rw[mul,if_neg (by simp[QC f d,e]),QD f d,mul,if_neg (by simp[f,QC d e]),QD d e];congr 1;omega
theorem Xa:lg 1=0:=by decide+kernel
theorem one_mul(a:UInt8):mul 1 a=a:=by
 by_cases b:a=0
 ·subst b;rfl
 ·rw[mul,if_neg (by simp[b]),Xa,zG,QB,Oz a b]
theorem mul_one(a:UInt8):mul a 1=a:=by rw[mul_comm,one_mul]
theorem Xb{a:UInt8}(b:a≠0):inv a≠0:=by
 rw[inv,if_neg b];exact OB _ (yM _ (by decide))
theorem Gt{a:UInt8}(b:a≠0):mul a (inv a)=1:=by
 have c:=Er a;rw[mul,if_neg (by simp[b,Xb b]),inv,if_neg b,OA _ (yM _ (by decide))];have:(lg a+(255-lg a)%255)%255=0:=by omega
 rw[this];rfl
end Gf
