/- Part of the proofs that the laws of this seat answer true whatever the input reads, and leave it as it was; no condition. -/
import Derived.Test.YtcamechmadjclaaGreatDoorVcA
set_option linter.unusedVariables false
set_option linter.unusedSimpArgs false
open Nat renaming add_assoc -> z8, add_sub_cancel_left -> qW, add_zero -> wm, le_refl -> qM, le_trans -> zw, lt_of_lt_of_le -> qv, min_eq_left -> zu, mul_le_mul -> wo, mul_le_mul_right -> qR, sub_self -> zT, succ_mul -> zS, zero_add -> zo
open Array renaming ext' -> zN, ext_getElem? -> wh, getElem?_eq_some_iff -> zX, getElem?_modify -> zl, mapM_eq_mapM_toList -> z6, range -> wF
open List renaming all_eq_true -> qH, append_assoc -> qp, append_nil -> qU, cons_append -> zm, drop_drop -> wq, drop_eq_getElem_cons -> qY, drop_of_length_le -> q9, eq_nil_of_length_eq_zero -> qP, flatMap_append -> qy, flatMap_cons -> qF, getD_eq_getElem?_getD -> qj, getElem?_append_left -> qk, getElem?_append_right -> qf, getElem?_cons_succ -> qe, getElem?_cons_zero -> zr, getElem?_eq_getElem -> qc, getElem?_eq_none -> qO, getElem?_eq_some_iff -> qn, getElem?_map -> qE, getElem?_set -> qN, getElem?_toArray -> q6, getElem?_zipWith -> zG, getElem_mem -> qt, length_append -> qu, length_cons -> qV, length_drop -> qG, length_map -> qT, length_set -> q8, length_take -> qx, map_cons -> zO, mem_cons -> zA, mem_flatMap -> zB, mem_singleton -> qz, pairwise_iff_getElem -> z7, replicate -> qd, set_eq_take_append_cons_drop -> zI, size_toArray -> zq, take_append_drop -> qw, take_length -> qK, take_of_length_le -> qi
open Go.Value renaming int -> wI
open Go.IntKind renaming i64 -> wO, u8 -> wP, wrap -> qa
open Go.Builtin renaming append_ -> qh, copy_ -> zd, firstCells -> zn, nextslicecap -> zY
open Bool renaming false_eq_true -> qJ, not_false -> zP, true_and -> wa
open Go.Instr renaming alloc -> qC, box -> qA, build -> zy, buildSlice -> qg, fill -> zD, findNow -> wB, makeSlice -> wc, storeAt -> qb
open Int renaming toNat_natCast -> qm
open Option renaming map_some -> qQ, some -> zQ
set_option maxRecDepth 100000
namespace Go.Vc
open Go
section
variable {A B:Prop}
theorem af{p:Prop}[Decidable p](b:p->A)(a:¬p->B):Br (decide p) A B:=by
 by_cases h:p
 ·rw[decide_eq_true h];exact b h
 ·rw[decide_eq_false h];exact a h
theorem bp{a b:Int}(d:a=b->A)(c:a≠b->B):Br (a==b) A B:=by
 by_cases h:a=b
 ·rw[beq_iff_eq.2 h];exact d h
 ·rw[beq_eq_false_iff_ne.2 h];exact c h
theorem bq{a b:Int}(d:a≠b->A)(c:a=b->B):Br (a !=b) A B:=by
 by_cases h:a=b
 ·rw[show(a !=b)=false by simp[h]];exact c h
 ·rw[show(a !=b)=true by simp[h]];exact d h
theorem aN{b:Bool}(c:b=true->A)(a:b=false->B):Br b A B:=by
 cases b
 ·exact a rfl
 ·exact c rfl
theorem aK{b:Bool}(c:b=false->A)(a:b=true->B):Br (!b) A B:=by
 cases b
 ·exact c rfl
 ·exact a rfl
end
theorem aG{σ:Type}{rest:σ->Heap->Prop}{B:(σ->Heap->Prop)->Prop}(h:B rest):aP rest B:=⟨rest,fun _ _ x=>x,h⟩
theorem dN{σ:Type}{rest:σ->Heap->Prop}{B:(σ->Heap->Prop)->Prop}(R:σ->Heap->Prop)(b:B R)(a:∀s h,R s h->rest s h):aP rest B:=⟨R,a,b⟩
theorem aB{σ:Type}{B:σ->(σ->Heap->Prop)->Heap->Prop}{s:σ}{h:Heap}{τ:Type}(V:τ->σ)(I:τ->Heap->Prop)(μ:τ->Nat)(t0:τ)(c:s=V t0)(e:I t0 h)
  (b:∀t h,I t h->B (V t) (fun d h'=>∃a,d=V a/\I a h'/\μ a<μ t) h):aM B s h:=⟨τ,V,I,μ,t0,c,e,b⟩
abbrev am:=Nat->Prop
def ax(p:am)(h a:Heap):Prop:=h.size<=a.size/\∀b,b<h.size->p b->a[b]?=h[b]?
def Sl.on(s:Sl)(b:Nat):Prop:=∃o,s.ptr=some ⟨b,o,none⟩
section
variable {p q:am} {h h' h'':Heap}
theorem ax.refl(p:am)(h:Heap):ax p h h:=⟨qM _,fun _ _ _=>rfl⟩
theorem ax.trans(a:ax p h h')(b:ax p h' h''):ax p h h'':=⟨zw a.1 b.1,fun k d c=>(b.2 k (qv d a.1) c).trans (a.2 k d c)⟩
theorem ax.then(a:ax p h h')(b:ax q h' h'')(e:∀k,k<h.size->p k->q k):ax p h h'':=⟨zw a.1 b.1,fun k c d=>(b.2 k (qv c a.1) (e k c d)).trans (a.2 k c d)⟩
theorem ax.mono(a:ax p h h')(e:∀b,b<h.size->q b->p b):ax q h h':=⟨a.1,fun k c d=>a.2 k c (e k c d)⟩
theorem ax.push(p:am)(h:Heap)(o:Obj):ax p h (h.push o):=⟨by simp,fun b a _=>by rw[Array.getElem?_push,if_neg (by omega)]⟩
theorem ax.lQ{a:Addr}{v:Value}(c:¬p a.block):ax p h (lQ h a v):=⟨by simp[Go.Vc.lQ],fun b _ d=>by
 simp only[Go.Vc.lQ,zl];rw[if_neg (fun e=>c (by rw[e];exact d))]⟩
theorem bg{a:Addr}{v:Value}(b:cellOf h a=some v):a.block<h.size:=by
 unfold cellOf at b;cases hb:h[a.block]? with
 |none=>rw[hb]at b;cases b
 |some o=>exact(zX.1 hb).1
theorem lt_of_block{b:Nat}{o:Obj}(a:h[b]?=some o):b<h.size:=(zX.1 a).1
theorem ax.cell(a:ax p h h'){x:Addr}{v:Value}(c:p x.block)(b:cellOf h x=some v):cellOf h' x=some v:=by
 have:=a.2 _ (bg b) c;unfold cellOf at*;rw[this];exact b
theorem ax.block(a:ax p h h'){b:Nat}{o:Obj}(d:p b)(c:h[b]?=some o):h'[b]?=some o:=by rw[a.2 b (lt_of_block c) d];exact c
theorem ax.cells(a:ax p h h'){x:Addr}(b:p x.block):∀{vs:List Value} {i:Nat},ap h x i vs->ap h' x i vs
 |[],_,_=>trivial
 |v::r,i,hc=>⟨a.cell (by unfold Addr.add;split<;>exact b) hc.1,ax.cells a b hc.2⟩
end
theorem add_eq(b o n:Nat):(⟨b,o,none⟩:Addr).add n=⟨b,o+n,none⟩:=by
 unfold Addr.add;split
 ·rename_i h;subst h;rfl
 ·rfl
theorem add_zero(a:Addr):a.add 0=a:=rfl
theorem kK{h:Heap}{b o:Nat}{c:Array Value}{e:TypeId}{f:Nat×Nat}(a:h[b]?=some (.cells c e f)):cellOf h ⟨b,o,none⟩=c[o]?:=by
 unfold cellOf;rw[a];rfl
theorem vD{h:Heap}{b o:Nat}{c:Array Value}{e:TypeId}(a:h[b]?=some (.cells c e (0,0))):tH h ⟨b,o,none⟩=false:=by
 unfold tH;rw[a];simp
structure Seq {α:Type} (h:Heap) (p:am) (s:Sl) (k:Nat) (f:α->List Value) (l:List α):Prop where
 len:s.len=l.length
 elem:∀i x,l[i]?=some x->∃b o,s.ptr=some ⟨b,o,none⟩/\p b/\ap h ⟨b,o+i*k,none⟩ 0 (f x)
section
variable {α:Type} {h h':Heap} {p q:am} {s:Sl} {k:Nat} {f:α->List Value} {l:List α}
theorem Seq.ai(a:Seq h p s k f l)(d:ax p h h'):Seq h' p s k f l:=⟨a.len,fun i x g=>by
 obtain⟨b,o,e,c,j⟩:=a.elem i x g;exact⟨b,o,e,c,d.cells c j⟩⟩
theorem Seq.mono(a:Seq h p s k f l)(c:∀b,p b->q b):Seq h q s k f l:=⟨a.len,fun i x g=>by
 obtain⟨b,o,e,d,j⟩:=a.elem i x g;exact⟨b,o,e,c b d,j⟩⟩
theorem Seq.nil(h:Heap)(p:am)(c:Nat)(a:Option Addr)(k:Nat)(f:α->List Value):Seq h p ⟨a,0,c⟩ k f []:=⟨rfl,fun i x b=>by simp at b⟩
theorem Seq.cd{X:Type}{g:X->Value}(c:Seq h p s 1 f l){i:Int}(n:Nat)(e:i=n)(j:n<l.length)(x:X)(m:f l[n]=[g x]){K:X->Prop}(q:K x):
  ∃a:Addr,(s.ptr=some a/\0<=i/\i<((s.len:Nat):Int))/\∃x:X,cellOf h (a.add (i.toNat*1))=some (g x)/\K x:=by
 subst e;obtain⟨b,o,k,_,d⟩:=c.elem n l[n] (qc j);refine⟨_,⟨k,by omega,by rw[c.len];omega⟩,x,?_,q⟩;rw[m]at d;have:=d.1;rw[add_eq,wm]at this;rw[add_eq];simpa using this
theorem Seq.gp{X:Type}{g:X->List Value}(c:Seq h p s k f l){i:Int}(n:Nat)(e:i=n)(j:n<l.length)(x:X)(q:f l[n]=g x){K:X->Prop}(r:K x):
  ∃a:Addr,(s.ptr=some a/\0<=i/\i<((s.len:Nat):Int))/\∃x:X,ap h (a.add (i.toNat*k)) 0 (g x)/\K x:=by
 subst e;obtain⟨b,o,m,_,d⟩:=c.elem n l[n] (qc j);refine⟨_,⟨m,by omega,by rw[c.len];omega⟩,x,?_,r⟩;rw[add_eq];rw[q]at d;simpa using d
end
def ay(n:Int):List Value:=[wI wO n]
def aF(n:UInt8):List Value:=[wI wP n.toNat]
def dU(s:Sl):List Value:=[.slice s.ptr s.len s.cap]
structure eQ {α:Type} (h:Heap) (p:am) (s:Sl) (k:Nat) (f:α->List Value) (ll:List (List α)) (rs:List Sl):Prop where
 top:Seq h p s 1 dU rs
 len:rs.length=ll.length
 row:∀(i:Nat) (r:Sl) (l:List α),rs[i]?=some r->ll[i]?=some l->Seq h p r k f l
section
variable {α:Type} {h h':Heap} {p q:am} {s:Sl} {k:Nat} {f:α->List Value} {ll:List (List α)} {rs:List Sl}
theorem eQ.ai(a:eQ h p s k f ll rs)(b:ax p h h'):eQ h' p s k f ll rs:=⟨a.top.ai b,a.len,fun i r l d c=>(a.row i r l d c).ai b⟩
theorem eQ.mono(a:eQ h p s k f ll rs)(c:∀b,p b->q b):eQ h q s k f ll rs:=⟨a.top.mono c,a.len,fun i r l e d=>(a.row i r l e d).mono c⟩
theorem eQ.yi(a:eQ h p s k f ll rs):s.len=ll.length:=by rw[a.top.len,a.len]
theorem eQ.get(c:eQ h p s k f ll rs){i:Int}(n:Nat)(g:i=n)(d:n<ll.length){K:Sl->Prop}(j:∀r,Seq h p r k f ll[n]->rs[n]?=some r->K r):
  ∃a:Addr,(s.ptr=some a/\0<=i/\i<((s.len:Nat):Int))/\∃x:Sl,cellOf h (a.add (i.toNat*1))=some (.slice x.ptr x.len x.cap)/\K x:=by
 have b:n<rs.length:=by rw[c.len];exact d
 have e:rs[n]?=some rs[n]:=qc b;exact c.top.cd n g b rs[n] rfl (j _ (c.row n _ _ e (qc d)) e)
end
structure Own {α:Type} (h:Heap) (e:TypeId) (s:Sl) (k:Nat) (f:α->List Value) (l:List α):Prop where
 len:s.len=l.length
 head:(s.ptr=none/\s.cap=0/\l=[])∨∃b rest,s.ptr=some ⟨b,0,none⟩/\h[b]?=some (.cells (l.flatMap f++rest).toArray e (0,0))/\rest.length=(s.cap-s.len)*k/\s.len<=s.cap
theorem bN{α:Type}{k:Nat}{f:α->List Value}(a:∀x,(f x).length=k):∀(l:List α),(l.flatMap f).length=l.length*k
 |[]=>by simp
 |x::r=>by rw[qF,qu,a,bN a r,qV,zS];omega
theorem rG{α:Type}{k:Nat}{f:α->List Value}(a:∀x,(f x).length=k):∀(l:List α) (i:Nat) (x:α),l[i]?=some x->∃pre post,l.flatMap f=pre++f x++post/\pre.length=i*k
 |y::r,0,x,h=>by simp at h;subst h;exact⟨[],r.flatMap f,by simp,by simp⟩
 |y::r,i+1,x,h=>by
  obtain⟨pre,post,c,b⟩:=rG a r i x (by simpa using h);exact⟨f y++pre,post,by simp[c],by rw[qu,a,b,zS];omega⟩
theorem jW{h:Heap}{b o:Nat}{e:TypeId}{fr:Nat×Nat}:∀{vs pre post:List Value} {i:Nat},h[b]?=some (.cells (pre++vs++post).toArray e fr)->pre.length=o+i->ap h ⟨b,o,none⟩ i vs
 |[],_,_,_,_,_=>trivial
 |v::r,pre,post,i,hb,hl=>by
  refine⟨?_,jW (pre:=pre++[v]) (post:=post) (by simpa using hb) (by simp;omega)⟩;rw[add_eq,kK hb,<-hl];simp
def cy(h:Heap)(b:Nat)(o:Obj):Heap:=h.setIfInBounds b o
theorem cn{h:Heap}{b c:Nat}{o x:Obj}(a:h[b]?=some x):(cy h b o)[c]?=if b=c then some o else h[c]?:=by
 unfold cy;rw[Array.getElem?_setIfInBounds];split
 ·rename_i e;subst e;rw[if_pos (lt_of_block a)]
 ·rfl
theorem uA{h:Heap}{b o:Nat}{c:Array Value}{e:TypeId}{f:Nat×Nat}{v:Value}(a:h[b]?=some (.cells c e f)):lQ h ⟨b,o,none⟩ v=cy h b (.cells (c.setIfInBounds o v) e f):=by
 apply wh;intro i;rw[cn a];simp only[lQ,zl];split
 ·rename_i d;subst d;rw[a];rfl
 ·rfl
theorem uB(h:Heap)(b:Nat)(o a:Obj):cy (cy h b o) b a=cy h b a:=by
 unfold cy;simp
theorem ax.cy{p:am}{h:Heap}{b:Nat}{o x:Obj}(a:h[b]?=some x)(d:¬p b):ax p h (cy h b o):=⟨by simp[Go.Vc.cy],fun c _ f=>by
 rw[cn a,if_neg (fun e=>d (by rw[e];exact f))]⟩
theorem bB{P:Program}{b o:Nat}{e:TypeId}{K:Unit->Heap->Prop}:∀{vs pre old post:List Value} {i:Nat} {h:Heap},h[b]?=some (.cells (pre++old++post).toArray e (0,0))->old.length=vs.length->pre.length=o+i->
  (∀v∈vs,v.oneCell'=true)->K () (cy h b (.cells (pre++vs++post).toArray e (0,0)))->ab P (storeCells ⟨b,o,none⟩ vs i) h K
 |[],pre,old,post,i,h,hb,hl,hp,hv,hk=>by
  have:old=[]:=qP (by simpa using hl);subst this;refine ab.pure' ?_;have f:cy h b (.cells (pre++[]++post).toArray e (0,0))=h:=by
   apply wh;intro c;rw[cn hb];split
   ·rename_i d;subst d;exact hb.symm
   ·rfl
  rw[f]at hk;exact hk
 |v::r,pre,old,post,i,h,hb,hl,hp,hv,hk=>by
  cases old with
  |nil=>simp at hl
  |cons u old=>
   simp only[storeCells];refine ab.bind ?_;rw[add_eq];have d:cellOf h ⟨b,o+i,none⟩=some u:=by rw[kK hb,<-hp];simp
   refine ab.xq (hv v (by simp)) d (vD hb) ?_;rw[uA hb];have a:(pre++(u::old)++post).toArray.setIfInBounds (o+i) v=((pre++[v])++old++post).toArray:=by
    rw[<-hp];apply zN;simp
   rw[a];refine bB (e:=e) (pre:=pre++[v]) (old:=old) (post:=post) ?_ (by simpa using hl) (by simp;omega) (fun x g=>hv x (by simp[g])) ?_
   ·rw[cn hb,if_pos rfl]
   ·rw[uB];simpa using hk
theorem oP{P:Program}{h:Heap}{a:Addr}{vs:List Value}{n:Nat}{K:Array Value->Heap->Prop}(c:vs.length=n)(e:ap h a 0 vs)(d:K vs.toArray h):ab P (loadCells a n) h K:=fun w b=>by
 subst b;refine⟨vs.toArray,w,?_,bm.refl w,d⟩;have:=run_loadCells (P:=P) (w:=w) (a:=a) vs 0 #[] e;rw[c]at this;unfold loadCells;rw[this];simp
section
variable {α:Type} {h h':Heap} {p:am} {e:TypeId} {s:Sl} {k:Nat} {f:α->List Value} {l:List α}
theorem Own.lt(c:Own h e s k f l){b:Nat}(a:s.on b):b<h.size:=by
 rcases c.head with⟨h1,_,_⟩|⟨b',rest,h1,h2,_,_⟩
 ·obtain⟨o,h0⟩:=a;rw[h1]at h0;cases h0
 ·obtain⟨o,h0⟩:=a;rw[h1]at h0;cases h0;exact lt_of_block h2
theorem Own.ai(c:Own h e s k f l)(d:ax p h h')(a:∀b,s.on b->p b):Own h' e s k f l:=⟨c.len,by
 rcases c.head with h1|⟨b,rest,h1,h2,h3,h4⟩
 ·exact .inl h1
 ·exact .inr ⟨b,rest,h1,d.block (a b ⟨0,h1⟩) h2,h3,h4⟩⟩
theorem Own.seq(d:Own h e s k f l)(g:∀x,(f x).length=k)(a:∀b,s.on b->p b):Seq h p s k f l:=⟨d.len,fun i x c=>by
 rcases d.head with⟨_,_,h1⟩|⟨b,rest,h1,h2,h3,h4⟩
 ·subst h1;simp at c
 ·obtain⟨pre,post,j,m⟩:=rG g l i x c;refine⟨b,0,h1,a b ⟨0,h1⟩,jW (e:=e) (fr:=(0,0)) (pre:=pre) (post:=post++rest) ?_ (by omega)⟩;rw[h2,j];simp⟩
theorem Own.nil(h:Heap)(e:TypeId)(k:Nat)(f:α->List Value):Own h e ⟨none,0,0⟩ k f []:=⟨rfl,.inl ⟨rfl,rfl,rfl⟩⟩
theorem Own.cap(a:Own h e s k f l):s.len<=s.cap:=by
 rcases a.head with⟨h1,h2,h3⟩|⟨b,rest,h1,h2,h3,h4⟩
 ·have:=a.len;rw[h3]at this;simp at this;omega
 ·exact h4
end
theorem ab.always{α:Type}{P:Program}{s:Sem α}{v:α}{h:Heap}{K:α->Heap->Prop}(b:aj P s v)(c:K v h):ab P s h K:=fun w a=>⟨v,w,b w,bm.refl w,by rw[a];exact c⟩
structure bk (C:kp) (t e k:Nat) (z:List Value) (by_:Nat):Prop where
 ex:∃i j,C.T.get t=some i/\i.bi=.slice e/\C.T.get e=some j/\j.size=k/\j.zero=z/\j.bytes=by_
section
variable {C:Ctx} {t e k:Nat} {z:List Value} {by_:Nat}
theorem bk.under(a:bk C.tokp t e k z by_)(d:C.Ok):C.P.underlying t=some (.slice e):=by
 obtain⟨i,j,c,b,_⟩:=a.ex;have:=d.bi c;rw[b]at this;exact dI this
theorem bk.size(a:bk C.tokp t e k z by_)(d:C.Ok):aj C.P (sizeOf e) k:=by
 obtain⟨i,j,_,_,c,b,_⟩:=a.ex;rw[<-b];exact bj d.toOk c
theorem bk.info(c:bk C.tokp t e k z by_)(p:C.Ok):∃f,C.P.info? e=some f/\f.size=k/\f.bytes=by_/\∃a,f.zero=some a/\a.cells=z.toArray:=by
 obtain⟨i,j,_,_,l,h,n,q⟩:=c.ex;obtain⟨f,d,b,g,a,m,o⟩:=p.info l;exact⟨f,d,b.trans h,g.trans q,a,m,by apply zN;rw[o,n]⟩
end
def cC(z:List Value):Nat->List Value
 |0=>[]
 |n+1=>z++cC z n
theorem fm(z:List Value):∀n,(cC z n).length=n*z.length
 |0=>by simp[cC]
 |n+1=>by rw[cC,qu,fm z n,zS];omega
theorem rH(z:List Value):∀(n i:Nat),i<n*z.length->(cC z n)[i]?=z[i%z.length]?
 |0,i,h=>by simp at h
 |n+1,i,h=>by
  have b:0<z.length:=Nat.pos_of_ne_zero fun e=>by rw[e]at h;simp at h
  rw[cC];by_cases a:i<z.length
  ·rw[qk a,Nat.mod_eq_of_lt a]
  ·rw[qf (by omega),rH z n (i-z.length) (by rw[zS]at h;omega)];congr 1
   conv=>rhs;rw[show i=(i-z.length)+z.length by omega,Nat.add_mod_right]
theorem rI(z:List Value)(n m:Nat)(c:m=n*z.length):((wF m).map (fun i=>z.toArray[i%z.toArray.size]!))=(cC z n).toArray:=by
 apply wh;intro i;subst c;simp only[Array.getElem?_map,Array.getElem?_range,q6];by_cases a:i<n*z.length
 ·rw[rH z n i a];have b:0<z.length:=Nat.pos_of_ne_zero fun e=>by rw[e]at a;simp at a
  have:=Nat.mod_lt i b;simp[a,this]
 ·rw[qO (by rw[fm];omega)];simp[a]
theorem ma(z:List Value)(n:Nat):Builtin.zeroCells z.toArray n=(cC z n).toArray:=rI z n _ (by simp)
theorem tm(a:Nat):∀(r c:Nat),Builtin.growBy a r c<=(c+768)*2^r
 |0,c=>by simp[Builtin.growBy]
 |r+1,c=>by
  unfold Builtin.growBy;split
  ·exact zw (Nat.le_add_right c 768) (Nat.le_mul_of_pos_right _ (Nat.two_pow_pos _))
  ·refine zw (tm a r _) ?_;rw[Nat.pow_succ,Nat.mul_comm (2^r) 2,<-Nat.mul_assoc];exact qR _ (by omega)
theorem xR(o n:Nat)(h:o<n):(o+768)*2^4<=16*n+16*768:=by omega
theorem tp(a b:Nat)(h:b<a):zY a b<=16*a+16*768:=by
 unfold zY;split
 ·omega
 ·split
  ·omega
  ·exact zw (tm a 4 b) (xR _ _ h)
section
variable {C:Ctx} {t t2 e k:Nat} {z:List Value} {by_:Nat} {α:Type} {h:Heap} {p:am} {s v:Sl} {f:α->List Value} {l l2:List α}
theorem cu{P:Program}{K:Array Value->Heap->Prop}(z:∀x,(f x).length=k)(j:Seq h p v k f l)(t:K (l.flatMap f).toArray h):
  ab P (zn k v.len (.slice v.ptr v.len v.cap)) h K:=by
 cases hp:v.ptr with
 |none=>
  have:l=[]:=by
   cases l with
   |nil=>rfl
   |cons x r=>obtain⟨b,o,c,_⟩:=j.elem 0 x (by simp);rw[hp]at c;cases c
  subst this;exact ab.pure' t
 |some a=>
  refine oP (by rw[bN z,<-j.len]) ?_ t;cases l with
  |nil=>trivial
  |cons A r0=>
   obtain⟨b,o,c,_,_⟩:=j.elem 0 A (by simp);rw[hp]at c;cases c;have s:∀(r:List α) (n:Nat),(∀i x,r[i]?=some x->ap h ⟨b,o+(n+i)*k,none⟩ 0 (f x))->ap h ⟨b,o,none⟩ (n*k) (r.flatMap f):=by
    intro r
    induction r with
    |nil=>intro n _;trivial
    |cons x r ih=>
     intro n w;have h0:=w 0 x (by simp);have g:=ih (n+1) (fun i y E=>by have:=w (i+1) y (by simpa using E);rw[show n+1+i=n+(i+1)by omega];exact this);rw[qF];have q:∀(d vs:List Value) (i:Nat),ap h ⟨b,o,none⟩ i d->ap h ⟨b,o,none⟩ (i+d.length) vs->ap h ⟨b,o,none⟩ i (d++vs):=by
      intro d
      induction d with
      |nil=>intro vs i _ g;simpa using g
      |cons u d ih=>intro vs i c g;exact⟨c.1,ih vs (i+1) c.2 (by rw[show i+1+d.length=i+(d.length+1)by omega];exact g)⟩
     refine q _ _ _ ?_ (by rw[z,<-zS];exact g);have e:∀(d:List Value) (i m:Nat),ap h ⟨b,o+m,none⟩ i d->ap h ⟨b,o,none⟩ (m+i) d:=by
      intro d
      induction d with
      |nil=>intros;trivial
      |cons u d ih=>
       intro i m c;refine⟨?_,ih (i+1) m c.2⟩;have:=c.1;rw[add_eq]at this⊢;rw[<-z8];exact this
     have:=e (f x) 0 ((n+0)*k) h0;simpa using this
   have:=s (A::r0) 0 (fun i x B=>by
    obtain⟨F,G,c,_,D⟩:=j.elem i x B;rw[hp]at c;cases c;simpa using D)
   simpa using this
theorem tQ(y:C.Ok)(B:bk C.tokp t e k z by_)(h2:∃i e2,C.T.get t2=some i/\i.bi=.slice e2)(hz:z.length=k)(M:0<by_/\by_<=128)(m:∀x,(f x).length=k)
  (w:Own h e s k f l) (F:Seq h p v k f l2) (n:∀x,∀c∈f x,c.oneCell'=true) (a0:l.length+l2.length<=2^32) {Z:Nat} {K:Sl->Heap->Prop}
  (J:∀I h',Own h' e I k f (l++l2)->ax (fun b=>¬s.on b) h h'->(∀b,I.on b->s.on b∨h.size<=b)->K I h'):
  ar C.P (qh #[t,t2] Z #[.slice s.ptr s.len s.cap,.slice v.ptr v.len v.cap]) (.one (.sc .slc)) h K:=by
 obtain⟨i2,e2,V,g2⟩:=h2;have Q:C.P.underlying t2=some (.slice e2):=by have:=y.bi V;rw[g2]at this;exact dI this
 obtain⟨D,A,x2,x3,Y,x4,U⟩:=B.info y;unfold ar qh;simp only[q6,zr,qe];refine ab.bind (ab.always (aq (B.under y)) ?_);refine ab.bind (ab.always (B.size y) ?_);refine ab.bind (ab.always (aq Q) ?_);refine ab.bind (ab.pure' ?_);simp only[qJ,if_false,zP,if_true];refine ab.bind (ab.pure' ?_);have r:=w.len;have N:=F.len;by_cases d:s.len+v.len<=s.cap
 ·rw[if_pos d];refine ab.bind (cu m F ?_);rcases w.head with⟨p1,p2,p3⟩|⟨b,rest,p1,p2,p3,p4⟩
  ·rw[p1];have G:l2=[]:=qP (by omega);subst G;refine ab.pure' ⟨⟨none,s.len+v.len,s.cap⟩,rfl,J _ _ ⟨?_,.inl ⟨rfl,p2,by simp[p3]⟩⟩ (ax.refl _ _) ?_⟩
   ·simp;omega
   ·rintro R ⟨o,g⟩;cases g
  ·rw[p1];refine ab.bind ?_;rw[add_eq,zo];have j:=bN m l;have a:=bN m l2;have O:(l2.flatMap f).length<=rest.length:=by
    rw[a,p3];exact qR k (by omega)
   refine bB (e:=e) (pre:=l.flatMap f) (old:=rest.take (l2.flatMap f).length) (post:=rest.drop (l2.flatMap f).length) ?_ ?_ ?_ ?_ ?_
   ·rw[qp,qw];exact p2
   ·rw[qx];exact zu O
   ·rw[j,r];omega
   ·intro c hc;obtain⟨x,_,H⟩:=zB.1 hc;exact n x c H
   ·refine ab.pure' ⟨⟨some ⟨b,0,none⟩,s.len+v.len,s.cap⟩,rfl,J _ _ ⟨?_,.inr ⟨b,rest.drop (l2.flatMap f).length,rfl,?_,?_,d⟩⟩ ?_ ?_⟩
    ·simp;omega
    ·rw[cn p2,if_pos rfl];simp
    ·rw[qG,p3,a,<-Nat.sub_mul];show(s.cap-s.len-l2.length)*k=(s.cap-(s.len+v.len))*k;congr 1;omega
    ·exact ax.cy p2 (fun hn=>hn ⟨0,p1⟩)
    ·rintro R ⟨o,g⟩;cases g;exact .inl ⟨0,p1⟩
 ·rw[if_neg d];have u:Seq h (fun _=>True) s k f l:=w.seq m (fun _ _=>trivial);have S:=w.cap;refine ab.bind (ab.always (bc A) ?_);rw[if_neg (fun X=>by rcases X.2 with h|h<;>first|exact h|(rw[x3]at h;omega))];refine ab.bind (ab.always (bc A) ?_);have ad:=tp (s.len+v.len) s.cap (by omega);rw[if_neg (by
   have:zY (s.len+v.len) s.cap*D.bytes<=(16*2^32+16*768)*128:=wo (by omega) (by rw[x3];exact M.2);omega)]
  refine ab.bind (ab.oK ⟨fun W=>(by cases W),fun _ nn=>?_⟩);refine ab.bind (ab.always (bc A) ?_);refine ab.bind (ab.nv ?_);refine ab.bind (cu m u ?_);refine ab.bind (cu m F ?_);have L:aj C.P (zeroValue e) Y:=(bc A).bind (by rw[x4];exact .pure);refine ab.bind (ab.always L ?_);rw[U,ma];unfold newRow;refine ab.bind (ab.bind (ab.gk (ab.pure' (ab.pure' ?_))));generalize E:Question.cut (Question.appendCap (s.len+v.len) s.cap e) nn=cc;have q:s.len+v.len<=cc:=by rw[<-E];simp only[Question.cut];omega
  refine⟨⟨some ⟨h.size,0,none⟩,s.len+v.len,cc⟩,rfl,J _ _ ⟨?_,.inr ⟨h.size,cC z (cc-(s.len+v.len)),rfl,?_,?_,q⟩⟩ (ax.push _ _ _) ?_⟩
  ·simp;omega
  ·simp
  ·rw[fm,hz]
  ·rintro R ⟨o,g⟩;cases g;exact .inr (qM _)
end
structure bE (h:Heap) (a:Addr) (e:TypeId) (cs:List Value):Prop where
 off:a.off=0
 spot:a.spot=none
 blk:h[a.block]?=some (.cells cs.toArray e (0,0))
section
variable {h h':Heap} {a:Addr} {e:TypeId} {cs:List Value} {p:am}
theorem bE.addr(c:bE h a e cs):a=⟨a.block,0,none⟩:=by
 obtain⟨b,o,s⟩:=a;have:=c.off;have:=c.spot
 simp_all
theorem bE.ai(b:bE h a e cs)(d:ax p h h')(c:p a.block):bE h' a e cs:=⟨b.off,b.spot,d.block c b.blk⟩
theorem bE.lt(b:bE h a e cs):a.block<h.size:=lt_of_block b.blk
theorem bE.cell(b:bE h a e cs){j:Nat}{v:Value}(c:cs[j]?=some v):cellOf h (a.add j)=some v:=by
 rw[b.addr,add_eq,kK b.blk];simpa using c
theorem bE.cell0(c:bE h a e cs){v:Value}(b:cs[0]?=some v):cellOf h a=some v:=c.cell (j:=0) b
theorem bE.cells(d:bE h a e cs)(j:Nat)(vs:List Value)(c:(cs.drop j).take vs.length=vs):ap h (a.add j) 0 vs:=by
 rw[d.addr,add_eq,zo];have b:vs.length<=(cs.drop j).length:=by
  have:=congrArg List.length c;rw[qx]at this;omega
 rcases Nat.lt_or_ge cs.length j with hj|hj
 ·rw[qG]at b;have:vs=[]:=qP (by omega);subst this;trivial
 ·refine jW (e:=e) (fr:=(0,0)) (pre:=cs.take j) (post:=(cs.drop j).drop vs.length) ?_ (by simp;omega);have:cs.take j++vs++(cs.drop j).drop vs.length=cs:=by
   conv=>lhs;rw[qp];arg 2;arg 1;rw[<-c]
   rw[qw,qw]
  rw[this];exact d.blk
theorem bE.aO(c:bE h a e cs)(vs:List Value)(b:cs.take vs.length=vs):ap h a 0 vs:=c.cells 0 vs b
end
section
variable {C:Ctx} {t:Nat} {i:TI} {h:Heap}
theorem uC(f:C.Ok)(d:C.T.get t=some i){K:Addr->Heap->Prop}(e:∀a h',a.block=h.size->bE h' a t i.zero->ax (fun _=>True) h h'->h'.size=h.size+1->K a h'):
  aJ C.P (qC t true (.tuple #[])) h K:=by
 obtain⟨z,c,b⟩:=jS f.toOk d;unfold aJ qC;refine ab.bind (ab.always c ?_);refine ab.bind (ab.bind (ab.bind (ab.gk (ab.pure' (ab.pure' (ab.pure' ?_))))));refine⟨⟨h.size,0,none⟩,rfl,e _ _ rfl ⟨rfl,rfl,?_⟩ (ax.push _ _ _) (by simp)⟩;rw[<-b];simp
theorem xh{v:Value}{P:Program}{K:Addr->Heap->Prop}(b:∀a h',a.block=h.size->bE h' a t v.cells.toList->ax (fun _=>True) h h'->h'.size=h.size+1->K a h'):
  aJ P (qA t v) h K:=by
 unfold aJ qA;refine ab.bind (ab.bind (ab.bind (ab.gk (ab.pure' (ab.pure' (ab.pure' ?_))))));refine⟨⟨h.size,0,none⟩,rfl,b _ _ rfl ⟨rfl,rfl,?_⟩ (ax.push _ _ _) (by simp)⟩;simp
theorem run_store(m:C.Ok){a:Addr}{e:TypeId}{b:List Value}(c:bE h a e b)(o:C.T.get t=some i)(off:Nat){v:Value}(vs:List Value)(j:v.cells=vs.toArray)(f:i.size=vs.length)
  (d:vs.all (·.oneCell')=true) (g:off+vs.length<=b.length) {K:Unit->Heap->Prop}
  (l:∀h',bE h' a e (b.take off++vs++b.drop (off+vs.length))->ax (·≠a.block) h h'->h'.size=h.size->K () h'):
  ab C.P (qb t (.pointer (some (a.add off))) v) h K:=by
 have n:=c.addr;unfold qb;refine ab.bind (ab.pure' ?_);unfold storeVar;refine ab.bind (ab.always (bj m.toOk o) ?_);rw[j,f];simp only[zq,ne_eq,not_true,if_false];rw[n,add_eq,zo];refine bB (e:=e) (pre:=b.take off) (old:=(b.drop off).take vs.length) (post:=b.drop (off+vs.length)) ?_ ?_ ?_ ?_ ?_
 ·have:b.take off++(b.drop off).take vs.length++b.drop (off+vs.length)=b:=by
   rw[<-wq,qp,qw,qw]
  rw[this];exact c.blk
 ·simp;omega
 ·simp;omega
 ·intro x k;have:=qH.1 d x k;exact this
 ·refine l _ ⟨c.off,c.spot,?_⟩ (ax.cy c.blk (by simp)) (by simp[cy]);rw[cn c.blk,if_pos rfl]
end
section
variable {C:Ctx} {t e k:Nat} {z:List Value} {by_:Nat} {α:Type} {h:Heap} {p:am} {s v:Sl} {f:α->List Value} {l l2:List α}
theorem mb{b:α}(a:f b=z):∀n,cC z n=(qd n b).flatMap f
 |0=>rfl
 |n+1=>by rw[cC,List.replicate_succ,qF,a,mb a n]
theorem wrap_small(x:Int)(c:-9223372036854775808<=x)(b:x<=9223372036854775807):qa wO x=x:=by
 show(if(true&&decide (x%2^64>=2^63))=true then x%2^64-2^64 else x%2^64)=x;by_cases a:x%2^64>=2^63
 ·rw[if_pos (by rw[wa];exact decide_eq_true a)];omega
 ·rw[if_neg (by rw[wa];exact fun h=>a (of_decide_eq_true h))];omega
theorem run_make(y:C.Ok)(l:bk C.tokp t e k z by_)(u:0<by_/\by_<=128)(w:α)(A:f w=z)(d:z.length=k){L M:IntKind}{n c:Int}(m b:Nat)(H:n=m)(J:c=b)(r:m<=b)(q:b<=2^32)
  {K:Sl->Heap->Prop} (I:∀j h',Own h' e j k f (qd m w)->j.ptr=some ⟨h.size,0,none⟩->j.cap=b->ax (fun _=>True) h h'->h'.size=h.size+1->K j h'):
  ar C.P (wc t (.int L n) (.int M c)) (.one (.sc .slc)) h K:=by
 subst H;subst J;obtain⟨p,B,x2,x3,F,G,D⟩:=l.info y;unfold ar wc;refine ab.bind (ab.always (aq (l.under y)) ?_);refine ab.bind (ab.pure' ?_);refine ab.bind (ab.pure' ?_);refine ab.bind (ab.always (bc B) ?_);have N:qa wO (m:Int)=m:=wrap_small _ (by omega) (by omega);have E:qa wO (b:Int)=b:=wrap_small _ (by omega) (by omega);have O:¬((p.bytes:Int)*(b:Int)>2^48):=by
  rw[x3];have:by_*b<=128*2^32:=wo u.2 q;have:((by_:Int)*(b:Int))<=((128*2^32:Nat):Int):=by exact_mod_cast this
  omega
 simp only[N,E];rw[if_neg (by simp;omega)];refine ab.bind (ab.nv ?_);refine ab.bind (ab.always (l.size y) ?_);have s:aj C.P (zeroValue e) F:=(bc B).bind (by rw[G];exact .pure);have fin:∀g:Array Value,(b*k≠0->g=z.toArray)->ab C.P (do
   let a<-newRow e ((wF (b*k)).map (g[·%g.size]!))
   pure (Value.slice (some a) m b)) h (fun v h'=>∃x:(Rt.one (.sc .slc)).den,v=(Rt.one (.sc .slc)).enc x/\K x h'):=by
  intro g o;have i:((wF (b*k)).map (g[·%g.size]!))=(cC z b).toArray:=by
   by_cases h0:b*k=0
   ·rw[h0];have:cC z b=[]:=qP (by rw[fm,d,h0]);rw[this];simp
   ·rw[o h0];exact rI z b _ (by rw[d])
  rw[i];refine ab.bind (ab.bind (ab.gk (ab.pure' (ab.pure' ?_))));refine⟨⟨some ⟨h.size,0,none⟩,m,b⟩,rfl,I _ _ ⟨by simp,.inr ⟨h.size,cC z (b-m),rfl,?_,?_,r⟩⟩ rfl rfl (ax.push _ _ _) (by simp)⟩
  ·have:cC z b=(qd m w).flatMap f++cC z (b-m):=by
    rw[mb A,mb A,<-qy,List.replicate_append_replicate];congr 2;omega
   rw[this];simp
  ·rw[fm,d]
 simp only[qm];by_cases h0:b*k=0
 ·rw[if_pos h0];exact ab.bind (ab.pure' (fin _ (fun h=>absurd h0 h)))
 ·rw[if_neg h0];refine ab.bind (ab.always s ?_);exact ab.bind (ab.pure' (fin _ (fun _=>D)))
theorem tq(r:C.Ok)(m:bk C.tokp t e k z by_)(j:z.length=k){n:Nat}{b:Array (Nat×Value)}(l:List α)(A:l.length=n)(D:n*k<=2^20)
  (c:zD (fun i=>some (i*k,k)) (cC z n).toArray b.toList=some (l.flatMap f).toArray) {K:Sl->Heap->Prop}
  (B:∀p h',Own h' e p k f l->p.ptr=some ⟨h.size,0,none⟩->ax (fun _=>True) h h'->h'.size=h.size+1->K p h'):
  ar C.P (qg t n b) (.one (.sc .slc)) h K:=by
 obtain⟨u,E,x2,x3,w,y,s⟩:=m.info r;unfold ar qg;refine ab.bind (ab.always (aq (m.under r)) ?_);refine ab.bind (ab.always (m.size r) ?_);rw[if_neg (by omega)];have q:aj C.P (zeroValue e) w:=(bc E).bind (by rw[y];exact .pure);have fin:∀d:Array Value,(n*k≠0->d=z.toArray)->ab C.P (do
   let some cells:=zD (fun i=>some (i*k,k)) ((wF (n*k)).map (d[·%d.size]!)) b.toList
    |stuck "buildSlice: a part of the wrong size"
   pure (Value.slice (some (<-newRow e cells)) n n)) h (fun v h'=>∃x:(Rt.one (.sc .slc)).den,v=(Rt.one (.sc .slc)).enc x/\K x h'):=by
  intro d o;have g:((wF (n*k)).map (d[·%d.size]!))=(cC z n).toArray:=by
   by_cases h0:n*k=0
   ·rw[h0];have:cC z n=[]:=qP (by rw[fm,j,h0]);rw[this];simp
   ·rw[o h0];exact rI z n _ (by rw[j])
  rw[g,c];refine ab.bind (ab.bind (ab.gk (ab.pure' (ab.pure' ?_))));refine⟨⟨some ⟨h.size,0,none⟩,n,n⟩,rfl,B _ _ ⟨A.symm,.inr ⟨h.size,[],rfl,by simp,by simp,qM _⟩⟩ rfl (ax.push _ _ _) (by simp)⟩
 by_cases h0:n*k=0
 ·rw[if_pos h0];exact ab.bind (ab.pure' (fin _ (fun h=>absurd h0 h)))
 ·rw[if_neg h0];refine ab.bind (ab.always q ?_);exact ab.bind (ab.pure' (fin _ (fun _=>s)))
theorem Own.set{i:TI}(F:C.Ok)(q:Own h e s k f l)(p:∀x,(f x).length=k)(G:C.T.get t=some i){x:Int}(n:Nat)(B:x=n)(r:n<l.length){m:Value}(y:α)(A:m.cells=(f y).toArray)(v:i.size=k)
  (j:(f y).all (·.oneCell')=true) {K:Heap->Prop} (D:∀h',Own h' e s k f (l.set n y)->ax (fun b=>¬s.on b) h h'->h'.size=h.size->K h'):
  ∃a:Addr,(s.ptr=some a/\0<=x/\x<((s.len:Nat):Int))/\ab C.P (qb t (.pointer (some (a.add (x.toNat*k)))) m) h fun _ h'=>K h':=by
 subst B;rcases q.head with⟨_,_,h3⟩|⟨b,rest,h1,h2,h3,h4⟩
 ·subst h3;simp at r
 ·refine⟨_,⟨h1,by omega,by rw[q.len];omega⟩,?_⟩;unfold qb;refine ab.bind (ab.pure' ?_);unfold storeVar;refine ab.bind (ab.always (bj F.toOk G) ?_);rw[A,v];have u:=p y;simp only[zq,u,ne_eq,not_true,if_false];rw[add_eq,zo,qm];have d:l=l.take n++l[n]::l.drop (n+1):=by rw[<-qY r,qw]
  have g:l.set n y=l.take n++y::l.drop (n+1):=zI.trans (if_pos r);have o:((l.take n).flatMap f).length=n*k:=by rw[bN p,qx,zu (by omega)]
  refine bB (e:=e) (pre:=(l.take n).flatMap f) (old:=f l[n]) (post:=(l.drop (n+1)).flatMap f++rest) ?_ ?_ ?_ ?_ ?_
  ·have:l.flatMap f++rest=(l.take n).flatMap f++f l[n]++((l.drop (n+1)).flatMap f++rest):=by
    have w:=congrArg (List.flatMap f) d;rw[qy,qF]at w;rw[w];simp
   rw[<-this];exact h2
  ·rw[p,p]
  ·rw[o];omega
  ·intro c E;have:=qH.1 j c E;exact this
  ·refine D _ ⟨by rw[q8];exact q.len,.inr ⟨b,rest,h1,?_,h3,h4⟩⟩ (ax.cy h2 (fun z=>z ⟨0,h1⟩)) (by simp[cy]);rw[cn h2,if_pos rfl,g];simp
end
def grow(c:Nat->Nat)(n i:Nat):Nat->Nat:=fun b=>if b<n then c b else i
theorem bY{c:Nat->Nat}{n i b:Nat}(h:b<n):grow c n i b=c b:=if_pos h
theorem nB{c:Nat->Nat}{n i b:Nat}(h:n<=b):grow c n i b=i:=if_neg (by omega)
structure cO {α:Type} (h:Heap) (c:Nat->Nat) (i:Nat) (e:TypeId) (s:Sl) (k:Nat) (f:α->List Value) (l:List α):Prop where
 own:Own h e s k f l
 ew:∀b,s.on b->c b=i
structure kL (h:Heap) (c:Nat->Nat) (i:Nat) (a:Addr) (e:TypeId) (cs:List Value):Prop where
 box:bE h a e cs
 ew:c a.block=i
structure nC (h0 h:Heap) (c:Nat->Nat):Prop where
 ai:ax (fun b=>b<h0.size) h0 h
 ew:∀b,b<h0.size->c b=0
section
variable {α:Type} {h h' h0:Heap} {c:Nat->Nat} {i j n m:Nat} {e:TypeId} {s:Sl} {k:Nat} {f:α->List Value} {l:List α} {a:Addr} {cs:List Value}
theorem cO.keep(d:cO h c j e s k f l)(n:ax (fun b=>c b≠i) h h')(g:j≠i):cO h' (grow c h.size m) j e s k f l:=
 ⟨d.own.ai n fun b a=>by rw[d.ew b a];exact g,fun b a=>by rw[bY (d.own.lt a)];exact d.ew b a⟩
theorem kL.keep(d:kL h c j a e cs)(g:ax (fun b=>c b≠i) h h')(f:j≠i):kL h' (grow c h.size m) j a e cs:=
 ⟨d.box.ai g (by rw[d.ew];exact f),by rw[bY d.box.lt];exact d.ew⟩
theorem nC.keep(d:nC h0 h c)(f:ax (fun b=>c b≠i) h h')(e:i≠0):nC h0 h' (grow c h.size m):=
 ⟨d.ai.then f fun b a _=>by rw[d.ew b a];exact e.symm,fun b a=>by rw[bY (qv a d.ai.1)];exact d.ew b a⟩
theorem nC.refl(h:Heap):nC h h (fun _=>0):=⟨ax.refl _ _,fun _ _=>rfl⟩
theorem cO.seq(a:cO h c j e s k f l)(d:∀x,(f x).length=k):Seq h (fun b=>c b=j) s k f l:=a.own.seq d a.ew
theorem cO.nil(h:Heap)(c:Nat->Nat)(i:Nat)(e:TypeId)(k:Nat)(f:α->List Value):cO h c i e ⟨none,0,0⟩ k f []:=⟨Own.nil h e k f,fun b a=>by obtain⟨o,d⟩:=a;cases d⟩
def rJ(h:Heap)(c:Nat->Nat)(i:Nat)(s:Sl)(k:Nat)(f:α->List Value)(l:List α):Prop:=Seq h (fun b=>b<h.size/\c b=i) s k f l
theorem rJ.keep(g:rJ h c j s k f l)(e:ax (fun b=>c b≠i) h h')(d:j≠i):rJ h' (grow c h.size m) j s k f l:=
 (Seq.ai g (e.mono fun b _ a=>by rw[a.2];exact d)).mono fun b a=>⟨qv a.1 e.1,by rw[bY a.1];exact a.2⟩
theorem rJ.new(d:Seq h' (fun b=>h.size<=b/\b<h'.size) s k f l):rJ h' (grow c h.size i) i s k f l:=
 Seq.mono d fun b a=>⟨a.2,nB a.1⟩
theorem cO.fresh(d:cO h c i e s k f l)(n:nC h0 h c)(j:i≠0)(m:∀x,(f x).length=k):Seq h (fun b=>h0.size<=b/\b<h.size) s k f l:=
 d.own.seq m fun b a=>⟨Nat.le_of_not_lt fun g=>j (by rw[<-d.ew b a,n.ew b g]),d.own.lt a⟩
theorem ax.ew(a:ax (fun _=>True) h h')(c:Nat->Nat)(i:Nat):ax (fun b=>c b≠i) h h':=a.mono fun _ _ _=>trivial
end
section
variable {α:Type} {C:Ctx} {h h' h0:Heap} {c:Nat->Nat} {i:Nat} {e t t2:Nat} {s v:Sl} {k by_:Nat} {f:α->List Value} {l l2:List α} {a:Addr} {cs z:List Value} {p:am} {ti:TI}
theorem kL.store(n:C.Ok)(g:kL h c i a e cs)(o:C.T.get t=some ti)(off:Nat){v:Value}(vs:List Value)(l:v.cells=vs.toArray)(k:ti.size=vs.length)
  (f:vs.all (·.oneCell')=true) (d:off+vs.length<=cs.length) {K:Unit->Heap->Prop}
  (m:∀h',kL h' (grow c h.size i) i a e (cs.take off++vs++cs.drop (off+vs.length))->ax (fun b=>c b≠i) h h'->K () h'):
  ab C.P (qb t (.pointer (some (a.add off))) v) h K:=
 run_store n g.box o off vs l k f d fun h' x y z=>m h' ⟨x,by rw[bY g.box.lt];exact g.ew⟩ (y.mono fun b _ j p=>j (by rw[p];exact g.ew))
theorem kL.md(m:C.Ok)(l:kL h c i a e cs)(j:C.T.get t=some ti){v:Value}(vs:List Value)(k:v.cells=vs.toArray)(f:ti.size=vs.length)
  (d:vs.all (·.oneCell')=true) (g:vs.length<=cs.length) {K:Unit->Heap->Prop}
  (n:∀h',kL h' (grow c h.size i) i a e (vs++cs.drop vs.length)->ax (fun b=>c b≠i) h h'->K () h'):
  ab C.P (qb t (.pointer (some a)) v) h K:=
 l.store m j 0 vs k f d (by omega) (fun h' x y=>n h' (by simpa using x) y)
theorem cO.append(D:C.Ok)(d:cO h c i e s k f l)(q:bk C.tokp t e k z by_)(m:∃i e2,C.T.get t2=some i/\i.bi=.slice e2)(E:z.length=k)(j:0<by_/\by_<=128)(B:∀x,(f x).length=k)
  (u:Seq h p v k f l2) (a:∀x,∀c∈f x,c.oneCell'=true) (n:l.length+l2.length<=2^32) {r:Nat} {K:Sl->Heap->Prop}
  (A:∀g h',cO h' (grow c h.size i) i e g k f (l++l2)->ax (fun b=>c b≠i) h h'->K g h'):
  ar C.P (qh #[t,t2] r #[.slice s.ptr s.len s.cap,.slice v.ptr v.len v.cap]) (.one (.sc .slc)) h K:=
 tQ D q m E j B d.own u a n fun g h' x y w=>A g h' ⟨x,fun b F=>by
  rcases w b F with w|w
  ·rw[bY (d.own.lt w)];exact d.ew b w
  ·exact nB w⟩ (y.mono fun b _ o m=>o (d.ew b m))
theorem cO.set(B:C.Ok)(j:cO h c i e s k f l)(A:∀x,(f x).length=k)(D:C.T.get t=some ti){x:Int}(n:Nat)(u:x=n)(r:n<l.length){g:Value}(y:α)(q:g.cells=(f y).toArray)(m:ti.size=k)
  (d:(f y).all (·.oneCell')=true) {K:Heap->Prop} (v:∀h',cO h' (grow c h.size i) i e s k f (l.set n y)->ax (fun b=>c b≠i) h h'->K h'):
  ∃a:Addr,(s.ptr=some a/\0<=x/\x<((s.len:Nat):Int))/\ab C.P (qb t (.pointer (some (a.add (x.toNat*k)))) g) h fun _ h'=>K h':=
 j.own.set B A D n u r y q m d fun h' z w _=>v h' ⟨z,fun b p=>by rw[bY (j.own.lt p)];exact j.ew b p⟩ (w.mono fun b _ o E=>o (j.ew b E))
end
section
variable {α:Type} {C:Ctx} {h h' h0:Heap} {c:Nat->Nat} {i j n m:Nat} {e t:Nat} {s v:Sl} {k by_:Nat} {f:α->List Value} {l l2:List α} {z:List Value} {p:am}
theorem grow_grow{c:Nat->Nat}{n m i:Nat}(h:n<=m):grow (grow c n i) m i=grow c n i:=by
 funext b;unfold grow;split
 ·rfl
 ·rw[if_neg (by omega)]
theorem ax.step(a:ax (fun b=>c b≠i) h h'){d:Heap}(b:ax (fun b=>grow c h.size i b≠i) h' d):ax (fun b=>c b≠i) h d:=
 a.then b fun x e f=>by rw[bY e];exact f
theorem cO.push(G:C.Ok)(r:cO h c i e s k f l)(q:bk C.tokp t e k z by_)(H:z.length=k)(y:0<by_/\by_<=128)(F:∀x,(f x).length=k)
  (m:∀x,∀c∈f x,c.oneCell'=true) (x:α) {a:Array (Nat×Value)} (d:zD (fun i=>some (i*k,k)) (cC z 1).toArray a.toList=some ([x].flatMap f).toArray)
  (w:1*k<=2^20) (B:l.length+1<=2^32) {J:Nat} {K:Sl->Heap->Prop}
  (M:∀o h',cO h' (grow c h.size i) i e o k f (l++[x])->ax (fun b=>c b≠i) h h'->K o h'):
  ar C.P (qg t 1 a) (.one (.sc .slc)) h fun v j=>ar C.P (qh #[t,t] J #[.slice s.ptr s.len s.cap,.slice v.ptr v.len v.cap]) (.one (.sc .slc)) j K:=by
 refine tq G q H [x] rfl w d fun v j L R u _=>?_;have A:ax (fun b=>c b≠i) h j:=u.ew c i;have D:cO j (grow c h.size i) i e s k f l:=⟨r.own.ai u fun _ _=>trivial,fun b I=>by rw[bY (r.own.lt I)];exact r.ew b I⟩
 have g:h.size<=j.size:=u.1;obtain⟨N,S,O,x2,_⟩:=q.ex;refine D.append G q ⟨N,e,O,x2⟩ H y F (L.seq (p:=fun _=>True) F fun _ _=>trivial) m B fun o Q n E=>?_;rw[grow_grow g]at n;exact M o Q n (A.step E)
structure gM (h:Heap) (c:Nat->Nat) (top lo:Nat) (e:TypeId) (s:Sl) (k:Nat) (f:α->List Value) (ll:List (List α)) (rs:List Sl):Prop where
 own:cO h c top e s 1 dU rs
 len:rs.length=ll.length
 row:∀(i:Nat) r l,rs[i]?=some r->ll[i]?=some l->Seq h (fun b=>b<h.size/\lo<=c b/\c b<lo+ll.length) r k f l
theorem gM.keep{n:List (List α)}{rs:List Sl}{a g:Nat}(j:gM h c a g e s k f n rs)(o:ax (fun b=>c b≠i) h h')(u:a≠i)(v:i<g∨g+n.length<=i):gM h' (grow c h.size m) a g e s k f n rs:=
 ⟨j.own.keep o u,j.len,fun t r l p q=>((j.row t r l p q).ai (o.mono fun b _ d=>by rintro rfl;omega)).mono fun b d=>⟨qv d.1 o.1,by rw[bY d.1];exact d.2⟩⟩
theorem gM.nil(h:Heap)(c:Nat->Nat)(a b:Nat)(e:TypeId)(k:Nat)(f:α->List Value):gM h c a b e ⟨none,0,0⟩ k f [] []:=
 ⟨cO.nil _ _ _ _ _ _,rfl,fun i r l h=>by simp at h⟩
theorem uD:∀x,∀c∈dU x,c.oneCell'=true:=by intro x c a;simp only[dU,qz]at a;subst a;rfl
theorem gM.push{j:List (List α)}{rs:List Sl}{a g:Nat}{r:Sl}{x:List α}(O:C.Ok)(p:gM h c a g e s k f j rs)(F:bk C.tokp t e 1 [.slice none 0 0] 24)
  (J:Seq h (fun b=>b<h.size/\c b=g+j.length) r k f x) (E:a<g) (A:j.length+1<=2^32) {H:Nat} {K:Sl->Heap->Prop}
  (M:∀w h',gM h' (grow c h.size a) a g e w k f (j++[x]) (rs++[r])->ax (fun b=>c b≠a) h h'->K w h'):
  ar C.P (qg t 1 #[(0,.slice r.ptr r.len r.cap)]) (.one (.sc .slc)) h fun v o=>ar C.P (qh #[t,t] H #[.slice s.ptr s.len s.cap,.slice v.ptr v.len v.cap]) (.one (.sc .slc)) o K:=by
 refine p.own.push O F rfl (by decide) (fun _=>rfl) uD r rfl (by decide) (by rw[p.len];exact A) fun w h' y n=>M w h' ⟨y,by simp[p.len],fun i G N o u=>?_⟩ n;have d:∀{q:am} {B:Sl} {l:List α},Seq h q B k f l->(∀b,q b->b<h.size/\g<=c b/\c b<g+(j++[x]).length)->Seq h' (fun b=>b<h'.size/\g<=grow c h.size a b/\grow c h.size a b<g+(j++[x]).length) B k f l:=fun I D=>
  (I.ai (n.mono fun b _ m=>by have:=D b m;omega)).mono fun b m=>by
   have:=D b m;rw[bY this.1];exact⟨qv this.1 n.1,this.2⟩
 have L:=p.len;by_cases Q:i<j.length
 ·rw[qk (by omega)]at o u;exact d (p.row i G N o u) fun b m=>⟨m.1,m.2.1,by simp;omega⟩
 ·have z:i=j.length:=by
   have:=(qn.1 u).1;simp at this;omega
  subst z;simp at u;rw[<-L]at o;simp at o;subst o;subst u;exact d J fun b m=>⟨m.1,by omega,by simp;omega⟩
theorem gM.fresh{j:List (List α)}{rs:List Sl}{a n:Nat}(d:gM h c a n e s k f j rs)(m:nC h0 h c)(t:a≠0)(o:n≠0):eQ h (fun b=>h0.size<=b/\b<h.size) s k f j rs:=
 ⟨d.own.fresh m t fun _=>rfl,d.len,fun i r l u q=>(d.row i r l u q).mono fun b p=>⟨Nat.le_of_not_lt fun g=>by have:=m.ew b g;omega,p.1⟩⟩
theorem Own.xy{i:TI}(L:C.Ok)(w:Own h e s k f l)(A:∀x,(f x).length=k)(M:C.T.get t=some i){x:Int}(n v:Nat)(G:x=n)(F:l.length<=n)(q:n<s.cap)(r:v=s.cap){m:Value}(y:α)(E:m.cells=(f y).toArray)(u:i.size=k)
  (j:(f y).all (·.oneCell')=true) {K:Heap->Prop} (H:∀h',Own h' e s k f l->ax (fun b=>¬s.on b) h h'->h'.size=h.size->K h'):
  ∃a:Addr,(s.ptr=some a/\0<=x/\x<((v:Nat):Int))/\ab C.P (qb t (.pointer (some (a.add (x.toNat*k)))) m) h fun _ h'=>K h':=by
 subst G r;rcases w.head with⟨_,h2,h3⟩|⟨b,rest,h1,h2,h3,h4⟩
 ·omega
 ·refine⟨_,⟨h1,by omega,by omega⟩,?_⟩;unfold qb;refine ab.bind (ab.pure' ?_);unfold storeVar;refine ab.bind (ab.always (bj L.toOk M) ?_);rw[E,u];have g:=A y;simp only[zq,g,ne_eq,not_true,if_false];rw[add_eq,zo,qm];have d:=w.len;have o:=bN A l;have B:l.length*k<=n*k:=qR k F;have p:(n+1)*k<=s.cap*k:=qR k q;have z:(s.cap-s.len)*k=s.cap*k-l.length*k:=by rw[Nat.sub_mul,d]
  have J:(n+1)*k=n*k+k:=zS n k;refine bB (e:=e) (pre:=l.flatMap f++rest.take (n*k-l.length*k)) (old:=(rest.drop (n*k-l.length*k)).take k) (post:=rest.drop (n*k-l.length*k+k)) ?_ ?_ ?_ ?_ ?_
  ·have:l.flatMap f++rest=l.flatMap f++rest.take (n*k-l.length*k)++(rest.drop (n*k-l.length*k)).take k++rest.drop (n*k-l.length*k+k):=by
    rw[qp,qp,<-wq,qw,qw]
   rw[<-this];exact h2
  ·rw[g,qx,qG];omega
  ·rw[qu,qx,o];omega
  ·intro c I;have:=qH.1 j c I;exact this
  ·refine H _ ⟨d,.inr ⟨b,rest.take (n*k-l.length*k)++f y++rest.drop (n*k-l.length*k+k),h1,?_,?_,h4⟩⟩ (ax.cy h2 (fun D=>D ⟨0,h1⟩)) (by simp[cy])
   ·rw[cn h2,if_pos rfl];simp
   ·simp only[qu,qx,qG,g];omega
theorem Own.copy(w:C.Ok)(o:bk C.tokp t e k z by_)(n:∀x,(f x).length=k)(q:Own h e s k f l)(r:Seq h p v k f l2)(a:l2.length=l.length)(i:∀x,∀c∈f x,c.oneCell'=true){D y:Nat}{K:Int->Heap->Prop}
  (u:∀h',Own h' e s k f l2->ax (fun b=>¬s.on b) h h'->h'.size=h.size->K l2.length h'):
  ar C.P (zd #[t,D] y #[.slice s.ptr s.len s.cap,.slice v.ptr v.len v.cap]) (.one (.sc (.int .i64))) h K:=by
 unfold ar zd;simp only[q6,zr,qe];refine ab.bind (ab.always (aq (o.under w)) ?_);refine ab.bind (ab.pure' ?_);refine ab.bind (ab.always (o.size w) ?_);have d:=q.len;have g:=r.len;have j:Nat.min v.len s.len=v.len:=zu (by omega);rw[j];refine ab.bind (cu n r ?_);rcases q.head with⟨h1,h2,h3⟩|⟨b,rest,h1,h2,h3,h4⟩
 ·rw[h1];have:l2=[]:=qP (by rw[a,h3];rfl);subst this;refine ab.pure' ⟨0,by simp[goInt,g],u h ⟨by rw[d,h3],.inl ⟨h1,h2,rfl⟩⟩ (ax.refl _ _) rfl⟩
 ·rw[h1];refine ab.bind ?_;refine bB (e:=e) (pre:=[]) (old:=l.flatMap f) (post:=rest) (by simpa using h2) (by rw[bN n,bN n,a]) rfl ?_ ?_
  ·intro c B;obtain⟨x,_,m⟩:=zB.1 B;exact i x c m
  ·refine ab.pure' ⟨_,by rw[goInt,g],u _ ⟨by rw[d,a],.inr ⟨b,rest,h1,?_,h3,h4⟩⟩ (ax.cy h2 (fun A=>A ⟨0,h1⟩)) (by simp[cy])⟩;rw[cn h2,if_pos rfl];simp
end
def rj{α:Type}(x:Int)(v:α):List (Int×α)->List (Int×α)
 |[]=>[(x,v)]
 |(k,u)::t=>if k=x then(k,v)::t else(k,u)::rj x v t
def kM{α:Type}(x:Int):List (Int×α)->Option α
 |[]=>none
 |(k,u)::t=>if k=x then some u else kM x t
structure kN {α:Type} (h:Heap) (r:Nat) (g:α->Value) (kvs:List (Int×α)):Prop where
 ex:∃es clock,h[r]?=some (.map es clock)/\es.toList.map (fun e=>(e.key,e.val))=kvs.map (fun p=>(Value.int .i64 p.1,g p.2))
section
variable {α:Type} {P:Program} {h h':Heap} {r:Nat} {g:α->Value} {kvs:List (Int×α)}
theorem kN.ai{p:am}(f:kN h r g kvs)(c:ax p h h')(b:p r):kN h' r g kvs:=by
 obtain⟨d,a,i,e⟩:=f.ex;exact⟨d,a,c.block b i,e⟩
theorem kN.lt(b:kN h r g kvs):r<h.size:=by
 obtain⟨d,a,c,e⟩:=b.ex;exact lt_of_block c
theorem me{x:Int}:∀{L:List MapEntry} {kvs:List (Int×α)} {n:Nat},L.map (fun e=>(e.key,e.val))=kvs.map (fun p=>(Value.int .i64 p.1,g p.2))->kM x kvs=none->
  wB (.int .i64) (wI wO x) L n=some none
 |[],_,_,_,_=>rfl
 |e::L,[],_,h,_=>by simp at h
 |e::L,(k,u)::t,n,h,hg=>by
  simp only[zO,List.cons.injEq,Prod.mk.injEq]at h;obtain⟨⟨b,d⟩,c⟩:=h;unfold kM at hg;split at hg
  ·cases hg
  ·rename_i a;have:(x==k)=false:=by simp;exact fun e=>a e.symm
   simp only[wB,Instr.sameNow,b,if_true,this];exact me c hg
theorem mf{x:Int}{u:α}(v:α)(f:MapEntry->MapEntry)(c:∀e,e.key=Value.int .i64 x->((f e).key,(f e).val)=(Value.int .i64 x,g v)):∀{L:List MapEntry} {kvs:List (Int×α)} {n:Nat},L.map (fun e=>(e.key,e.val))=kvs.map (fun p=>(Value.int .i64 p.1,g p.2))->kM x kvs=some u->
  ∃j e,wB (.int .i64) (wI wO x) L n=some (some (n+j,g u))/\L[j]?=some e/\e.key=wI wO x/\(L.modify j f).map (fun e=>(e.key,e.val))=(rj x v kvs).map (fun p=>(Value.int .i64 p.1,g p.2))
 |[],[],_,_,hg=>by cases hg
 |e::L,[],_,h,_=>by simp at h
 |[],_::_,_,h,_=>by simp at h
 |e::L,(k,w)::t,n,h,hg=>by
  simp only[zO,List.cons.injEq,Prod.mk.injEq]at h;obtain⟨⟨a,i⟩,d⟩:=h;unfold kM at hg;by_cases b:k=x
  ·subst b;rw[if_pos rfl]at hg;cases hg;refine⟨0,e,?_,rfl,a,?_⟩
   ·simp only[wB,Instr.sameNow,a,if_true,beq_self_eq_true,i,wm]
   ·simp only[rj,if_true,List.modify_zero_cons,zO,d,c e a]
  ·rw[if_neg b]at hg;obtain⟨j,r,l,m,q,o⟩:=mf v f c (n:=n+1) d hg;refine⟨j+1,r,?_,m,q,?_⟩
   ·have:(x==k)=false:=by simp;exact fun e=>b e.symm
    simp only[wB,Instr.sameNow,a,if_true,this];rw[l];congr 3;omega
   ·simp only[rj,b,if_false,List.modify_succ_cons,zO,o,a,i]
theorem rK{a:TypeId}{k:IntKind}{x:Int}{b:Bool}(c:P.underlying a=some (.int k))(n:Nat):aj P (Instr.checkKey b (n+1) a (.int k x)) ():=by
 unfold Instr.checkKey;exact(aq c).bind .pure
theorem kN.lookup{t k f:Nat}{i:α}{x:Int}(p:kN h r g kvs)(q:P.underlying t=some (.map k f))(b:P.underlying k=some (.int .i64))(s:aj P (zeroValue f) (g i))
  {rt:Rt} {K:rt.den->Heap->Prop} (a:∃d:rt.den,g ((kM x kvs).getD i)=rt.enc d/\K d h):
  ar P (Instr.lookup t (.map (some r)) (wI wO x) false) rt h K:=by
 obtain⟨v,c,o,l⟩:=p.ex;unfold ar Instr.lookup;refine ab.bind (ab.always (aq q) ?_);refine ab.bind (ab.xb o (fun _ _ _ h=>by cases h) ?_);refine ab.bind (ab.pure' ?_);refine ab.bind (ab.always (rK b 9999) ?_);unfold Instr.findKey;refine ab.bind (ab.bind (ab.always (aq b) ?_));cases hg:kM x kvs with
 |none=>
  rw[me l hg];refine ab.pure' ?_;refine ab.bind (ab.always s ?_);refine ab.bind (ab.pure' (ab.pure' ?_));rw[hg]at a;exact a
 |some u=>
  obtain⟨j,e,m,_⟩:=mf (x:=x) (n:=0) u (fun e=>⟨e.key,g u,e.born⟩) (fun e a=>by simp[a]) l hg;rw[m];refine ab.pure' ?_;refine ab.bind (ab.pure' (ab.pure' ?_));rw[hg]at a;exact a
end
theorem vE(x n:Int)(b:0<n):x%n=if x.tmod n<0 then x.tmod n+n else x.tmod n:=by
 have d:=Int.tmod_lt_of_pos x b;have c:-n<x.tmod n:=Int.lt_tmod_of_pos x b;have e:=Int.tmod_add_mul_tdiv x n;have a:0<=(if x.tmod n<0 then x.tmod n+n else x.tmod n)/\(if x.tmod n<0 then x.tmod n+n else x.tmod n)<n:=by split<;>omega
 have e2:x=(if x.tmod n<0 then x.tmod n+n else x.tmod n)+n*(if x.tmod n<0 then x.tdiv n-1 else x.tdiv n):=by
  split
  ·rw[Int.mul_sub];omega
  ·omega
 conv=>lhs;rw[e2]
 rw[Int.add_mul_emod_self_left];exact Int.emod_eq_of_lt a.1 a.2
theorem aD{α:Type}(l:List α)(k:Nat)(h:k<l.length):l.take (k+1)=l.take k++[l[k]]:=List.take_succ_eq_append_getElem h
theorem gq:∀x,∀c∈ay x,c.oneCell'=true:=by intro x c a;simp only[ay,qz]at a;subst a;rfl
theorem cg:∀x,∀c∈aF x,c.oneCell'=true:=by intro x c a;simp only[aF,qz]at a;subst a;rfl
theorem up{h c d:Heap}(a:ax (fun b=>b<h.size) h c)(b:ax (fun b=>b<c.size) c d):ax (fun b=>b<h.size) h d:=
 a.then b fun _ e _=>qv e a.1
theorem any{h c:Heap}(a:ax (fun _=>True) h c):ax (fun b=>b<h.size) h c:=a.mono fun _ _ _=>trivial
theorem Seq.up{α:Type}{h a:Heap}{s:Sl}{k:Nat}{f:α->List Value}{l:List α}(d:Seq h (fun b=>b<h.size) s k f l)(c:ax (fun b=>b<h.size) h a):Seq a (fun b=>b<a.size) s k f l:=
 (d.ai c).mono fun _ e=>qv e c.1
theorem eQ.up{α:Type}{h a:Heap}{s:Sl}{k:Nat}{f:α->List Value}{l:List (List α)}{rs:List Sl}(d:eQ h (fun b=>b<h.size) s k f l rs)(c:ax (fun b=>b<h.size) h a):eQ a (fun b=>b<a.size) s k f l rs:=
 (d.ai c).mono fun _ e=>qv e c.1
theorem Seq.drop{α:Type}{h:Heap}{p:am}{s:Sl}{w:Nat}{f:α->List Value}{l:List α}(c:Seq h p s w f l)(k:Nat)(n:s.len<=s.cap):
  Seq h p ⟨if s.cap=k then s.ptr else s.ptr.map (·.add (k*w)),s.len-k,s.cap-k⟩ w f (l.drop k):=by
 have j:=c.len;refine⟨by simp[j],fun i x a=>?_⟩;rw[List.getElem?_drop]at a;obtain⟨b,o,e,m,g⟩:=c.elem _ x a;have d:=(qn.1 a).1;refine⟨b,o+k*w,?_,m,?_⟩
 ·dsimp only;rw[if_neg (by omega),e,qQ,add_eq]
 ·rw[show o+k*w+i*w=o+(k+i)*w by rw[Nat.add_mul];omega];exact g
theorem Seq.take{α:Type}{h:Heap}{p:am}{s:Sl}{w:Nat}{f:α->List Value}{l:List α}(b:Seq h p s w f l)(k:Nat)(c:k<=l.length):
  Seq h p ⟨s.ptr,k,s.cap⟩ w f (l.take k):=by
 refine⟨by simp;omega,fun i x a=>?_⟩;rw[List.getElem?_take]at a;split at a
 ·exact b.elem i x a
 ·cases a
theorem getD_lt{α:Type}{l:List α}{d:α}{i:Nat}(h:i<l.length):l.getD i d=l[i]:=by rw[qj,qc h];rfl
structure HP where
 p:Heap->am->Prop
 loc:∀{h h':Heap} {q:am},p h q->ax q h h'->p h' q
 mono:∀{h:Heap} {q q':am},p h q->(∀b,q b->q' b)->p h q'
def emp:HP:=⟨fun _ _=>True,fun _ _=>trivial,fun _ _=>trivial⟩
def au{α:Type}(e:TypeId)(s:Sl)(k:Nat)(f:α->List Value)(l:List α):HP:=
 ⟨fun h q=>Own h e s k f l/\∀b,s.on b->q b,fun a c=>⟨a.1.ai c a.2,a.2⟩,fun a g=>⟨a.1,fun b d=>g b (a.2 b d)⟩⟩
def ao(a:Addr)(e:TypeId)(b:List Value):HP:=
 ⟨fun h q=>bE h a e b/\q a.block,fun x c=>⟨x.1.ai c x.2,x.2⟩,fun x d=>⟨x.1,d _ x.2⟩⟩
def rL{α:Type}(s:Sl)(k:Nat)(f:α->List Value)(l:List α):HP:=
 ⟨fun h q=>Seq h q s k f l,fun a b=>a.ai b,fun a c=>a.mono c⟩
structure aa (B:am) (h0 h:Heap) (As:List HP):Prop where
 low:∀b,B b->b<h0.size
 ai:ax B h0 h
 ex:∃c:Nat->Nat,(∀b,B b->c b=0)/\∀(i:Nat) (A:HP),As[i]?=some A->A.p h (fun b=>b<h.size/\c b=i+1)
abbrev Sp(a h:Heap)(As:List HP):Prop:=aa (fun b=>b<a.size) a h As
section
variable {B:am} {h0 h h':Heap} {As Bs:List HP} {A A2 D:HP} {c:Nat->Nat} {i j:Nat}
theorem Sp.refl(h:Heap):Sp h h []:=⟨fun _ h=>h,ax.refl _ _,fun _=>0,fun _ _=>rfl,fun i A a=>by simp at a⟩
theorem aa.le(H:aa B h0 h As):h0.size<=h.size:=H.ai.1
theorem aa.at(H:aa B h0 h As)(i:Nat)(a:As[i]?=some A):A.p h (fun b=>b<h.size):=by
 obtain⟨c,_,e⟩:=H.ex;exact A.mono (e i A a) fun _ d=>d.1
theorem aa.fin(H:aa B h0 h As)(i:Nat)(d:As[i]?=some A):A.p h (fun b=>¬B b/\b<h.size):=by
 obtain⟨c,g,f⟩:=H.ex;exact A.mono (f i A d) fun b e=>⟨fun a=>by have:=g b a;omega,e.1⟩
theorem Sp.fresh(H:Sp h0 h As)(i:Nat)(a:As[i]?=some A):A.p h (fun b=>h0.size<=b/\b<h.size):=
 A.mono (aa.fin H i a) fun b c=>⟨by omega,c.2⟩
theorem aa.comp(H:aa B h0 h As)(R:Sp h h' Bs):aa B h0 h' (As++Bs):=by
 obtain⟨g,k,m,q,l⟩:=H;obtain⟨_,f,j,n,p⟩:=R;have c:=k.1;refine⟨g,k.then f fun b a _=>qv a c,fun b=>if b<h.size then m b else if j b=0 then 0 else As.length+j b,fun b a=>?_,fun i A d=>?_⟩
 ·dsimp only;rw[if_pos (qv (g b a) c)];exact q b a
 ·by_cases o:i<As.length
  ·rw[qk o]at d;refine A.mono (A.loc (l i A d) (f.mono fun b _ a=>a.1)) fun b a=>⟨qv a.1 f.1,?_⟩
   dsimp only;rw[if_pos a.1];exact a.2
  ·rw[qf (by omega)]at d;refine A.mono (p _ A d) fun b a=>⟨a.1,?_⟩
   have:¬b<h.size:=fun e=>by have:=n b e;omega
   dsimp only;rw[if_neg this,if_neg (by omega)];omega
theorem aa.up(H:aa B h0 h As)(R:ax (fun b=>b<h.size) h h'):aa B h0 h' As:=by
 have:=H.comp (Bs:=[]) ⟨fun _ h=>h,R,fun _=>0,fun _ _=>rfl,fun i A a=>by simp at a⟩;simpa using this
theorem Sp.one(R:ax (fun b=>b<h.size) h h')(d:A.p h' (fun b=>h.size<=b/\b<h'.size)):Sp h h' [A]:=by
 refine⟨fun _ h=>h,R,fun b=>if b<h.size then 0 else 1,fun b c=>if_pos c,fun i A2 a=>?_⟩;cases i with
 |succ i=>simp at a
 |zero=>
  simp at a;subst a;exact A.mono d fun b c=>⟨c.2,by dsimp only;rw[if_neg (by omega)]⟩
theorem Sp.zip(R:ax (fun b=>b<h.size) h h'):Sp h h' []:=aa.up (Sp.refl h) R
theorem aa.enter(q:am)(c:Nat->Nat)(f:∀b,q b->b<h.size)(a:∀(i:Nat) (A:HP),As[i]?=some A->A.p h (fun b=>q b/\c b=i+1)):aa (fun b=>b<h.size/\¬q b) h h As:=by
 classical
 refine⟨fun b d=>d.1,ax.refl _ _,fun b=>if q b then c b else 0,fun b d=>if_neg d.2,fun i A e=>A.mono (a i A e) fun b d=>⟨f b d.1,?_⟩⟩;dsimp only;rw[if_pos d.1];exact d.2
theorem aa.rk(l:∀b,B b->b<h0.size)(f:ax B h0 h)(z:∀b,B b->c b=0)(a:∀(i:Nat) (A:HP),As[i]?=some A->A.p h (fun b=>b<h.size/\c b=i+1))
  (k:ax (fun b=>¬(b<h.size/\c b=i+1)) h h') (n:D.p h' (fun b=>b<h'.size/\((b<h.size/\c b=i+1)∨h.size<=b))):aa B h0 h' (As.set i D):=by
 refine⟨l,f.then k fun b _ d m=>by have:=z b d;omega,grow c h.size (i+1),fun b d=>?_,fun j A e=>?_⟩
 ·rw[bY (qv (l b d) f.1)];exact z b d
 ·rw[qN]at e;split at e
  ·rename_i g;subst g;split at e
   ·injection e with e
    subst e;refine D.mono n fun b d=>⟨d.1,?_⟩
    rcases d.2 with h1|h1
    ·rw[bY h1.1];exact h1.2
    ·exact nB h1
   ·cases e
  ·rename_i g;refine A.mono (A.loc (a j A e) (k.mono fun b _ d m=>by omega)) fun b d=>⟨qv d.1 k.1,?_⟩
   rw[bY d.1];exact d.2
theorem aa.step(H:aa B h0 h As)(i:Nat)(d:As[i]?=some A)(e:∀q:am,A.p h q->(∀b,q b->b<h.size)->ax (fun b=>¬q b) h h'/\D.p h' (fun b=>b<h'.size/\(q b∨h.size<=b))):aa B h0 h' (As.set i D):=by
 obtain⟨g,p,c,z,a⟩:=H;obtain⟨k,j⟩:=e _ (a i A d) fun b f=>f.1;exact aa.rk g p z a k j
theorem aa.io(H:aa B h0 h As)(i:Nat)(d:As[i]?=some A)(e:∀q:am,A.p h q->D.p h q):aa B h0 h (As.set i D):=
 H.step i d fun q f a=>⟨ax.refl _ _,D.mono (e q f) fun b c=>⟨a b c,.inl c⟩⟩
theorem aa.merge(H:aa B h0 h As)(i j:Nat)(u:i≠j)(t:As[i]?=some A)(s:As[j]?=some A2)
  (q:∀m l:am,(∀b,m b->¬l b)->A.p h m->A2.p h l->D.p h (fun b=>m b∨l b)):aa B h0 h ((As.set i D).set j emp):=by
 obtain⟨o,p,c,z,a⟩:=H;refine⟨o,p,fun b=>if c b=j+1 then i+1 else c b,fun b f=>?_,fun k n d=>?_⟩
 ·have:=z b f;dsimp only;rw[if_neg (by omega)];exact this
 ·rw[qN]at d;split at d
  ·split at d
   ·cases d;trivial
   ·cases d
  ·rename_i r;rw[qN]at d;split at d
   ·rename_i g;subst g;split at d
    ·injection d with d
     subst d;refine D.mono (q _ _ (fun b e v=>by omega) (a i A t) (a j A2 s)) fun b f=>?_;rcases f with e|e
     ·exact⟨e.1,by dsimp only;rw[if_neg (by omega)];exact e.2⟩
     ·exact⟨e.1,by dsimp only;rw[if_pos e.2]⟩
    ·cases d
   ·rename_i g;refine n.mono (a k n d) fun b f=>⟨f.1,?_⟩
    dsimp only;rw[if_neg (by omega)];exact f.2
theorem aa.pick(H:aa B h0 h As)(f:Nat->Nat)(l:∀i j,f i=f j->i=j)(k:∀(i:Nat) (A2:HP),Bs[i]?=some A2->As[f i]?=some A2):aa B h0 h Bs:=by
 obtain⟨m,p,c,z,a⟩:=H
 classical
 refine⟨m,p,fun b=>if e:∃i,c b=f i+1 then e.choose+1 else 0,fun b e=>?_,fun i A2 g=>?_⟩
 ·have:=z b e;dsimp only;rw[dif_neg];rintro⟨i,g⟩;omega
 ·refine A2.mono (a _ _ (k i A2 g)) fun b e=>⟨e.1,?_⟩
  have d:∃i,c b=f i+1:=⟨i,e.2⟩
  dsimp only;rw[dif_pos d];have o:=d.choose_spec;have n:=l d.choose i (by omega);rw[n]
theorem aa.take(H:aa B h0 h As)(n:Nat)(a:∀(i:Nat) (A2:HP),Bs[i]?=some A2->As[n+i]?=some A2):aa B h0 h Bs:=H.pick (fun i=>n+i) (fun _ _ h=>by omega) a
end
section
variable {B:am} {α:Type} {C:Ctx} {h0 h h':Heap} {As:List HP} {i e t t2:Nat} {s v:Sl} {k by_:Nat} {f:α->List Value} {l l2:List α} {a:Addr} {cs z:List Value} {p:am} {ti:TI}
theorem aa.own(H:aa B h0 h As)(i:Nat)(a:As[i]?=some (au e s k f l)):Own h e s k f l:=(H.at i a).1
theorem aa.seq(H:aa B h0 h As)(i:Nat)(a:As[i]?=some (au e s k f l))(c:∀x,(f x).length=k):Seq h (fun b=>b<h.size) s k f l:=(H.at i a).1.seq c (H.at i a).2
theorem aa.rd(H:aa B h0 h As)(i:Nat)(a:As[i]?=some (rL s k f l)):Seq h (fun b=>b<h.size) s k f l:=H.at i a
theorem aa.box(H:aa B h0 h As)(i:Nat)(b:As[i]?=some (ao a e cs)):bE h a e cs:=(H.at i b).1
theorem aa.gr(H:aa B h0 h As)(i:Nat)(q:As[i]?=some (au e s k f l)){β:Type}{p o:Nat}{g:β->List Value}{n:List β}(m:ax (fun b=>¬s.on b) h h')(r:Own h' p s o g n):aa B h0 h' (As.set i (au p s o g n)):=
 H.step i q fun _ d c=>⟨m.mono fun b _ a j=>a (d.2 b j),r,fun b a=>⟨qv (c b (d.2 b a)) m.1,.inl (d.2 b a)⟩⟩
theorem aa.xi(H:aa B h0 h As)(i:Nat)(k:As[i]?=some (ao a e cs)){c:List Value}(j:ax (fun b=>b≠a.block) h h')(m:bE h' a e c):aa B h0 h' (As.set i (ao a e c)):=
 H.step i k fun q f d=>⟨j.mono fun b _ l g=>l (by rw[g];exact f.2),m,⟨qv (d _ f.2) j.1,.inl f.2⟩⟩
theorem aa.freeze(H:aa B h0 h As)(i:Nat)(b:As[i]?=some (au e s k f l))(c:∀x,(f x).length=k):aa B h0 h (As.set i (rL s k f l)):=H.io i b fun _ a=>a.1.seq c a.2
theorem aa.set(u:C.Ok)(H:aa B h0 h As)(i:Nat)(g:As[i]?=some (au e s k f l))(q:∀x,(f x).length=k)(r:C.T.get t=some ti){x:Int}(n:Nat)(o:x=n)(m:n<l.length){c:Value}(y:α)(j:c.cells=(f y).toArray)(d:ti.size=k)
  (b:(f y).all (·.oneCell')=true) {K:Heap->Prop} (p:∀h',aa B h0 h' (As.set i (au e s k f (l.set n y)))->K h'):
  ∃a:Addr,(s.ptr=some a/\0<=x/\x<((s.len:Nat):Int))/\ab C.P (qb t (.pointer (some (a.add (x.toNat*k)))) c) h fun _ h'=>K h':=
 (H.own i g).set u q r n o m y j d b fun h' z w _=>p h' (H.gr i g w z)
theorem aa.push(N:C.Ok)(H:aa B h0 h As)(i:Nat)(Q:As[i]?=some (au e s k f l))(A:bk C.tokp t e k z by_)(O:z.length=k)(u:0<by_/\by_<=128)(M:∀x,(f x).length=k)
  (o:∀x,∀c∈f x,c.oneCell'=true) (x:α) {d:Array (Nat×Value)} (g:zD (fun i=>some (i*k,k)) (cC z 1).toArray d.toList=some ([x].flatMap f).toArray)
  (r:1*k<=2^20) (w:l.length+1<=2^32) {E:Nat} {K:Sl->Heap->Prop}
  (J:∀p h',aa B h0 h' (As.set i (au e p k f (l++[x])))->K p h'):
  ar C.P (qg t 1 d) (.one (.sc .slc)) h fun v I=>ar C.P (qh #[t,t] E #[.slice s.ptr s.len s.cap,.slice v.ptr v.len v.cap]) (.one (.sc .slc)) I K:=by
 obtain⟨G,R,c,S,a⟩:=H;have y:=a i _ Q;have D:cO h c (i+1) e s k f l:=⟨y.1,fun b m=>(y.2 b m).2⟩
 refine D.push N A O u M o x g r w fun p h' j q=>J p h' ?_;refine aa.rk G R S a (q.mono fun b m F L=>F ⟨m,L⟩) ⟨j.own,fun b m=>⟨j.own.lt m,?_⟩⟩;have:=j.ew b m;by_cases n:b<h.size
 ·rw[bY n]at this;exact .inl ⟨n,this⟩
 ·exact .inr (by omega)
theorem aa.append(L:C.Ok)(H:aa B h0 h As)(i:Nat)(N:As[i]?=some (au e s k f l))(w:bk C.tokp t e k z by_)(Q:∃i e2,C.T.get t2=some i/\i.bi=.slice e2)(M:z.length=k)(q:0<by_/\by_<=128)(J:∀x,(f x).length=k)
  (D:Seq h p v k f l2) (m:∀x,∀c∈f x,c.oneCell'=true) (r:l.length+l2.length<=2^32) {A:Nat} {K:Sl->Heap->Prop}
  (G:∀n h',aa B h0 h' (As.set i (au e n k f (l++l2)))->K n h'):
  ar C.P (qh #[t,t2] A #[.slice s.ptr s.len s.cap,.slice v.ptr v.len v.cap]) (.one (.sc .slc)) h K:=by
 obtain⟨F,O,c,R,a⟩:=H;have u:=a i _ N;have y:cO h c (i+1) e s k f l:=⟨u.1,fun b g=>(u.2 b g).2⟩
 refine y.append L w Q M q J D m r fun n h' d o=>G n h' ?_;refine aa.rk F O R a (o.mono fun b g E I=>E ⟨g,I⟩) ⟨d.own,fun b g=>⟨d.own.lt g,?_⟩⟩;have:=d.ew b g;by_cases j:b<h.size
 ·rw[bY j]at this;exact .inl ⟨j,this⟩
 ·exact .inr (by omega)
theorem tr{h c:Heap}{n:Nat}(j:n=h.size)(g:Own c e s k f l)(i:s.ptr=some ⟨n,0,none⟩)(d:ax (fun _=>True) h c):Sp h c [au e s k f l]:=
 .one (any d) ⟨g,fun b a=>⟨by obtain⟨o,a⟩:=a;rw[i]at a;cases a;omega,g.lt a⟩⟩
theorem aa.make(v:C.Ok)(H:aa B h0 h As)(f:α->List Value)(o:bk C.tokp t e k z by_)(g:0<by_/\by_<=128)(i:α)(A:f i=z)(j:z.length=k){s u:IntKind}{n l:Int}(m b:Nat)(p:n=m)(r:l=b)(d:m<=b)(c:b<=2^32)
  {K:Sl->Heap->Prop} (q:∀a h',a.len=m->a.cap=b->aa B h0 h' (As++[au e a k f (qd m i)])->K a h'):
  ar C.P (wc t (.int s n) (.int u l)) (.one (.sc .slc)) h K:=
 run_make v o g i A j m b p r d c fun a h' x y w D _=>q a h' (by rw[x.len];simp) w (H.comp (tr rfl x y D))
theorem aa.lit(p:C.Ok)(H:aa B h0 h As)(f:α->List Value)(j:bk C.tokp t e k z by_)(d:z.length=k){n:Nat}{a:Array (Nat×Value)}(l:List α)(m:l.length=n)(g:n*k<=2^20)
  (b:zD (fun i=>some (i*k,k)) (cC z n).toArray a.toList=some (l.flatMap f).toArray) {K:Sl->Heap->Prop}
  (o:∀c h',aa B h0 h' (As++[au e c k f l])->K c h'):
  ar C.P (qg t n a) (.one (.sc .slc)) h K:=
 tq p j d l m g b fun c h' x y q _=>o c h' (H.comp (tr rfl x y q))
theorem tt{h b:Heap}(f:a.block=h.size)(d:bE b a e cs)(c:ax (fun _=>True) h b):Sp h b [ao a e cs]:=
 .one (any c) ⟨d,by omega,d.lt⟩
theorem aa.alloc(d:C.Ok)(H:aa B h0 h As)(b:C.T.get t=some ti){K:Addr->Heap->Prop}(e:∀a h',aa B h0 h' (As++[ao a t ti.zero])->K a h'):
  aJ C.P (qC t true (.tuple #[])) h K:=
 uC d b fun a h' x y c _=>e a h' (H.comp (tt x y c))
theorem aa.boxed(H:aa B h0 h As){P:Program}{v:Value}{K:Addr->Heap->Prop}(c:∀a h',aa B h0 h' (As++[ao a t v.cells.toList])->K a h'):
  aJ P (qA t v) h K:=
 xh fun a h' x y b _=>c a h' (H.comp (tt x y b))
theorem aa.store(k:C.Ok)(H:aa B h0 h As)(i:Nat)(f:As[i]?=some (ao a e cs))(j:C.T.get t=some ti)(off:Nat){v:Value}(vs:List Value)(g:v.cells=vs.toArray)(d:ti.size=vs.length)
  (c:vs.all (·.oneCell')=true) (b:off+vs.length<=cs.length) {K:Unit->Heap->Prop}
  (l:∀h',aa B h0 h' (As.set i (ao a e (cs.take off++vs++cs.drop (off+vs.length))))->K () h'):
  ab C.P (qb t (.pointer (some (a.add off))) v) h K:=
 run_store k (H.box i f) j off vs g d c b fun h' x y _=>l h' (H.xi i f y x)
theorem aa.md(k:C.Ok)(H:aa B h0 h As)(i:Nat)(f:As[i]?=some (ao a e cs))(j:C.T.get t=some ti){v:Value}(vs:List Value)(g:v.cells=vs.toArray)(c:ti.size=vs.length)
  (b:vs.all (·.oneCell')=true) (d:vs.length<=cs.length) {K:Unit->Heap->Prop}
  (l:∀h',aa B h0 h' (As.set i (ao a e (vs++cs.drop vs.length)))->K () h'):
  ab C.P (qb t (.pointer (some a)) v) h K:=
 H.store k i f j 0 vs g c b (by omega) (fun h' x=>l h' (by simpa using x))
theorem aa.copy(n:C.Ok)(H:aa B h0 h As)(i:Nat)(d:As[i]?=some (au e s k f l))(m:bk C.tokp t e k z by_)(g:∀x,(f x).length=k)(j:Seq h p v k f l2)(a:l2.length=l.length)(b:∀x,∀c∈f x,c.oneCell'=true){q:Nat}{K:Int->Heap->Prop}
  (o:∀h',aa B h0 h' (As.set i (au e s k f l2))->K l2.length h'):
  ar C.P (zd #[t,t2] q #[.slice s.ptr s.len s.cap,.slice v.ptr v.len v.cap]) (.one (.sc (.int .i64))) h K:=
 (H.own i d).copy n m g j a b fun h' x y _=>o h' (H.gr i d y x)
theorem aa.xy(D:C.Ok)(H:aa B h0 h As)(i:Nat)(o:As[i]?=some (au e s k f l))(v:∀x,(f x).length=k)(A:C.T.get t=some ti){x:Int}(n d:Nat)(r:x=n)(q:l.length<=n)(g:n<s.cap)(j:d=s.cap){c:Value}(y:α)(p:c.cells=(f y).toArray)(m:ti.size=k)
  (b:(f y).all (·.oneCell')=true) {K:Heap->Prop} (u:∀h',aa B h0 h' (As.set i (au e s k f l))->K h'):
  ∃a:Addr,(s.ptr=some a/\0<=x/\x<((d:Nat):Int))/\ab C.P (qb t (.pointer (some (a.add (x.toNat*k)))) c) h fun _ h'=>K h':=
 (H.own i o).xy D v A n d r q g j y p m b fun h' z w _=>u h' (H.gr i o w z)
theorem aa.nil(H:aa B h0 h As)(e k:Nat)(f:α->List Value):aa B h0 h (As++[au e ⟨none,0,0⟩ k f []]):=
 H.comp (.one (ax.refl _ _) ⟨Own.nil h e k f,fun b a=>by obtain⟨o,a⟩:=a;cases a⟩)
end
section
variable {C:Ctx} {t:Nat} {i:TI} {h:Heap}
theorem fF(h:C.Ok)(o:C.T.get t=some i){l:List (Nat×TypeId)}(g:i.bi=.struct l){c:List (Nat×Nat)}(e:placesOf C.T l=some c){vs:List (Nat×Value)}{cells:Array Value}
  (a:zD (fun n=>c[n]?) i.zero.toArray vs=some cells):aj C.P (zy t vs.toArray) (.agg cells):=by
 obtain⟨z,r,k⟩:=jS h.toOk o;have b:i.zero.toArray=z.cells:=by rw[<-k]
 have m:=h.bi o;rw[g]at m;obtain⟨p,q,rfl⟩:=fD m;refine r.bind ((aq q).bind ?_);have j:aj C.P (p.mapM fun f=>(do pure (f.offset,<-sizeOf f.type):Sem (Nat×Nat))) c.toArray:=by
  rw[z6];intro w;have:=eR h.toOk e w;rw[map_eq_pure_bind,Sem.run_bind,this];rfl
 refine j.bind ?_;have d:zD (fun n=>c.toArray[n]?) z.cells vs.toArray.toList=some cells:=by
  rw[<-b];simpa using a
 rw[d];exact .pure
end
theorem take_set{α:Type}(l:List α)(n:Nat)(x:α)(h:n<l.length):l.take n++[x]++l.drop (n+1)=l.set n x:=by
 rw[zI,if_pos h];simp
section
variable {B:am} {C:Ctx} {h0 h h':Heap} {As:List HP} {e t:Nat} {a:Addr} {cs:List Value} {ti:TI}
theorem aa.storeAt(k:C.Ok)(H:aa B h0 h As)(i:Nat)(f:As[i]?=some (ao a e cs))(j:C.T.get t=some ti){off:Nat}{v:Value}(g:v.cells=#[v])(d:ti.size=1)
  (c:v.oneCell'=true) (b:off<cs.length) {K:Unit->Heap->Prop}
  (l:∀h',aa B h0 h' (As.set i (ao a e (cs.set off v)))->K () h'):
  ab C.P (qb t (.pointer (some (a.add off))) v) h K:=
 H.store k i f j off [v] g d (by simp[c]) (by simp;omega) fun h' x=>l h' (by rw[<-take_set _ _ _ b];simpa using x)
theorem aa.storeAll(k:C.Ok)(H:aa B h0 h As)(i:Nat)(f:As[i]?=some (ao a e cs))(j:C.T.get t=some ti){v:Value}(vs:List Value)(g:v.cells=vs.toArray)(c:ti.size=vs.length)
  (b:vs.all (·.oneCell')=true) (d:vs.length=cs.length) {K:Unit->Heap->Prop}
  (l:∀h',aa B h0 h' (As.set i (ao a e vs))->K () h'):
  ab C.P (qb t (.pointer (some a)) v) h K:=
 H.md k i f j vs g c b (by omega) fun h' x=>l h' (by rw[q9 (by omega),qU]at x;exact x)
end
abbrev Rd{α:Type}(h:Heap)(s:Sl)(k:Nat)(f:α->List Value)(l:List α):Prop:=Seq h (fun b=>b<h.size) s k f l
abbrev eT{α:Type}(h:Heap)(s:Sl)(k:Nat)(f:α->List Value)(a:List (List α)):Prop:=∃rs,eQ h (fun b=>b<h.size) s k f a rs
section
variable {α:Type} {B:am} {h0 h h':Heap} {As:List HP} {s:Sl} {k e:Nat} {f:α->List Value} {l:List α} {ll:List (List α)}
theorem eT.up(a:eT h s k f ll)(c:ax (fun b=>b<h.size) h h'):eT h' s k f ll:=by
 obtain⟨rs,a⟩:=a;exact⟨rs,eQ.up a c⟩
theorem eT.len(a:eT h s k f ll):s.len=ll.length:=by obtain⟨rs,a⟩:=a;exact a.yi
theorem eT.get(b:eT h s k f ll){i:Int}(n:Nat)(d:i=n)(e:n<ll.length){K:Sl->Prop}(g:∀r,Rd h r k f ll[n]->K r):
  ∃a:Addr,(s.ptr=some a/\0<=i/\i<((s.len:Nat):Int))/\∃x:Sl,cellOf h (a.add (i.toNat*1))=some (.slice x.ptr x.len x.cap)/\K x:=by
 obtain⟨rs,b⟩:=b;exact b.get n d e fun r c _=>g r c
theorem Seq.isSome{p:am}(a:Seq h p s k f l)(d:l≠[]):s.ptr.isNone=false:=by
 cases l with
 |nil=>exact absurd rfl d
 |cons x t=>obtain⟨b,o,c,_⟩:=a.elem 0 x (by simp);rw[c];rfl
theorem Seq.isNil{p:am}(b:Seq h p s k f l)(a:s.ptr.isNone=true):l=[]:=by
 cases l with
 |nil=>rfl
 |cons x t=>rw[b.isSome (by simp)]at a;cases a
end
section
variable {B:am} {h0 h h':Heap} {As Bs:List HP} {A D:HP}
theorem aa.del(H:aa B h0 h As)(i:Nat):aa B h0 h (As.eraseIdx i):=
 H.pick (fun j=>if j<i then j else j+1) (fun a b d=>by split at d<;>split at d<;>omega) fun j A e=>by
  rw[List.getElem?_eraseIdx]at e;split at e
  ·rename_i c;rw[if_pos c];exact e
  ·rename_i c;rw[if_neg c];exact e
theorem aa.call(H:aa B h0 h As)(i:Nat)(F:As[i]?=some A)(q:am)(J:∀x:am,A.p h x->∀b,q b->x b)(R:aa (fun b=>b<h.size/\¬q b) h h' (D::Bs)):aa B h0 h' (As.set i D++Bs):=by
 classical
 obtain⟨v,E,g,I,u⟩:=H;obtain⟨_,t,j,L,y⟩:=R;have s:=E.1;have z:=(qn.1 F).1;have l:∀b,q b->b<h.size/\g b=i+1:=J _ (u i A F);have G:∀b,B b->b<h.size/\¬q b:=fun b a=>⟨qv (v b a) s,fun m=>by have:=I b a;have:=l b m;omega⟩
 let c:Nat->Nat:=fun b=>if b<h.size/\¬q b then(if g b=i+1 then 0 else g b)else if j b=0 then 0 else if j b=1 then i+1 else As.length+j b-1
 have f:∀b,b<h.size/\¬q b->g b≠i+1->c b=g b:=fun b a K=>by show ite _ _ _=_;rw[if_pos a,if_neg K]
 have e:∀b,j b≠0->c b=if j b=1 then i+1 else As.length+j b-1:=fun b a=>by
  have:¬(b<h.size/\¬q b):=fun m=>a (L b m);show ite _ _ _=_;rw[if_neg this,if_neg a]
 refine⟨v,E.then t fun b _ a=>G b a,c,fun b a=>?_,fun k n d=>?_⟩
 ·have:=I b a;rw[f b (G b a) (by omega)];exact this
 ·by_cases w:k<As.length
  ·rw[qk (by simpa using w),qN]at d;split at d
   ·rename_i o;subst o;injection d with d
    subst d;refine D.mono (y 0 D rfl) fun b a=>⟨a.1,?_⟩
    rw[e b (by omega),if_pos a.2]
   ·rename_i o;have r:∀b,b<h.size/\g b=k+1->b<h.size/\¬q b:=fun b a=>⟨a.1,fun m=>by have:=l b m;omega⟩
    refine n.mono (n.loc (u k n d) (t.mono fun b _ a=>r b a)) fun b a=>⟨qv a.1 t.1,?_⟩
    rw[f b (r b a) (by omega)];exact a.2
  ·rw[qf (by simpa using w)]at d;rw[q8]at d;have M:=y (k-As.length+1) n (by simpa using d);refine n.mono M fun b a=>⟨a.1,?_⟩
   rw[e b (by omega),if_neg (by omega)];omega
end
section
variable {B:am} {α:Type} {h0 h h':Heap} {As Bs:List HP} {A D:HP} {e k:Nat} {s:Sl} {f:α->List Value} {l:List α}
theorem aa.off(H:aa B h0 h As)(i j:Nat)(o:i≠j)(g:As[i]?=some (au e s k f l))(m:As[j]?=some A):A.p h (fun b=>b<h.size/\¬s.on b):=by
 obtain⟨_,_,c,_,a⟩:=H;refine A.mono (a j A m) fun b n=>⟨n.1,fun d=>?_⟩
 have:=(a i _ g).2 b d;omega
theorem aa.base(H:aa B h0 h As)(i:Nat)(g:As[i]?=some (au e s k f l)){b:Nat}(j:B b):¬s.on b:=fun d=>by
 obtain⟨_,_,c,z,a⟩:=H;have:=(a i _ g).2 b d;have:=z b j;omega
theorem aa.xS(H:aa B h0 h As)(i j:Nat){o:HP}(m:As[i]?=some A)(n:As[j]?=some o):aa B h0 h ((As.set i o).set j A):=by
 have g:=(qn.1 m).1;have l:=(qn.1 n).1;refine H.pick (fun x=>if x=j then i else if x=i then j else x) (fun a b c=>by split at c<;>split at c<;>(try split at c)<;>(try split at c)<;>omega) fun x p d=>?_;rw[qN,qN]at d;by_cases e:j=x
 ·subst e;simp[l]at d;subst d;simpa using m
 ·by_cases k:i=x
  ·subst k;simp[e,g]at d;subst d;rw[if_neg (fun f=>e f.symm),if_pos rfl];exact n
  ·simp[e,k]at d;rw[if_neg (fun f=>e f.symm),if_neg (fun f=>k f.symm)];exact d
end
def cM{α:Type}(e k:Nat)(f:α->List Value)(rs:List Sl)(a:List (List α)):List HP:=List.zipWith (fun r l=>au e r k f l) rs a
section
variable {α:Type} {e k:Nat} {f:α->List Value} {rs:List Sl} {ll:List (List α)}
theorem nc(h:rs.length=ll.length)(i:Nat)(a:i<ll.length):(cM e k f rs ll)[i]?=some (au e (rs[i]'(by omega)) k f ll[i]):=by
 have b:i<rs.length:=by omega
 simp[cM,zG,qc a,qc b]
theorem rM(h:rs.length=ll.length)(r:Sl)(l:List α):cM e k f (rs++[r]) (ll++[l])=cM e k f rs ll++[au e r k f l]:=by
 unfold cM;rw[List.zipWith_append h];rfl
theorem aa.yn{B:am}{n h:Heap}{s:Sl}{a:Nat}(H:aa B n h (au a s 1 dU rs::cM e k f rs ll))(g:rs.length=ll.length)(m:∀x,(f x).length=k):eT h s k f ll:=by
 refine⟨rs,H.seq 0 rfl (fun _=>rfl),g,fun i r l c b=>?_⟩;have j:i<ll.length:=(qn.1 b).1;have o:=nc (e:=e) (k:=k) (f:=f) g i j;have d:=H.seq (i+1) (by simpa using o) m;have a:rs[i]'(by omega)=r:=by rw[qc (by omega)]at c;simpa using c
 have e2:ll[i]=l:=by rw[qc j]at b;simpa using b
 rw[a,e2]at d;exact d
end
section
variable {α:Type} {h:Heap} {p:am} {s:Sl} {f:α->List Value} {l:List α}
theorem Seq.wl{X:Type}{g:X->Value}(c:Seq h p s 1 f l){i:Int}(n:Nat)(t:i=n)(k:n<l.length)(x:X)(q:f l[n]=[g x]){K:Addr->X->Prop}(r:∀a:Addr,cellOf h (a.add (i.toNat*1))=some (g x)->K a x):
  ∃a:Addr,(s.ptr=some a/\0<=i/\i<((s.len:Nat):Int))/\∃x:X,cellOf h (a.add (i.toNat*1))=some (g x)/\K a x:=by
 subst t;obtain⟨b,o,m,_,e⟩:=c.elem n l[n] (qc k);rw[q]at e;have j:=e.1;rw[add_eq,wm]at j;have d:cellOf h ((⟨b,o,none⟩:Addr).add ((n:Int).toNat*1))=some (g x):=by rw[add_eq];simpa using j
 exact⟨_,⟨m,by omega,by rw[c.len];omega⟩,x,d,r _ d⟩
end
theorem Seq.yj{h:Heap}{p:am}{s:Sl}{rs:List Sl}(c:Seq h p s 1 dU rs){i:Int}(n:Nat)(l:i=n)(f:n<rs.length){K:Addr->Sl->Prop}
  (k:∀a:Addr,cellOf h (a.add (i.toNat*1))=some (.slice rs[n].ptr rs[n].len rs[n].cap)->p (a.add (i.toNat*1)).block->K a rs[n]):
  ∃a:Addr,(s.ptr=some a/\0<=i/\i<((s.len:Nat):Int))/\∃x:Sl,cellOf h (a.add (i.toNat*1))=some (.slice x.ptr x.len x.cap)/\K a x:=by
 subst l;obtain⟨b,o,g,m,j⟩:=c.elem n rs[n] (qc f);have e:=j.1;rw[add_eq,wm]at e;have d:cellOf h ((⟨b,o,none⟩:Addr).add ((n:Int).toNat*1))=some (.slice rs[n].ptr rs[n].len rs[n].cap):=by rw[add_eq];simpa using e
 exact⟨_,⟨g,by omega,by rw[c.len];omega⟩,rs[n],d,k _ d (by rw[add_eq];exact m)⟩
section
variable {B:am} {α:Type} {h0 h:Heap} {As:List HP} {e k:Nat} {s:Sl} {f:α->List Value} {l:List α}
theorem Own.cut(a:Own h e s k f l)(c:∀x,(f x).length=k)(j:Nat)(g:j<=l.length):Own h e ⟨s.ptr,j,s.cap⟩ k f (l.take j):=by
 have d:=a.len;refine⟨by simp;omega,?_⟩;rcases a.head with⟨h1,h2,h3⟩|⟨b,rest,h1,h2,h3,h4⟩
 ·subst h3;exact .inl ⟨h1,h2,by simp⟩
 ·refine .inr ⟨b,(l.drop j).flatMap f++rest,h1,?_,?_,by dsimp only;omega⟩
  ·rw[<-qp,<-qy,qw];exact h2
  ·rw[qu,bN c,qG,h3,<-Nat.add_mul];dsimp only;congr 1;omega
theorem aa.cut(H:aa B h0 h As)(i:Nat)(b:As[i]?=some (au e s k f l))(c:∀x,(f x).length=k)(j:Nat)(d:j<=l.length):aa B h0 h (As.set i (au e ⟨s.ptr,j,s.cap⟩ k f (l.take j))):=
 H.io i b fun _ a=>⟨a.1.cut c j d,a.2⟩
end
section
variable {B:am} {α:Type} {C:Ctx} {h0 h:Heap} {As:List HP} {e t k:Nat} {s:Sl} {f:α->List Value} {l:List α} {ti:TI}
theorem Own.rN(E:C.Ok)(q:Own h e s k f l)(r:∀x,(f x).length=k)(F:C.T.get t=some ti){x:Int}{p:Nat}(A:x=l.length)(u:l.length<s.cap)(n:p=s.cap){j:Value}(y:α)(z:j.cells=(f y).toArray)(o:ti.size=k)
  (g:(f y).all (·.oneCell')=true) {K:Heap->Prop} (B:∀h',Own h' e ⟨s.ptr,l.length+1,s.cap⟩ k f (l++[y])->ax (fun b=>¬s.on b) h h'->K h'):
  ∃a:Addr,(s.ptr=some a/\0<=x/\x<((p:Nat):Int))/\ab C.P (qb t (.pointer (some (a.add (x.toNat*k)))) j) h fun _ h'=>K h':=by
 subst A n;have d:=q.len;rcases q.head with⟨_,h2,h3⟩|⟨b,rest,h1,h2,h3,h4⟩
 ·omega
 ·refine⟨_,⟨h1,by omega,by omega⟩,?_⟩;unfold qb;refine ab.bind (ab.pure' ?_);unfold storeVar;refine ab.bind (ab.always (bj E.toOk F) ?_);rw[z,o];have i:=r y;simp only[zq,i,ne_eq,not_true,if_false];rw[add_eq,zo,qm];have m:=bN r l;have v:k<=rest.length:=by
   rw[h3,d];have:=qR k (show 1<=s.cap-l.length by omega);omega
  refine bB (e:=e) (pre:=l.flatMap f) (old:=rest.take k) (post:=rest.drop k) ?_ ?_ ?_ ?_ ?_
  ·rw[qp,qw];exact h2
  ·rw[i,qx];omega
  ·rw[m];omega
  ·intro c D;exact qH.1 g c D
  ·refine B _ ⟨by simp,.inr ⟨b,rest.drop k,h1,?_,?_,by dsimp only;omega⟩⟩ (ax.cy h2 (fun w=>w ⟨0,h1⟩))
   ·rw[cn h2,if_pos rfl];simp
   ·rw[qG,h3,d];dsimp only;rw[Nat.sub_add_eq,Nat.sub_mul (s.cap-l.length) 1 k,Nat.one_mul]
theorem aa.rN(G:C.Ok)(H:aa B h0 h As)(i:Nat)(u:As[i]?=some (au e s k f l))(E:∀x,(f x).length=k)(F:C.T.get t=some ti){x:Int}{r:Nat}(A:x=l.length)(g:l.length<s.cap)(p:r=s.cap){d:Value}(y:α)(v:d.cells=(f y).toArray)(q:ti.size=k)
  (c:(f y).all (·.oneCell')=true) {K:Heap->Prop} (D:∀h',aa B h0 h' (As.set i (au e ⟨s.ptr,l.length+1,s.cap⟩ k f (l++[y])))->K h'):
  ∃a:Addr,(s.ptr=some a/\0<=x/\x<((r:Nat):Int))/\ab C.P (qb t (.pointer (some (a.add (x.toNat*k)))) d) h fun _ h'=>K h':=
 (H.own i u).rN G E F A g p y v q c fun h' z w=>D h' (H.step i u fun _ n m=>⟨w.mono fun b _ j o=>j (n.2 b o),z,fun b j=>⟨qv (m b (n.2 b j)) w.1,.inl (n.2 b j)⟩⟩)
end
section
variable {C:Ctx} {t t2 ty e k:Nat} {z:List Value} {by_:Nat} {α:Type} {h h0:Heap} {p B:am} {s v:Sl} {f:α->List Value} {l l2:List α} {As:List HP}
theorem Own.rO(F:C.Ok)(D:bk C.tokp t e k z by_)(w:∀x,(f x).length=k)(o:Own h e s k f l)(E:Seq h p v k f l2)(g:∀x,∀c∈f x,c.oneCell'=true){K:Int->Heap->Prop}
  (u:∀n h',Own h' e s k f (l2.take l.length++l.drop l2.length)->ax (fun b=>¬s.on b) h h'->K n h'):
  ar C.P (zd #[t,t2] ty #[.slice s.ptr s.len s.cap,.slice v.ptr v.len v.cap]) (.one (.sc (.int .i64))) h K:=by
 unfold ar zd;simp only[q6,zr,qe];refine ab.bind (ab.always (aq (D.under F)) ?_);refine ab.bind (ab.pure' ?_);refine ab.bind (ab.always (D.size F) ?_);have a:=o.len;have d:=E.len;obtain⟨m,i⟩:∃m,m=Nat.min v.len s.len:=⟨_,rfl⟩
 rw[<-i];have A:m<=l2.length:=by rw[i,<-d];exact Nat.min_le_left _ _
 have B:m<=l.length:=by rw[i,<-a];exact Nat.min_le_right _ _
 have I:m=min l2.length l.length:=by rw[i,a,d]
 have r:=E.take m A;have J:l2.take l.length++l.drop l2.length=l2.take m++l.drop m:=by
  rcases Nat.le_total l2.length l.length with hh|hh
  ·rw[qi hh,show m=l2.length by omega,qK]
  ·rw[show m=l.length by omega,q9 hh,List.drop_length]
 rw[J]at u;have j:zn k m (.slice v.ptr v.len v.cap)=zn k m (.slice v.ptr m v.cap):=by cases v.ptr<;>rfl
 rw[j];refine ab.bind (cu (v:=⟨v.ptr,m,v.cap⟩) w r ?_);rcases o.head with⟨h1,h2,h3⟩|⟨b,rest,h1,h2,h3,h4⟩
 ·rw[h1];subst h3;have:m=0:=by simpa using B
  subst this;refine ab.pure' ⟨_,rfl,u _ h ?_ (ax.refl _ _)⟩;simpa using o
 ·rw[h1];refine ab.bind ?_;have y:l.flatMap f++rest=(l.take m).flatMap f++((l.drop m).flatMap f++rest):=by
   rw[<-qp,<-qy,qw]
  rw[y]at h2;refine bB (e:=e) (pre:=[]) (old:=(l.take m).flatMap f) (post:=(l.drop m).flatMap f++rest) (by simpa using h2) (by rw[bN w,bN w,qx,qx];congr 1;omega) rfl ?_ ?_
  ·intro c H;obtain⟨x,_,q⟩:=zB.1 H;exact g x c q
  ·refine ab.pure' ⟨_,rfl,u _ _ ⟨by rw[a,qu,qx,qG];omega,.inr ⟨b,rest,h1,?_,h3,h4⟩⟩ (ax.cy h2 (fun G=>G ⟨0,h1⟩))⟩;rw[cn h2,if_pos rfl,qy];simp
theorem aa.rO(m:C.Ok)(H:aa B h0 h As)(i:Nat)(b:As[i]?=some (au e s k f l))(j:bk C.tokp t e k z by_)(d:∀x,(f x).length=k)(g:Seq h p v k f l2)(a:∀x,∀c∈f x,c.oneCell'=true){K:Int->Heap->Prop}
  (o:∀n h',aa B h0 h' (As.set i (au e s k f (l2.take l.length++l.drop l2.length)))->K n h'):
  ar C.P (zd #[t,t2] ty #[.slice s.ptr s.len s.cap,.slice v.ptr v.len v.cap]) (.one (.sc (.int .i64))) h K:=
 (H.own i b).rO m j d g a fun n h' x y=>o n h' (H.gr i b y x)
end
def HP.sep(A D:HP):HP:=
 ⟨fun h q=>∃i f:am,(∀b,i b->¬f b)/\(∀b,i b->q b)/\(∀b,f b->q b)/\A.p h i/\D.p h f,
  fun⟨i,f,a,b,c,d,e⟩ hp=>⟨i,f,a,b,c,A.loc d (hp.mono fun x _ g=>b x g),D.loc e (hp.mono fun x _ g=>c x g)⟩,
  fun⟨i,f,a,b,c,d,e⟩ hq=>⟨i,f,a,fun x g=>hq x (b x g),fun x g=>hq x (c x g),d,e⟩⟩
def HP.ex{ι:Type}(F:ι->HP):HP:=⟨fun h q=>∃i,(F i).p h q,fun⟨i,a⟩ hp=>⟨i,(F i).loc a hp⟩,fun⟨i,a⟩ hq=>⟨i,(F i).mono a hq⟩⟩
def HP.pure(P:Prop):HP:=⟨fun _ _=>P,fun a _=>a,fun a _=>a⟩
def HP.and(A:HP)(P:Prop):HP:=⟨fun h q=>A.p h q/\P,fun a b=>⟨A.loc a.1 b,a.2⟩,fun a c=>⟨A.mono a.1 c,a.2⟩⟩
section
variable {B:am} {h0 h h':Heap} {As Bs:List HP} {A D E:HP} {i j:Nat}
theorem aa.split(H:aa B h0 h As)(i:Nat)(o:As[i]?=some (A.sep D)):aa B h0 h (As.set i A++[D]):=by
 classical
 obtain⟨t,p,c,z,a⟩:=H;obtain⟨x,u,s,n,k,q,w⟩:=a i _ o;have r:=(qn.1 o).1;refine⟨t,p,fun b=>if u b then As.length+1 else c b,fun b e=>?_,fun j X d=>?_⟩
 ·have v:=z b e;dsimp only;rw[if_neg];exact v;intro m;have:=(k b m).2;omega
 ·by_cases l:j<As.length
  ·rw[qk (by simpa using l),qN]at d;split at d
   ·rename_i f;subst f
    first|rw[if_pos l]at d|skip
    injection d with d
    subst d;refine A.mono q fun b e=>⟨(n b e).1,?_⟩
    dsimp only;rw[if_neg (s b e)];exact(n b e).2
   ·rename_i f;refine X.mono (a j X d) fun b e=>⟨e.1,?_⟩
    dsimp only;rw[if_neg];exact e.2;intro m;have:=(k b m).2;omega
  ·rw[qf (by simpa using l)]at d;rw[q8]at d;have g:j=As.length:=by
    have:=(qn.1 d).1;simp at this;omega
   subst g;simp at d;subst d;refine D.mono w fun b e=>⟨(k b e).1,?_⟩
   dsimp only;rw[if_pos e]
theorem aa.join(H:aa B h0 h As)(i j:Nat)(b:i≠j)(c:As[i]?=some A)(e:As[j]?=some D):aa B h0 h ((As.set i (A.sep D)).set j emp):=
 H.merge i j b c e fun k g f d l=>⟨k,g,f,fun _ a=>.inl a,fun _ a=>.inr a,d,l⟩
theorem aa.xT{ι:Type}{F:ι->HP}(H:aa B h0 h As)(i:Nat)(e:As[i]?=some (HP.ex F)):∃x,aa B h0 h (As.set i (F x)):=by
 obtain⟨f,p,c,z,a⟩:=H;obtain⟨x,g⟩:=a i _ e;refine⟨x,f,p,c,z,fun j X b=>?_⟩;rw[qN]at b;split at b
 ·rename_i d;subst d;split at b
  ·injection b with b;subst b;exact g
  ·cases b
 ·exact a j X b
theorem aa.close'{ι:Type}{F:ι->HP}(H:aa B h0 h As)(i:Nat)(x:ι)(b:As[i]?=some (F x)):aa B h0 h (As.set i (HP.ex F)):=H.io i b fun _ a=>⟨x,a⟩
theorem aa.fact{P:Prop}(H:aa B h0 h As)(i:Nat)(a:As[i]?=some (A.and P)):P:=(H.at i a).2
theorem aa.xU{P:Prop}(H:aa B h0 h As)(i:Nat)(b:As[i]?=some (A.and P)):aa B h0 h (As.set i A):=H.io i b fun _ a=>a.1
theorem aa.xV{P:Prop}(H:aa B h0 h As)(i:Nat)(b:As[i]?=some A)(c:P):aa B h0 h (As.set i (A.and P)):=H.io i b fun _ a=>⟨a,c⟩
theorem aa.cons(H:aa B h0 h As)(i:Nat)(g:As[i]?=some A):aa B h0 h (A::As.set i emp):=by
 obtain⟨l,p,c,z,a⟩:=H;have k:=(qn.1 g).1;refine⟨l,p,fun b=>if c b=i+1 then 1 else if c b=0 then 0 else c b+1,fun b e=>?_,fun j X d=>?_⟩
 ·have:=z b e;dsimp only;rw[if_neg (by omega),if_pos this]
 ·cases j with
  |zero=>
   simp at d;subst d;refine A.mono (a i A g) fun b e=>⟨e.1,by dsimp only;rw[if_pos e.2]⟩
  |succ j=>
   rw[qe,qN]at d;split at d
   ·rename_i f;injection d with d;subst d;trivial
   ·rename_i f;refine X.mono (a j X d) fun b e=>⟨e.1,by dsimp only;rw[if_neg (by omega),if_neg (by omega)];omega⟩
theorem aa.rest(H:aa B h0 h (A::As)):aa B h0 h As:=H.pick (fun j=>j+1) (fun a b h=>by omega) fun j X c=>by simpa using c
end
structure iy (α β:Type) where
 p:Heap->am->α->β->Prop
 loc:∀{h h':Heap} {q:am} {a:α} {b:β},p h q a b->ax q h h'->p h' q a b
 mono:∀{h:Heap} {q q':am} {a:α} {b:β},p h q a b->(∀x,q x->q' x)->p h q' a b
def rP{α:Type}(k:Nat)(f:α->List Value):iy Sl (List α):=⟨fun h q s l=>Seq h q s k f l,fun a b=>a.ai b,fun a c=>a.mono c⟩
def bt{α β:Type}(E:iy α β)(k:Nat)(f:α->List Value):iy Sl (List β):=
 ⟨fun h q s ll=>∃rs:List α,Seq h q s k f rs/\rs.length=ll.length/\∀(i:Nat) r l,rs[i]?=some r->ll[i]?=some l->E.p h q r l,
  fun⟨rs,a,b,c⟩ hp=>⟨rs,a.ai hp,b,fun i r l e d=>E.loc (c i r l e d) hp⟩,fun⟨rs,a,b,c⟩ hq=>⟨rs,a.mono hq,b,fun i r l e d=>E.mono (c i r l e d) hq⟩⟩
abbrev uE{α β:Type}(E:iy α β)(h:Heap)(a:α)(b:β):Prop:=E.p h (fun b=>b<h.size) a b
section
variable {α β:Type} {E:iy α β} {k:Nat} {f:α->List Value} {h h':Heap} {q:am} {s:Sl} {ll:List β} {a:α} {b:β}
theorem uE.up(x:uE E h a b)(c:ax (fun b=>b<h.size) h h'):uE E h' a b:=E.mono (E.loc x c) fun _ d=>qv d c.1
theorem bt.tR(x:(bt E k f).p h q s ll):∃rs:List α,Seq h q s k f rs/\rs.length=ll.length/\∀(i:Nat) (e:i<rs.length) (d:i<ll.length),E.p h q rs[i] ll[i]:=by
 obtain⟨rs,a,b,c⟩:=x;exact⟨rs,a,b,fun i e d=>c i _ _ (qc e) (qc d)⟩
theorem bt.len(x:(bt E k f).p h q s ll):s.len=ll.length:=by obtain⟨rs,a,b,c⟩:=x;rw[a.len,b]
theorem bt.nil(h:Heap)(q:am)(a:Option Addr)(c:Nat):(bt E k f).p h q ⟨a,0,c⟩ []:=⟨[],Seq.nil h q c a k f,rfl,fun i r l b=>by simp at b⟩
theorem bt.take(x:(bt E k f).p h q s ll)(n:Nat)(j:n<=ll.length):(bt E k f).p h q ⟨s.ptr,n,s.cap⟩ (ll.take n):=by
 obtain⟨rs,a,b,c⟩:=x;refine⟨rs.take n,a.take n (by omega),by simp[b],fun i r l d e=>?_⟩;rw[List.getElem?_take]at d e;split at d
 ·rename_i g;rw[if_pos g]at e;exact c i r l d e
 ·cases d
theorem bt.drop(x:(bt E k f).p h q s ll)(n:Nat)(g:s.len<=s.cap):(bt E k f).p h q ⟨if s.cap=n then s.ptr else s.ptr.map (·.add (n*k)),s.len-n,s.cap-n⟩ (ll.drop n):=by
 obtain⟨rs,a,b,c⟩:=x;refine⟨rs.drop n,a.drop n g,by simp[b],fun i r l e d=>?_⟩;rw[List.getElem?_drop]at e d;exact c _ r l e d
theorem bt.get{X:Type}{g:X->Value}(x:(bt E 1 f).p h q s ll){i:Int}(n:Nat)(b:i=n)(c:n<ll.length)(u:α->X)(d:∀r,f r=[g (u r)]){K:X->Prop}(k:∀r,E.p h q r ll[n]->K (u r)):
  ∃a:Addr,(s.ptr=some a/\0<=i/\i<((s.len:Nat):Int))/\∃x:X,cellOf h (a.add (i.toNat*1))=some (g x)/\K x:=by
 obtain⟨rs,e,l,j⟩:=bt.tR x;exact e.cd n b (by omega) (u (rs[n]'(by omega))) (d _) (k _ (j n (by omega) c))
theorem bt.yj{E:iy Sl β}(x:(bt E 1 dU).p h q s ll){i:Int}(n:Nat)(b:i=n)(c:n<ll.length){K:Sl->Prop}(d:∀r,E.p h q r ll[n]->K r):
  ∃a:Addr,(s.ptr=some a/\0<=i/\i<((s.len:Nat):Int))/\∃x:Sl,cellOf h (a.add (i.toNat*1))=some (.slice x.ptr x.len x.cap)/\K x:=
 bt.get (g:=fun r:Sl=>Value.slice r.ptr r.len r.cap) x n b c id (fun _=>rfl) d
end
section
variable {α β:Type} {E:iy α β} {C:Ctx} {k e t:Nat} {f:α->List Value} {B:am} {h0 h h':Heap} {As:List HP} {s:Sl} {ll:List β} {z:List Value} {by_:Nat}
end
section
variable {α β:Type} {E:iy α β} {k e:Nat} {f:α->List Value} {B:am} {h0 h:Heap} {As:List HP} {s:Sl}
end
section
variable {α:Type} {B:am} {h0 h:Heap} {As:List HP} {e e2 k:Nat} {s:Sl} {f:α->List Value} {rs:List Sl} {ll:List (List α)}
end
theorem py{h a:Heap}{p:am}(b:ax p h a):∀{L:an},L.ok h->(∀x∈L,p x.1.block)->L.ok a
 |[],_,_=>trivial
 |x::L,hk,hq=>⟨b.cell (hq x (by simp)) hk.1,py b hk.2 fun y c=>hq y (by simp[c])⟩
theorem gV{h d:Heap}(e:ax (fun b=>b<h.size) h d){L:an}(c:L.ok h):L.ok d:=py e c (by
 clear e
 induction L with
 |nil=>intro x a;cases a
 |cons y L ih=>
  intro x a;rcases zA.1 a with rfl|a
  ·exact bg c.1
  ·exact ih c.2 x a)
theorem ar.both{P:Program}{s:Sem Value}{h:Heap}{K:Sl->Heap->Prop}{Q:Heap->Prop}(e:ar P s (.one (.sc .slc)) h fun _ h'=>Q h')(g:ar P s (.one (.sc .slc)) h K):ar P s (.one (.sc .slc)) h fun x h'=>Q h'/\K x h':=by
 intro w c;obtain⟨m,k,a,f,n,a3,a4⟩:=e w c;obtain⟨l,j,b,o,x2,i,d⟩:=g w c;rw[a]at b;cases b;exact⟨_,_,a,f,x2,i,a4,d⟩
theorem aa.iN{α:Type}{B:am}{C:Ctx}{q h:Heap}{As:List HP}{e t k d:Nat}{z:List Value}{K:Sl->Heap->Prop}(r:C.Ok)(H:aa B q h As)(f:α->List Value)(j:bk C.tokp t e k z d)(c:z.length=k){n:Nat}{a:Array (Nat×Value)}(l:List α)(p:l.length=n)(g:n*k<=2^20)
  (b:zD (fun i=>some (i*k,k)) (cC z n).toArray a.toList=some (l.flatMap f).toArray) {L:an} (m:L.ok h) (s:ar C.P (qg t n a) (.one (.sc .slc)) h K):
  ar C.P (qg t n a) (.one (.sc .slc)) h fun x h'=>L.ok h'/\K x h':=
 ar.both ((Sp.refl h).lit r f j c l p g b fun _ _ o=>gV o.ai m) s
section
variable {B:am} {h0 h h':Heap} {As Bs:List HP} {A D E:HP} {i j:Nat}
theorem aa.front(H:aa B h0 h (As++Bs)):aa B h0 h (Bs++As):=
 H.pick (fun j=>if j<Bs.length then As.length+j else if j<Bs.length+As.length then j-Bs.length else j)
  (fun a b c=>by(try dsimp only at c);split at c<;>split at c<;>(try split at c)<;>(try split at c)<;>omega) fun j X e=>by
  try dsimp only
  split
  ·rename_i d;rw[qk d]at e;rw[qf (by omega),qW];exact e
  ·rename_i d;rw[qf (by omega)]at e;have:=(qn.1 e).1;rw[if_pos (by omega),qk this];exact e
theorem aa.bv(H:aa B h0 h (As++[A])):aa B h0 h (A::As):=H.front
theorem aa.dO(H:aa B h0 h As)(R:Sp h h' [A]):aa B h0 h' (A::As):=(H.comp R).bv
theorem aa.mJ(H:aa B h0 h (A::As)):aa B h0 h As:=H.rest
theorem aa.fg(H:aa B h0 h (A::D::As)):aa B h0 h (A::As):=H.del 1
theorem aa.rl{ι:Type}{F:ι->HP}(H:aa B h0 h (HP.ex F::As)):∃x,aa B h0 h (F x::As):=H.xT 0 rfl
theorem aa.rQ{ι:Type}{F:ι->HP}(x:ι)(H:aa B h0 h (F x::As)):aa B h0 h (HP.ex F::As):=H.close' 0 x rfl
theorem aa.rR(H:aa B h0 h (A.sep D::As)):aa B h0 h (D::A::As):=(H.split 0 rfl).bv
theorem aa.jK(H:aa B h0 h (D::A::As)):aa B h0 h (A.sep D::As):=by
 have a:aa B h0 h (emp::A.sep D::As):=H.join 1 0 (by decide) rfl rfl;exact a.rest
theorem aa.uF(H:aa B h0 h (A::D::As)):aa B h0 h (D::A::As):=H.xS 0 1 rfl rfl
end
theorem Seq.xz{h:Heap}{p:am}{s:Sl}{rs:List Sl}(b:Seq h p s 1 dU rs){i:Int}(n:Nat)(c:i=n)(d:n<rs.length){K:Sl->Prop}(e:K rs[n]):
  ∃a:Addr,(s.ptr=some a/\0<=i/\i<((s.len:Nat):Int))/\∃x:Sl,cellOf h (a.add (i.toNat*1))=some (.slice x.ptr x.len x.cap)/\K x:=
 b.cd (g:=fun r:Sl=>Value.slice r.ptr r.len r.cap) n c d rs[n] rfl e
def St(B:am)(a:Heap)(As:List HP)(Q:Heap->Prop):Prop:=∀(Bs:List HP) (h':Heap),aa B a h' (Bs++As)->Q h'
section
variable {B:am} {h0 h h':Heap} {As Bs:List HP} {A:HP} {Q:Heap->Prop}
theorem St.at(x:St B h0 As Q)(Bs:List HP)(H:aa B h0 h (Bs++As)):Q h:=x Bs h H
theorem St.base(b:Q h0)(a:∀h',ax B h0 h'->Q h'):St B h0 As Q:=fun _ _ H=>a _ H.ai
theorem St.mK(j:Nat)(c:As[j]?=some A)(a:∀h',A.p h' (fun b=>b<h'.size)->Q h'):St B h0 As Q:=fun Bs h' H=>a _ (H.at (Bs.length+j) (by rw[qf (by omega),qW];exact c))
theorem St.cons(x:St B h0 As Q):St B h0 (A::As) Q:=fun Bs h' H=>x (Bs++[A]) h' (by rw[qp];exact H)
end
section
variable {β:Type} {E:iy Sl β} {h:Heap} {q:am} {s:Sl} {ll:List β}
theorem bt.pick(x:(bt E 1 dU).p h q s ll)(n:Nat)(i:n<ll.length){a:Addr}{r:Sl}(m:s.ptr=some a)(l:cellOf h (a.add (n*1))=some (.slice r.ptr r.len r.cap)):E.p h q r ll[n]:=by
 obtain⟨rs,j,z,k⟩:=bt.tR x;obtain⟨b,o,c,e2,g⟩:=j.elem n (rs[n]'(by omega)) (qc (by omega));rw[m]at c;injection c with c
 subst c;have f:=g.1;rw[add_eq,wm]at f;have d:cellOf h ((⟨b,o,none⟩:Addr).add (n*1))=some (.slice (rs[n]'(by omega)).ptr (rs[n]'(by omega)).len (rs[n]'(by omega)).cap):=by rw[add_eq];exact f
 rw[l]at d;have e:=k n (by omega) i;generalize rs[n]'(by omega)=r' at d e;obtain⟨w,v,t⟩:=r;obtain⟨y,l2,u⟩:=r';simp at d;obtain⟨rfl,rfl,rfl⟩:=d;exact e
end
theorem mg{α:Type}{l:List α}(f:l.Nodup){a b:Nat}(e:a<l.length)(c:b<l.length)(h:l[a]=l[b]):a=b:=by
 have d:=z7.1 f;rcases Nat.lt_trichotomy a b with hlt|he|hgt
 ·exact absurd h (d a b e c hlt)
 ·exact he
 ·exact absurd h.symm (d b a c e hgt)
theorem aa.cH{B:am}{k h:Heap}{As:List HP}(H:aa B k h As)(L:List Nat)(g:∀j∈L,j<As.length:=by simp)(m:L.Nodup:=by decide):aa B k h (L.map fun j=>As.getD j emp):=by
 refine H.pick (fun i=>if h:i<L.length then L[i]else As.length+i) (fun a b c=>?_) fun i A2 e=>?_
 ·try dsimp only at c
  split at c<;>split at c
  ·exact mg m _ _ c
  ·have:=g _ (qt (l:=L) (n:=a) (by assumption));omega
  ·have:=g _ (qt (l:=L) (n:=b) (by assumption));omega
  ·omega
 ·try dsimp only
  rw[qE]at e;split
  ·rename_i d;rw[qc d]at e;have f:=g _ (qt d);simp only[qQ,zQ.injEq]at e;rw[<-e,qj,qc f];rfl
  ·rename_i d;rw[qO (by omega)]at e;simp at e
theorem St.mk'{B:am}{a:Heap}{As:List HP}{Q:Heap->Prop}(x:∀h',aa B a h' As->Q h'):St B a As Q:=fun Bs h' H=>x h' (H.take Bs.length fun i A b=>by
 rw[qf (by omega),qW];exact b)
theorem St.mono{B:am}{b:Heap}{As:List HP}{Q a:Heap->Prop}(x:St B b As Q)(c:∀h,Q h->a h):St B b As a:=fun Bs h' H=>c _ (x Bs h' H)
theorem St.and{B:am}{a:Heap}{As:List HP}{Q b:Heap->Prop}(x:St B a As Q)(y:St B a As b):St B a As fun h=>Q h/\b h:=fun Bs h' H=>⟨x Bs h' H,y Bs h' H⟩
theorem aa.aV{B:am}{m h:Heap}{As:List HP}(H:aa B m h As)(k:Nat)(L:List Nat)(p:k<=As.length:=by simp)(f:∀j∈L,j<k:=by simp)(o:L.Nodup:=by decide):aa B m h (L.map (fun j=>As.getD j emp)++As.drop k):=by
 refine H.pick (fun i=>if h:i<L.length then L[i]else k+(i-L.length)) (fun a b d=>?_) fun i A2 e=>?_
 ·try dsimp only at d
  split at d<;>split at d
  ·exact mg o _ _ d
  ·have:=f _ (qt (l:=L) (n:=a) (by assumption));omega
  ·have:=f _ (qt (l:=L) (n:=b) (by assumption));omega
  ·omega
 ·try dsimp only
  by_cases c:i<L.length
  ·rw[dif_pos c];rw[qk (by simpa using c),qE,qc c]at e;have g:=f _ (qt c);simp only[qQ,zQ.injEq]at e;rw[<-e,qj,qc (by omega)];rfl
  ·rw[dif_neg c];rw[qf (by simpa using c),qT,List.getElem?_drop]at e;exact e
section
variable {α β:Type} {E:iy α β} {C:Ctx} {k e t by_:Nat} {f:α->List Value} {B:am} {h0 h h':Heap} {As:List HP} {q:am} {s:Sl} {rs:List α} {ll:List β} {ti:TI} {z:List Value}
def Fix(E:iy α β)(k:Nat)(f:α->List Value)(h:Heap)(q:am)(s:Sl)(rs:List α)(a:List β):Prop:=Seq h q s k f rs/\rs.length=a.length/\∀(i:Nat) r l,rs[i]?=some r->a[i]?=some l->E.p h q r l
theorem Fix.ai(x:Fix E k f h q s rs ll)(a:ax q h h'):Fix E k f h' q s rs ll:=⟨x.1.ai a,x.2.1,fun i r l c b=>E.loc (x.2.2 i r l c b) a⟩
theorem Fix.mono{a:am}(x:Fix E k f h q s rs ll)(c:∀b,q b->a b):Fix E k f h a s rs ll:=⟨x.1.mono c,x.2.1,fun i r l e d=>E.mono (x.2.2 i r l e d) c⟩
abbrev eU(E:iy α β)(k:Nat)(f:α->List Value)(h:Heap)(s:Sl)(rs:List α)(a:List β):Prop:=Fix E k f h (fun b=>b<h.size) s rs a
theorem eU.up(x:eU E k f h s rs ll)(a:ax (fun b=>b<h.size) h h'):eU E k f h' s rs ll:=(Fix.ai x a).mono fun _ c=>qv c a.1
theorem Fix.row(x:Fix E k f h q s rs ll){i:Nat}(a:i<ll.length):E.p h q (rs[i]'(by rw[x.2.1];exact a)) ll[i]:=x.2.2 i _ _ (qc _) (qc _)
theorem bt.fix(x:(bt E k f).p h q s ll):∃rs,Fix E k f h q s rs ll:=x
theorem Fix.yo(x:Fix E k f h q s rs ll):(bt E k f).p h q s ll:=⟨rs,x⟩
def mh(E:iy α β)(k:Nat)(f:α->List Value)(s:Sl)(rs:List α)(b:List β):HP:=⟨fun h q=>Fix E k f h q s rs b,fun x a=>x.ai a,fun x c=>x.mono c⟩
theorem aa.rm(H:aa B h0 h As)(i:Nat)(a:As[i]?=some (mh E k f s rs ll)):eU E k f h s rs ll:=H.at i a
end
section
variable {α:Type} {C:Ctx} {B:am} {h0 h:Heap} {As:List HP} {e t k:Nat} {s:Sl} {f:α->List Value} {l:List α} {i:TI}
theorem Own.vF(H:C.Ok)(r:Own h e s k f l)(A:∀x,(f x).length=k)(J:C.T.get t=some i){x:Int}(n:Nat)(E:x=n)(u:n<l.length)(j:Nat)(vs:List Value)(M:j+vs.length<=k){p:Value}(y:α)(D:p.cells=vs.toArray)(v:i.size=vs.length)
  (o:vs.all (·.oneCell')=true) (L:f y=(f l[n]).take j++vs++(f l[n]).drop (j+vs.length)) {K:Heap->Prop} (F:∀h',Own h' e s k f (l.set n y)->ax (fun b=>¬s.on b) h h'->K h'):
  ∃a:Addr,(s.ptr=some a/\0<=x/\x<((s.len:Nat):Int))/\ab C.P (qb t (.pointer (some ((a.add (x.toNat*k)).add j))) p) h fun _ h'=>K h':=by
 subst E;rcases r.head with⟨_,_,h3⟩|⟨b,rest,h1,h2,h3,h4⟩
 ·subst h3;simp at u
 ·refine⟨_,⟨h1,by omega,by rw[r.len];omega⟩,?_⟩;unfold qb;refine ab.bind (ab.pure' ?_);unfold storeVar;refine ab.bind (ab.always (bj H.toOk J) ?_);rw[D,v];simp only[zq,ne_eq,not_true,if_false];rw[add_eq,add_eq,zo,qm];have g:l=l.take n++l[n]::l.drop (n+1):=by rw[<-qY u,qw]
  have m:l.set n y=l.take n++y::l.drop (n+1):=zI.trans (if_pos u);have q:((l.take n).flatMap f).length=n*k:=by rw[bN A,qx,zu (by omega)]
  have I:=A l[n];have d:f l[n]=(f l[n]).take j++((f l[n]).drop j).take vs.length++(f l[n]).drop (j+vs.length):=by
   rw[qp,<-wq,qw,qw]
  refine bB (e:=e) (pre:=(l.take n).flatMap f++(f l[n]).take j) (old:=((f l[n]).drop j).take vs.length) (post:=(f l[n]).drop (j+vs.length)++((l.drop (n+1)).flatMap f++rest)) ?_ ?_ ?_ ?_ ?_
  ·have:l.flatMap f++rest=(l.take n).flatMap f++(f l[n]).take j++((f l[n]).drop j).take vs.length++((f l[n]).drop (j+vs.length)++((l.drop (n+1)).flatMap f++rest)):=by
    have w:=congrArg (List.flatMap f) g;rw[qy,qF]at w;rw[w];generalize f l[n]=z at d;rw[qp]at d;simp only[qp];congr 1
    conv=>lhs;rw[d]
    simp only[qp]
   rw[<-this];exact h2
  ·simp;omega
  ·rw[qu,q,qx];omega
  ·intro c G;exact qH.1 o c G
  ·refine F _ ⟨by rw[q8];exact r.len,.inr ⟨b,rest,h1,?_,h3,h4⟩⟩ (ax.cy h2 (fun B=>B ⟨0,h1⟩));rw[cn h2,if_pos rfl,m,qy,qF,L];simp[qp]
theorem aa.vF(v:C.Ok)(H:aa B h0 h As)(g:Nat)(d:As[g]?=some (au e s k f l))(u:∀x,(f x).length=k)(D:C.T.get t=some i){x:Int}(n:Nat)(q:x=n)(p:n<l.length)(j:Nat)(vs:List Value)(A:j+vs.length<=k){c:Value}(y:α)(o:c.cells=vs.toArray)(m:i.size=vs.length)
  (b:vs.all (·.oneCell')=true) (E:f y=(f l[n]).take j++vs++(f l[n]).drop (j+vs.length)) {K:Heap->Prop} (r:∀h',aa B h0 h' (As.set g (au e s k f (l.set n y)))->K h'):
  ∃a:Addr,(s.ptr=some a/\0<=x/\x<((s.len:Nat):Int))/\ab C.P (qb t (.pointer (some ((a.add (x.toNat*k)).add j))) c) h fun _ h'=>K h':=
 (H.own g d).vF v u D n q p j vs A y o m b E fun h' z w=>r h' (H.gr g d w z)
end
def HP.all:List HP->HP
 |[]=>emp
 |A::L=>A.sep (HP.all L)
section
variable {B:am} {h0 h h':Heap} {As L:List HP} {A D E:HP}
theorem aa.ku:∀{L:List HP} {As:List HP},aa B h0 h (HP.all L::As)->aa B h0 h (L++As)
 |[],_,H=>H.rest
 |A::L,As,H=>by
  have e:aa B h0 h (HP.all L::A::As):=H.rR;have g:=aa.ku e;exact g.pick (fun i=>if i=0 then L.length else if i<=L.length then i-1 else i) (fun a b c=>by(try dsimp only at c);split at c<;>split at c<;>(try split at c)<;>(try split at c)<;>omega) fun i X d=>by
   try dsimp only
   rw[zm]at d;cases i with
   |zero=>simp at d;subst d;rw[if_pos rfl,qf (qM _),zT];rfl
   |succ i=>
    rw[qe]at d;rw[if_neg (by omega)];by_cases f:i<L.length
    ·rw[qk f]at d;rw[if_pos (by omega),qk (by omega)];simpa using d
    ·rw[qf (by omega)]at d;rw[if_neg (by omega),qf (by omega)];rw[show i+1-L.length=(i-L.length)+1 by omega,qe];exact d
theorem aa.closeAll:∀(L:List HP) {As:List HP},aa B h0 h (L++As)->aa B h0 h (HP.all L::As)
 |[],As,H=>((H.comp (.one (A:=emp) (ax.refl _ _) trivial)).bv:aa B h0 h (emp::As))
 |A::L,As,H=>by
  have g:aa B h0 h (L++(A::As)):=H.pick (fun i=>if i<L.length then i+1 else if i=L.length then 0 else i) (fun a b c=>by(try dsimp only at c);split at c<;>split at c<;>(try split at c)<;>(try split at c)<;>omega) fun i X d=>by
   try dsimp only
   by_cases e:i<L.length
   ·rw[qk e]at d;rw[if_pos e,zm,qe,qk e];exact d
   ·rw[qf (by omega)]at d;by_cases f:i=L.length
    ·subst f;rw[zT]at d;rw[if_neg (by omega),if_pos rfl];simpa using d
    ·rw[if_neg e,if_neg f,zm];obtain⟨j,rfl⟩:∃j,i=L.length+(j+1):=⟨i-L.length-1,by omega⟩
     rw[qW,qe]at d;rw[show L.length+(j+1)=(L.length+j)+1 by omega,qe,qf (by omega),qW];exact d
  exact(aa.closeAll L g).jK
theorem aa.oQ{P:Prop}(H:aa B h0 h (A.and P::As)):aa B h0 h (A::As)/\P:=⟨H.xU 0 rfl,H.fact 0 rfl⟩
theorem aa.tooQ{P:Prop}(H:aa B h0 h (A::As))(p:P):aa B h0 h (A.and P::As):=H.xV 0 rfl p
end
def iC{α:Type}(e:TypeId)(s:Sl)(b:TypeId)(k:Nat)(f:α->List Value)(a:List (List α)):HP:=
 HP.ex fun rs:List Sl=>(HP.all (au e s 1 dU rs::cM b k f rs a)).and (rs.length=a.length)
section
variable {α:Type} {C:Ctx} {B:am} {h0 h h':Heap} {As:List HP} {e e2 k t by_:Nat} {s:Sl} {f:α->List Value} {ll:List (List α)}
theorem aa.tT(H:aa B h0 h (iC e s e2 k f ll::As)):∃rs:List Sl,rs.length=ll.length/\aa B h0 h ((au e s 1 dU rs::cM e2 k f rs ll)++As):=by
 obtain⟨rs,H⟩:=H.rl;obtain⟨H,a⟩:=H.oQ;exact⟨rs,a,H.ku⟩
theorem aa.uG{rs:List Sl}(a:rs.length=ll.length)(H:aa B h0 h ((au e s 1 dU rs::cM e2 k f rs ll)++As)):aa B h0 h (iC e s e2 k f ll::As):=
 ((aa.closeAll _ H).tooQ a).rQ (F:=fun rs:List Sl=>(HP.all (au e s 1 dU rs::cM e2 k f rs ll)).and (rs.length=ll.length)) rs
theorem aa.jX(H:aa B h0 h As)(e a k:Nat)(f:α->List Value):aa B h0 h (iC e ⟨none,0,0⟩ a k f []::As):=
 aa.uG (rs:=[]) rfl ((H.nil e 1 dU).bv)
theorem aa.rS{Bs:List HP}(H:aa B h0 h (As++Bs)):aa B h0 h As:=H.pick id (fun _ _ h=>h) fun i A a=>by
 rw[id,qk (qn.1 a).1];exact a
theorem aa.xA(H:aa B h0 h (iC e s e2 k f ll::As))(a:∀x,(f x).length=k):eT h s k f ll:=by
 obtain⟨rs,b,H⟩:=H.tT;exact aa.yn (aa.rS H) b a
theorem aa.oR(H:aa B h0 h (iC e s e2 k f ll::As)):s.len=ll.length/\s.len<=s.cap:=by
 obtain⟨rs,a,H⟩:=H.tT;exact⟨by rw[(H.own 0 rfl).len,a],(H.own 0 rfl).cap⟩
theorem aa.nV(m:C.Ok){r:Sl}{x:List α}(H:aa B h0 h (iC e s e2 k f ll::au e2 r k f x::As))(d:bk C.tokp t e 1 [.slice none 0 0] 24)(n:ll.length+1<=2^32){i:Nat}{K:Sl->Heap->Prop}
  (l:∀a h',aa B h0 h' (iC e a e2 k f (ll++[x])::As)->K a h'):
  ar C.P (qg t 1 #[(0,.slice r.ptr r.len r.cap)]) (.one (.sc .slc)) h fun v j=>ar C.P (qh #[t,t] i #[.slice s.ptr s.len s.cap,.slice v.ptr v.len v.cap]) (.one (.sc .slc)) j K:=by
 obtain⟨rs,c,H⟩:=H.tT;refine H.push m 0 rfl d rfl (by decide) (fun _=>rfl) uD r rfl (by decide) (by omega) fun a h' b=>l a h' ?_;refine aa.uG (rs:=rs++[r]) (by simp[c]) ?_;rw[rM c];have b:aa B h0 h' (au e a 1 dU (rs++[r])::(cM e2 k f rs ll++au e2 r k f x::As)):=b;have g:au e a 1 dU (rs++[r])::(cM e2 k f rs ll++[au e2 r k f x])++As=au e a 1 dU (rs++[r])::(cM e2 k f rs ll++au e2 r k f x::As):=by simp
 rw[g];exact b
end
end Go.Vc
namespace Gf
theorem yk{p:UInt8->Prop}(h:∀n,n<256->p (UInt8.ofNat n))(a:UInt8):p a:=by
 have:=h a.toNat (UInt8.toNat_lt a)
 rwa [UInt8.ofNat_toNat]at this
def x2(a:UInt8):UInt8:=(a<<<1)^^^(if a&&&0x80=0 then 0 else 0x1b)
def x3(a:UInt8):UInt8:=x2 a^^^a
def pw:Nat->UInt8
 |0=>1
 |n+1=>x3 (pw n)
def pz:Nat->UInt8->UInt8
 |0,a=>a
 |n+1,a=>x3 (pz n a)
theorem tu(a:UInt8)(m:Nat):∀n,pz (n+m) a=pz n (pz m a)
 |0=>by simp[pz]
 |n+1=>by rw[Nat.add_right_comm];simp only[pz,tu a m n]
theorem nW:∀n,pw n=pz n 1
 |0=>rfl
 |n+1=>by rw[pw,pz,nW n]
def yl:Nat:=939374623831894136699086600277250597547650664638770418422125146541797353646788332867483593573384618611044815625336497665827114626705134492515730415652478061620339993830966980270842846318821775850471098591710629241171812800746666233448222972174585295916389942636813666312872914849454985560152530477328703759683306625234997237483834721220409437442253146756845415190424543171129629468776480674528486868811725071010351012234056630775688111116293610821126543142160426617079940511630006820862697466582575257349116925728488930366609138264019883664906661504235885380294353134295748489096855100647154935187045898006656778240
def lg(a:UInt8):Nat:=(yl>>>(8*a.toNat))%256
theorem xW:∀a:UInt8,a≠0->pw (lg a)=a:=yk (by decide+kernel)
theorem xX:∀n,n<255->lg (pw n)=n:=by decide+kernel
theorem xB:pw 255=1:=by decide+kernel
theorem xY:∀n,n<255->pw n≠0:=by decide+kernel
theorem uH(n:Nat):pw (n+255)=pw n:=by
 rw[nW,tu,<-nW 255,xB,<-nW]
theorem xC(n:Nat):pw (n%255)=pw n:=by
 have:∀k m,pw (m+255*k)=pw m:=by
  intro k
  induction k with
  |zero=>intro m;rfl
  |succ k ih=>intro m;rw[Nat.mul_succ,<-z8,uH,ih]
 have h:=this (n/255) (n%255);rw[Nat.mod_add_div]at h;exact h.symm
def mul(a b:UInt8):UInt8:=if a=0∨b=0 then 0 else pw ((lg a+lg b)%255)
theorem mul_zero(a:UInt8):mul a 0=0:=by simp[mul]
theorem zero_mul(a:UInt8):mul 0 a=0:=by simp[mul]
theorem mul_comm(a b:UInt8):mul a b=mul b a:=by
 unfold mul;rw[Nat.add_comm];by_cases h:a=0∨b=0
 ·rw[if_pos h,if_pos h.symm]
 ·rw[if_neg h,if_neg fun x=>h x.symm]
theorem uI{a b:UInt8}(d:a≠0)(c:b≠0):mul a b≠0:=by
 rw[mul,if_neg (by simp[d,c])];exact xY _ (Nat.mod_lt _ (by decide))
theorem uJ{a b:UInt8}(d:a≠0)(c:b≠0):lg (mul a b)=(lg a+lg b)%255:=by
 rw[mul,if_neg (by simp[d,c]),xX _ (Nat.mod_lt _ (by decide))]
theorem mul_assoc(a b c:UInt8):mul (mul a b) c=mul a (mul b c):=by
 by_cases e:a=0
 ·subst e;simp[zero_mul]
 by_cases d:b=0
 ·subst d;simp[zero_mul,mul_zero]
 by_cases f:c=0
 ·subst f;simp[mul_zero]
 rw[mul,if_neg (by simp[uI e d,f]),uJ e d,mul,if_neg (by simp[e,uI d f]),uJ d f];congr 1;omega
theorem xD:lg 1=0:=by decide+kernel
theorem one_mul(a:UInt8):mul 1 a=a:=by
 by_cases b:a=0
 ·subst b;rfl
 ·rw[mul,if_neg (by simp[b]),xD,zo,xC,xW a b]
theorem mul_one(a:UInt8):mul a 1=a:=by rw[mul_comm,one_mul]
end Gf
