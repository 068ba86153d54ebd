/- Lemmas for the proof of the law; no condition. -/
import Derived.Test.YtcaonbjibhlkcaaGreatDoorVcA
set_option linter.unusedVariables false
set_option linter.unusedSimpArgs false
open Nat renaming add_assoc -> yy, add_sub_cancel_left -> zn, add_zero -> yf, le_of_not_lt -> vh, le_refl -> ql, le_trans -> zk, lt_of_lt_of_le -> qL, min_eq_left -> wO, mod_lt -> wJ, mul_le_mul -> zJ, mul_le_mul_right -> zp, sub_self -> zd, succ_mul -> zK, zero_add -> zX
open Array renaming ext' -> yw, ext_getElem? -> yA, getElem?_eq_some_iff -> yz, getElem?_modify -> wX, range -> xd
open List renaming all_eq_true -> qN, append_assoc -> qo, cons_append -> zA, drop_drop -> zB, drop_eq_getElem_cons -> qS, drop_of_length_le -> zh, eq_nil_of_length_eq_zero -> qT, flatMap_append -> ze, flatMap_cons -> zq, getD_eq_getElem?_getD -> qe, getElem?_append_left -> qm, getElem?_append_right -> qj, getElem?_cons_succ -> qz, getElem?_cons_zero -> w9, getElem?_drop -> wq, getElem?_eq_getElem -> qd, getElem?_eq_none -> za, getElem?_eq_some_iff -> qn, getElem?_map -> qO, getElem?_set -> qV, getElem?_set_ne -> zY, getElem?_set_self -> zC, getElem?_take -> y0, getElem?_toArray -> zL, getElem?_zipWith -> wY, getElem_mem -> qh, length_append -> qw, length_drop -> qZ, length_set -> zr, length_take -> qM, map_cons -> wj, mem_flatMap -> zQ, mem_singleton -> qG, replicate -> qg, set_comm -> va, set_eq_take_append_cons_drop -> wy, set_set -> vi, size_toArray -> wF, take_append_drop -> qx
open Go.Value renaming int -> xk
open Go.IntKind renaming i64 -> xq, u8 -> xr, wrap -> qc
open Go.Builtin renaming append_ -> qq, copy_ -> wz, firstCells -> wK, nextslicecap -> vf
open Go.Instr renaming alloc -> qP, box -> qH, buildSlice -> qt, fill -> wC, findNow -> vP, makeSlice -> qB, storeAt -> qf
open Bool renaming true_and -> zU
open Int renaming toNat_natCast -> qp
open Option renaming map_some -> qR, some -> zO
set_option maxRecDepth 100000
namespace Go.Vc
open Go
section
variable {A B:Prop}
theorem ai{p:Prop}[Decidable p](b:p->A)(a:¬p->B):Br (decide p) A B:=by
 by_cases h:p
 ·rw[decide_eq_true h];exact b h
 ·rw[decide_eq_false h];exact a h
theorem cz{a b:Int}(d:a=b->A)(c:a≠b->B):Br (a==b) A B:=by
 by_cases h:a=b
 ·rw[beq_iff_eq.2 h];exact d h
 ·rw[beq_eq_false_iff_ne.2 h];exact c h
theorem bV{a b:Int}(d:a≠b->A)(c:a=b->B):Br (a !=b) A B:=by
 by_cases h:a=b
 ·rw[show(a !=b)=false by simp[h]];exact c h
 ·rw[show(a !=b)=true by simp[h]];exact d h
theorem bF{b:Bool}(c:b=true->A)(a:b=false->B):Br b A B:=by
 cases b
 ·exact a rfl
 ·exact c rfl
theorem be{b:Bool}(c:b=false->A)(a:b=true->B):Br (!b) A B:=by
 cases b
 ·exact c rfl
 ·exact a rfl
theorem Iu{b:Bool}(h:b=true)(a:A):Br b A B:=by subst h;exact a
theorem AL{b:Bool}(h:b=false)(a:B):Br b A B:=by subst h;exact a
end
theorem aT{σ:Type}{rest:σ->Heap->Prop}{B:(σ->Heap->Prop)->Prop}(h:B rest):aW rest B:=⟨rest,fun _ _ x=>x,h⟩
theorem bO{σ:Type}{rest:σ->Heap->Prop}{B:(σ->Heap->Prop)->Prop}(R:σ->Heap->Prop)(b:B R)(a:∀s h,R s h->rest s h):aW rest B:=⟨R,a,b⟩
theorem au{σ:Type}{B:σ->(σ->Heap->Prop)->Heap->Prop}{s:σ}{h:Heap}{τ:Type}(V:τ->σ)(I:τ->Heap->Prop)(μ:τ->Nat)(t0:τ)(c:s=V t0)(b:I t0 h)
  (e:∀t h,I t h->B (V t) (fun d h'=>∃a,d=V a/\I a h'/\μ a<μ t) h):aG B s h:=⟨τ,V,I,μ,t0,c,b,e⟩
abbrev aA:=Nat->Prop
def aR(p:aA)(h h':Heap):Prop:=h.size<=h'.size/\∀b,b<h.size->p b->h'[b]?=h[b]?
def Sl.on(s:Sl)(b:Nat):Prop:=∃o,s.ptr=some ⟨b,o,none⟩
section
variable {p q:aA} {h h' h'':Heap}
theorem aR.refl(p:aA)(h:Heap):aR p h h:=⟨ql _,fun _ _ _=>rfl⟩
theorem aR.trans(a:aR p h h')(b:aR p h' h''):aR p h h'':=⟨zk a.1 b.1,fun k c d=>(b.2 k (qL c a.1) d).trans (a.2 k c d)⟩
theorem aR.then(a:aR p h h')(b:aR q h' h'')(e:∀k,k<h.size->p k->q k):aR p h h'':=⟨zk a.1 b.1,fun k c d=>(b.2 k (qL c a.1) (e k c d)).trans (a.2 k c d)⟩
theorem aR.mono(a:aR p h h')(e:∀b,b<h.size->q b->p b):aR q h h':=⟨a.1,fun k c d=>a.2 k c (e k c d)⟩
theorem aR.push(p:aA)(h:Heap)(o:Obj):aR p h (h.push o):=⟨by simp,fun b a _=>by rw[Array.getElem?_push,if_neg (by omega)]⟩
theorem aR.ED{a:Addr}{v:Value}(c:¬p a.block):aR p h (ED h a v):=⟨by simp[Go.Vc.ED],fun b _ d=>by
 simp only[Go.Vc.ED,wX];rw[if_neg (fun e=>c (by rw[e];exact d))]⟩
theorem tw{a:Addr}{v:Value}(b:cellOf h a=some v):a.block<h.size:=by
 unfold cellOf at b;cases hb:h[a.block]? with
 |none=>rw[hb]at b;cases b
 |some o=>exact(yz.1 hb).1
theorem lt_of_block{b:Nat}{o:Obj}(a:h[b]?=some o):b<h.size:=(yz.1 a).1
theorem aR.cell(a:aR p h h'){x:Addr}{v:Value}(c:p x.block)(b:cellOf h x=some v):cellOf h' x=some v:=by
 have:=a.2 _ (tw b) c;unfold cellOf at*;rw[this];exact b
theorem aR.block(a:aR p h h'){b:Nat}{o:Obj}(d:p b)(c:h[b]?=some o):h'[b]?=some o:=by rw[a.2 b (lt_of_block c) d];exact c
theorem aR.cells(a:aR p h h'){x:Addr}(b:p x.block):∀{vs:aV} {i:Nat},al h x i vs->al h' x i vs
 |[],_,_=>trivial
 |v::r,i,hc=>⟨a.cell (by unfold Addr.add;split<;>exact b) hc.1,aR.cells a b hc.2⟩
end
theorem add_eq(b o n:Nat):(⟨b,o,none⟩:Addr).add n=⟨b,o+n,none⟩:=by
 unfold Addr.add;split
 ·rename_i h;subst h;rfl
 ·rfl
theorem add_zero(a:Addr):a.add 0=a:=rfl
theorem Cv{h:Heap}{b o:Nat}{c:Array Value}{e:TypeId}{f:Nat×Nat}(a:h[b]?=some (.cells c e f)):cellOf h ⟨b,o,none⟩=c[o]?:=by
 unfold cellOf;rw[a];rfl
theorem aai{h:Heap}{b o:Nat}{c:Array Value}{e:TypeId}(a:h[b]?=some (.cells c e (0,0))):UP h ⟨b,o,none⟩=false:=by
 unfold UP;rw[a];simp
structure Seq {α:Type} (h:Heap) (p:aA) (s:Sl) (k:Nat) (f:α->aV) (l:List α):Prop where
 len:s.len=l.length
 elem:∀i x,l[i]?=some x->∃b o,s.ptr=some ⟨b,o,none⟩/\p b/\al h ⟨b,o+i*k,none⟩ 0 (f x)
section
variable {α:Type} {h h':Heap} {p q:aA} {s:Sl} {k:Nat} {f:α->aV} {l:List α}
theorem Seq.ag(a:Seq h p s k f l)(e:aR p h h'):Seq h' p s k f l:=⟨a.len,fun i x d=>by
 obtain⟨b,o,g,c,h3⟩:=a.elem i x d;exact⟨b,o,g,c,e.cells c h3⟩⟩
theorem Seq.mono(a:Seq h p s k f l)(e:∀b,p b->q b):Seq h q s k f l:=⟨a.len,fun i x c=>by
 obtain⟨b,o,g,d,h3⟩:=a.elem i x c;exact⟨b,o,g,e b d,h3⟩⟩
theorem Seq.nil(h:Heap)(p:aA)(c:Nat)(b:aP)(k:Nat)(f:α->aV):Seq h p ⟨b,0,c⟩ k f []:=⟨rfl,fun i x a=>by simp at a⟩
theorem Seq.bt{X:Type}{g:X->Value}(c:Seq h p s 1 f l){i:Int}(n:Nat)(k:i=n)(d:n<l.length)(x:X)(e:f l[n]=[g x]){K:X->Prop}(j:K x):
  ∃a:Addr,(s.ptr=some a/\0<=i/\i<((s.len:Nat):Int))/\∃x:X,cellOf h (a.add (i.toNat*1))=some (g x)/\K x:=by
 subst k;obtain⟨b,o,m,_,h3⟩:=c.elem n l[n] (qd d);refine⟨_,⟨m,by omega,by rw[c.len];omega⟩,x,?_,j⟩;rw[e]at h3;have:=h3.1;rw[add_eq,yf]at this;rw[add_eq];simpa using this
theorem Seq.ea{X:Type}{g:X->aV}(c:Seq h p s k f l){i:Int}(n:Nat)(m:i=n)(d:n<l.length)(x:X)(e:f l[n]=g x){K:X->Prop}(j:K x):
  ∃a:Addr,(s.ptr=some a/\0<=i/\i<((s.len:Nat):Int))/\∃x:X,al h (a.add (i.toNat*k)) 0 (g x)/\K x:=by
 subst m;obtain⟨b,o,q,_,h3⟩:=c.elem n l[n] (qd d);refine⟨_,⟨q,by omega,by rw[c.len];omega⟩,x,?_,j⟩;rw[add_eq];rw[e]at h3;simpa using h3
end
def aC(n:Int):aV:=[xk xq n]
def az(n:UInt8):aV:=[xk xr n.toNat]
def ee(b:Bool):aV:=[.bool b]
def bD(s:Sl):aV:=[.slice s.ptr s.len s.cap]
structure gc {α:Type} (h:Heap) (p:aA) (s:Sl) (k:Nat) (f:α->aV) (ll:List (List α)) (rs:List Sl):Prop where
 top:Seq h p s 1 bD rs
 len:rs.length=ll.length
 row:∀(i:Nat) (r:Sl) (l:List α),rs[i]?=some r->ll[i]?=some l->Seq h p r k f l
section
variable {α:Type} {h h':Heap} {p q:aA} {s:Sl} {k:Nat} {f:α->aV} {ll:List (List α)} {rs:List Sl}
theorem gc.ag(a:gc h p s k f ll rs)(b:aR p h h'):gc h' p s k f ll rs:=⟨a.top.ag b,a.len,fun i r l d c=>(a.row i r l d c).ag b⟩
theorem gc.mono(a:gc h p s k f ll rs)(c:∀b,p b->q b):gc h q s k f ll rs:=⟨a.top.mono c,a.len,fun i r l e d=>(a.row i r l e d).mono c⟩
theorem gc.Pv(a:gc h p s k f ll rs):s.len=ll.length:=by rw[a.top.len,a.len]
theorem gc.get(c:gc h p s k f ll rs){i:Int}(n:Nat)(j:i=n)(d:n<ll.length){K:Sl->Prop}(g:∀r,Seq h p r k f ll[n]->rs[n]?=some r->K r):
  ∃a:Addr,(s.ptr=some a/\0<=i/\i<((s.len:Nat):Int))/\∃x:Sl,cellOf h (a.add (i.toNat*1))=some (.slice x.ptr x.len x.cap)/\K x:=by
 have b:n<rs.length:=by rw[c.len];exact d
 have e:rs[n]?=some rs[n]:=qd b;exact c.top.bt n j b rs[n] rfl (g _ (c.row n _ _ e (qd d)) e)
end
structure Own {α:Type} (h:Heap) (e:TypeId) (s:Sl) (k:Nat) (f:α->aV) (l:List α):Prop where
 len:s.len=l.length
 head:(s.ptr=none/\s.cap=0/\l=[])∨∃b rest,s.ptr=some ⟨b,0,none⟩/\h[b]?=some (.cells (l.flatMap f++rest).toArray e (0,0))/\rest.length=(s.cap-s.len)*k/\s.len<=s.cap
theorem cF{α:Type}{k:Nat}{f:α->aV}(a:∀x,(f x).length=k):∀(l:List α),(l.flatMap f).length=l.length*k
 |[]=>by simp
 |x::r=>by rw[zq,qw,a,cF a r,List.length_cons,zK];omega
theorem Cw{α:Type}{k:Nat}{f:α->aV}(a:∀x,(f x).length=k):∀(l:List α) (i:Nat) (x:α),l[i]?=some x->∃pre post,l.flatMap f=pre++f x++post/\pre.length=i*k
 |y::r,0,x,h=>by simp at h;subst h;exact⟨[],r.flatMap f,by simp,by simp⟩
 |y::r,i+1,x,h=>by
  obtain⟨pre,post,c,b⟩:=Cw a r i x (by simpa using h);exact⟨f y++pre,post,by simp[c],by rw[qw,a,b,zK];omega⟩
theorem ru{h:Heap}{b o:Nat}{e:TypeId}{fr:Nat×Nat}:∀{vs pre post:aV} {i:Nat},h[b]?=some (.cells (pre++vs++post).toArray e fr)->pre.length=o+i->al h ⟨b,o,none⟩ i vs
 |[],_,_,_,_,_=>trivial
 |v::r,pre,post,i,hb,hl=>by
  refine⟨?_,ru (pre:=pre++[v]) (post:=post) (by simpa using hb) (by simp;omega)⟩;rw[add_eq,Cv hb,<-hl];simp
def gx(h:Heap)(b:Nat)(o:Obj):Heap:=h.setIfInBounds b o
theorem fA{h:Heap}{b c:Nat}{o x:Obj}(a:h[b]?=some x):(gx h b o)[c]?=if b=c then some o else h[c]?:=by
 unfold gx;rw[Array.getElem?_setIfInBounds];split
 ·rename_i e;subst e;rw[if_pos (lt_of_block a)]
 ·rfl
theorem Xt{h:Heap}{b o:Nat}{c:Array Value}{e:TypeId}{f:Nat×Nat}{v:Value}(a:h[b]?=some (.cells c e f)):ED h ⟨b,o,none⟩ v=gx h b (.cells (c.setIfInBounds o v) e f):=by
 apply yA;intro i;rw[fA a];simp only[ED,wX];split
 ·rename_i d;subst d;rw[a];rfl
 ·rfl
theorem Xu(h:Heap)(b:Nat)(o a:Obj):gx (gx h b o) b a=gx h b a:=by
 unfold gx;simp
theorem aR.gx{p:aA}{h:Heap}{b:Nat}{o x:Obj}(a:h[b]?=some x)(d:¬p b):aR p h (gx h b o):=⟨by simp[Go.Vc.gx],fun c _ f=>by
 rw[fA a,if_neg (fun e=>d (by rw[e];exact f))]⟩
theorem db{P:Program}{b o:Nat}{e:TypeId}{K:Unit->Heap->Prop}:∀{vs pre old post:aV} {i:Nat} {h:Heap},h[b]?=some (.cells (pre++old++post).toArray e (0,0))->old.length=vs.length->pre.length=o+i->
  (∀v∈vs,v.oneCell'=true)->K () (gx h b (.cells (pre++vs++post).toArray e (0,0)))->ae P (storeCells ⟨b,o,none⟩ vs i) h K
 |[],pre,old,post,i,h,hb,hl,hp,hv,hk=>by
  have:old=[]:=qT (by simpa using hl);subst this;refine ae.pure' ?_;have g:gx h b (.cells (pre++[]++post).toArray e (0,0))=h:=by
   apply yA;intro c;rw[fA hb];split
   ·rename_i d;subst d;exact hb.symm
   ·rfl
  rw[g]at hk;exact hk
 |v::r,pre,old,post,i,h,hb,hl,hp,hv,hk=>by
  cases old with
  |nil=>simp at hl
  |cons u old=>
   simp only[storeCells];refine ae.bind ?_;rw[add_eq];have d:cellOf h ⟨b,o+i,none⟩=some u:=by rw[Cv hb,<-hp];simp
   refine ae.adZ (hv v (by simp)) d (aai hb) ?_;rw[Xt hb];have a:(pre++(u::old)++post).toArray.setIfInBounds (o+i) v=((pre++[v])++old++post).toArray:=by
    rw[<-hp];apply yw;simp
   rw[a];refine db (e:=e) (pre:=pre++[v]) (old:=old) (post:=post) ?_ (by simpa using hl) (by simp;omega) (fun x f=>hv x (by simp[f])) ?_
   ·rw[fA hb,if_pos rfl]
   ·rw[Xu];simpa using hk
theorem Lv{P:Program}{h:Heap}{a:Addr}{vs:aV}{n:Nat}{K:Array Value->Heap->Prop}(b:vs.length=n)(e:al h a 0 vs)(c:K vs.toArray h):ae P (loadCells a n) h K:=fun w d=>by
 subst d;refine⟨vs.toArray,w,?_,cM.refl w,c⟩;have:=run_loadCells (P:=P) (w:=w) (a:=a) vs 0 #[] e;rw[b]at this;unfold loadCells;rw[this];simp
section
variable {α:Type} {h h':Heap} {p:aA} {e:TypeId} {s:Sl} {k:Nat} {f:α->aV} {l:List α}
theorem Own.lt(c:Own h e s k f l){b:Nat}(a:s.on b):b<h.size:=by
 rcases c.head with⟨h1,_,_⟩|⟨b',rest,h1,h2,_,_⟩
 ·obtain⟨o,h0⟩:=a;rw[h1]at h0;cases h0
 ·obtain⟨o,h0⟩:=a;rw[h1]at h0;cases h0;exact lt_of_block h2
theorem Own.ag(c:Own h e s k f l)(d:aR p h h')(a:∀b,s.on b->p b):Own h' e s k f l:=⟨c.len,by
 rcases c.head with h1|⟨b,rest,h1,h2,h3,h4⟩
 ·exact .inl h1
 ·exact .inr ⟨b,rest,h1,d.block (a b ⟨0,h1⟩) h2,h3,h4⟩⟩
theorem Own.seq(d:Own h e s k f l)(g:∀x,(f x).length=k)(a:∀b,s.on b->p b):Seq h p s k f l:=⟨d.len,fun i x c=>by
 rcases d.head with⟨_,_,h1⟩|⟨b,rest,h1,h2,h3,h4⟩
 ·subst h1;simp at c
 ·obtain⟨pre,post,j,m⟩:=Cw g l i x c;refine⟨b,0,h1,a b ⟨0,h1⟩,ru (e:=e) (fr:=(0,0)) (pre:=pre) (post:=post++rest) ?_ (by omega)⟩;rw[h2,j];simp⟩
theorem Own.nil(h:Heap)(e:TypeId)(k:Nat)(f:α->aV):Own h e ⟨none,0,0⟩ k f []:=⟨rfl,.inl ⟨rfl,rfl,rfl⟩⟩
theorem Own.cap(a:Own h e s k f l):s.len<=s.cap:=by
 rcases a.head with⟨h1,h2,h3⟩|⟨b,rest,h1,h2,h3,h4⟩
 ·have:=a.len;rw[h3]at this;simp at this;omega
 ·exact h4
end
theorem ae.always{α:Type}{P:Program}{s:Sem α}{v:α}{h:Heap}{K:α->Heap->Prop}(c:aJ P s v)(a:K v h):ae P s h K:=fun w b=>⟨v,w,c w,cM.refl w,by rw[b];exact a⟩
structure bN (C:Bq) (t e k:Nat) (z:aV) (by_:Nat):Prop where
 ex:∃i j,C.T.get t=some i/\i.cu=.slice e/\C.T.get e=some j/\j.size=k/\j.zero=z/\j.bytes=by_
section
variable {C:Ctx} {t e k:Nat} {z:aV} {by_:Nat}
theorem bN.under(d:bN C.toBq t e k z by_)(a:C.Ok):C.P.underlying t=some (.slice e):=by
 obtain⟨i,j,c,b,_⟩:=d.ex;have:=a.cu c;rw[b]at this;exact hG this
theorem bN.size(d:bN C.toBq t e k z by_)(a:C.Ok):aJ C.P (sizeOf e) k:=by
 obtain⟨i,j,_,_,c,b,_⟩:=d.ex;rw[<-b];exact cY a.toOk c
theorem bN.info(l:bN C.toBq t e k z by_)(c:C.Ok):∃f,C.P.info? e=some f/\f.size=k/\f.bytes=by_/\∃a,f.zero=some a/\a.cells=z.toArray:=by
 obtain⟨i,j,_,_,o,h,h3,b⟩:=l.ex;obtain⟨f,m,g,n,a,p,d⟩:=c.info o;exact⟨f,m,g.trans h,n.trans b,a,p,by apply yw;rw[d,h3]⟩
end
def hO(z:aV):Nat->aV
 |0=>[]
 |n+1=>z++hO z n
theorem nJ(z:aV):∀n,(hO z n).length=n*z.length
 |0=>by simp[hO]
 |n+1=>by rw[hO,qw,nJ z n,zK];omega
theorem Pw(z:aV):∀(n i:Nat),i<n*z.length->(hO z n)[i]?=z[i%z.length]?
 |0,i,h=>by simp at h
 |n+1,i,h=>by
  have b:0<z.length:=Nat.pos_of_ne_zero fun e=>by rw[e]at h;simp at h
  rw[hO];by_cases a:i<z.length
  ·rw[qm a,Nat.mod_eq_of_lt a]
  ·rw[qj (by omega),Pw z n (i-z.length) (by rw[zK]at h;omega)];congr 1
   conv=>rhs;rw[show i=(i-z.length)+z.length by omega,Nat.add_mod_right]
theorem Px(z:aV)(n m:Nat)(c:m=n*z.length):((xd m).map (fun i=>z.toArray[i%z.toArray.size]!))=(hO z n).toArray:=by
 apply yA;intro i;subst c;simp only[Array.getElem?_map,Array.getElem?_range,zL];by_cases a:i<n*z.length
 ·rw[Pw z n i a];have b:0<z.length:=Nat.pos_of_ne_zero fun e=>by rw[e]at a;simp at a
  have:=wJ i b;simp[a,this]
 ·rw[za (by rw[nJ];omega)];simp[a]
theorem EN(z:aV)(n:Nat):Builtin.zeroCells z.toArray n=(hO z n).toArray:=Px z n _ (by simp)
theorem Ue(a:Nat):∀(r c:Nat),Builtin.growBy a r c<=(c+768)*2^r
 |0,c=>by simp[Builtin.growBy]
 |r+1,c=>by
  unfold Builtin.growBy;split
  ·exact zk (Nat.le_add_right c 768) (Nat.le_mul_of_pos_right _ (Nat.two_pow_pos _))
  ·refine zk (Ue a r _) ?_;rw[Nat.pow_succ,Nat.mul_comm (2^r) 2,<-Nat.mul_assoc];exact zp _ (by omega)
theorem afz(o n:Nat)(h:o<n):(o+768)*2^4<=16*n+16*768:=by omega
theorem Uf(a b:Nat)(h:b<a:=by omega):vf a b<=16*a+16*768:=by
 unfold vf;split
 ·omega
 ·split
  ·omega
  ·exact zk (Ue a 4 b) (afz _ _ h)
section
variable {C:Ctx} {t t2 e k:Nat} {z:aV} {by_:Nat} {α:Type} {h:Heap} {p:aA} {s v:Sl} {f:α->aV} {l l2:List α}
theorem fq{P:Program}{K:Array Value->Heap->Prop}(q:∀x,(f x).length=k)(g:Seq h p v k f l)(t:K (l.flatMap f).toArray h):
  ae P (wK k v.len (.slice v.ptr v.len v.cap)) h K:=by
 cases hp:v.ptr with
 |none=>
  have:l=[]:=by
   cases l with
   |nil=>rfl
   |cons x r=>obtain⟨b,o,c,_⟩:=g.elem 0 x (by simp);rw[hp]at c;cases c
  subst this;exact ae.pure' t
 |some a=>
  refine Lv (by rw[cF q,<-g.len]) ?_ t;cases l with
  |nil=>trivial
  |cons s r0=>
   obtain⟨b,o,c,_,_⟩:=g.elem 0 s (by simp);rw[hp]at c;cases c;have j:∀(r:List α) (n:Nat),(∀i x,r[i]?=some x->al h ⟨b,o+(n+i)*k,none⟩ 0 (f x))->al h ⟨b,o,none⟩ (n*k) (r.flatMap f):=by
    intro r
    induction r with
    |nil=>intro n _;trivial
    |cons x r ih=>
     intro n w;have h0:=w 0 x (by simp);have e:=ih (n+1) (fun i y z=>by have:=w (i+1) y (by simpa using z);rw[show n+1+i=n+(i+1)by omega];exact this);rw[zq];have app:∀(us vs:aV) (i:Nat),al h ⟨b,o,none⟩ i us->al h ⟨b,o,none⟩ (i+us.length) vs->al h ⟨b,o,none⟩ i (us++vs):=by
      intro us
      induction us with
      |nil=>intro vs i _ e;simpa using e
      |cons u us ih=>intro vs i c e;exact⟨c.1,ih vs (i+1) c.2 (by rw[show i+1+us.length=i+(us.length+1)by omega];exact e)⟩
     refine app _ _ _ ?_ (by rw[q,<-zK];exact e);have d:∀(us:aV) (i m:Nat),al h ⟨b,o+m,none⟩ i us->al h ⟨b,o,none⟩ (m+i) us:=by
      intro us
      induction us with
      |nil=>intros;trivial
      |cons u us ih=>
       intro i m c;refine⟨?_,ih (i+1) m c.2⟩;have:=c.1;rw[add_eq]at this⊢;rw[<-yy];exact this
     have:=d (f x) 0 ((n+0)*k) h0;simpa using this
   have:=j (s::r0) 0 (fun i x A=>by
    obtain⟨B,D,c,_,h3⟩:=g.elem i x A;rw[hp]at c;cases c;simpa using h3)
   simpa using this
theorem UY(A:C.Ok)(I:bN C.toBq t e k z by_)(Y:∃i e2,C.T.get t2=some i/\i.cu=.slice e2)(hz:z.length=k)(F:0<by_/\by_<=128)(m:∀x,(f x).length=k)
  (w:Own h e s k f l) (G:Seq h p v k f l2) (q:∀x,∀c∈f x,c.oneCell'=true) (ah:l.length+l2.length<=2^32) {ty:Nat} {K:Sl->Heap->Prop}
  (M:∀N h',Own h' e N k f (l++l2)->aR (fun b=>¬s.on b) h h'->(∀b,N.on b->s.on b∨h.size<=b)->K N h'):
  aw C.P (qq #[t,t2] ty #[.slice s.ptr s.len s.cap,.slice v.ptr v.len v.cap]) (.one (.sc .slc)) h K:=by
 obtain⟨i2,e2,Z,U⟩:=Y;have B:C.P.underlying t2=some (.slice e2):=by have:=A.cu Z;rw[U]at this;exact hG this
 obtain⟨J,y,x2,x3,zv,V,x5⟩:=I.info A;unfold aw qq;simp only[zL,w9,qz];refine ae.bind (ae.always (aI (I.under A)) ?_);refine ae.bind (ae.always (I.size A) ?_);refine ae.bind (ae.always (aI B) ?_);refine ae.bind (ae.pure' ?_);simp only[Bool.false_eq_true,if_false,Bool.not_false,if_true];refine ae.bind (ae.pure' ?_);have r:=w.len;have L:=G.len;by_cases g:s.len+v.len<=s.cap
 ·rw[if_pos g];refine ae.bind (fq m G ?_);rcases w.head with⟨p1,p2,p3⟩|⟨b,rest,p1,p2,p3,p4⟩
  ·rw[p1];have D:l2=[]:=qT (by omega);subst D;refine ae.pure' ⟨⟨none,s.len+v.len,s.cap⟩,rfl,M _ _ ⟨?_,.inl ⟨rfl,p2,by simp[p3]⟩⟩ (aR.refl _ _) ?_⟩
   ·simp;omega
   ·rintro R ⟨o,d⟩;cases d
  ·rw[p1];refine ae.bind ?_;rw[add_eq,zX];have j:=cF m l;have a:=cF m l2;have O:(l2.flatMap f).length<=rest.length:=by
    rw[a,p3];exact zp k (by omega)
   refine db (e:=e) (pre:=l.flatMap f) (old:=rest.take (l2.flatMap f).length) (post:=rest.drop (l2.flatMap f).length) ?_ ?_ ?_ ?_ ?_
   ·rw[qo,qx];exact p2
   ·rw[qM];exact wO O
   ·rw[j,r];omega
   ·intro c X;obtain⟨x,_,E⟩:=zQ.1 X;exact q x c E
   ·refine ae.pure' ⟨⟨some ⟨b,0,none⟩,s.len+v.len,s.cap⟩,rfl,M _ _ ⟨?_,.inr ⟨b,rest.drop (l2.flatMap f).length,rfl,?_,?_,g⟩⟩ ?_ ?_⟩
    ·simp;omega
    ·rw[fA p2,if_pos rfl];simp
    ·rw[qZ,p3,a,<-Nat.sub_mul];show(s.cap-s.len-l2.length)*k=(s.cap-(s.len+v.len))*k;congr 1;omega
    ·exact aR.gx p2 (fun hn=>hn ⟨0,p1⟩)
    ·rintro R ⟨o,d⟩;cases d;exact .inl ⟨0,p1⟩
 ·rw[if_neg g];have u:Seq h (fun _=>True) s k f l:=w.seq m (fun _ _=>trivial);have S:=w.cap;refine ae.bind (ae.always (cN y) ?_);rw[if_neg (fun W=>by rcases W.2 with h|h<;>first|exact h|(rw[x3]at h;omega))];refine ae.bind (ae.always (cN y) ?_);have ad:=Uf (s.len+v.len) s.cap;rw[if_neg (by
   have:vf (s.len+v.len) s.cap*J.bytes<=(16*2^32+16*768)*128:=zJ (by omega) (by rw[x3];exact F.2);omega)]
  refine ae.bind (ae.Lr ⟨fun hf=>(by cases hf),fun _ nn=>?_⟩);refine ae.bind (ae.always (cN y) ?_);refine ae.bind (ae.Ip ?_);refine ae.bind (fq m u ?_);refine ae.bind (fq m G ?_);have Q:aJ C.P (zeroValue e) zv:=(cN y).bind (by rw[V];exact .pure);refine ae.bind (ae.always Q ?_);rw[x5,EN];unfold newRow;refine ae.bind (ae.bind (ae.pS (ae.pure' (ae.pure' ?_))));generalize H:Question.cut (Question.appendCap (s.len+v.len) s.cap e) nn=cc;have n:s.len+v.len<=cc:=by rw[<-H];simp only[Question.cut];omega
  refine⟨⟨some ⟨h.size,0,none⟩,s.len+v.len,cc⟩,rfl,M _ _ ⟨?_,.inr ⟨h.size,hO z (cc-(s.len+v.len)),rfl,?_,?_,n⟩⟩ (aR.push _ _ _) ?_⟩
  ·simp;omega
  ·simp
  ·rw[nJ,hz]
  ·rintro R ⟨o,d⟩;cases d;exact .inr (ql _)
end
structure bZ (h:Heap) (a:Addr) (e:TypeId) (cs:aV):Prop where
 off:a.off=0
 spot:a.spot=none
 fp:h[a.block]?=some (.cells cs.toArray e (0,0))
section
variable {h h':Heap} {a:Addr} {e:TypeId} {cs:aV} {p:aA}
theorem bZ.addr(c:bZ h a e cs):a=⟨a.block,0,none⟩:=by
 obtain⟨b,o,s⟩:=a;have:=c.off;have:=c.spot
 simp_all
theorem bZ.ag(b:bZ h a e cs)(c:aR p h h')(d:p a.block):bZ h' a e cs:=⟨b.off,b.spot,c.block d b.fp⟩
theorem bZ.lt(b:bZ h a e cs):a.block<h.size:=lt_of_block b.fp
theorem bZ.cell(b:bZ h a e cs){j:Nat}{v:Value}(c:cs[j]?=some v):cellOf h (a.add j)=some v:=by
 rw[b.addr,add_eq,Cv b.fp];simpa using c
theorem bZ.cell0(c:bZ h a e cs){v:Value}(b:cs[0]?=some v):cellOf h a=some v:=c.cell (j:=0) b
theorem bZ.cells(c:bZ h a e cs)(j:Nat)(vs:aV)(d:(cs.drop j).take vs.length=vs):al h (a.add j) 0 vs:=by
 rw[c.addr,add_eq,zX];have b:vs.length<=(cs.drop j).length:=by
  have:=congrArg List.length d;rw[qM]at this;omega
 rcases Nat.lt_or_ge cs.length j with hj|hj
 ·rw[qZ]at b;have:vs=[]:=qT (by omega);subst this;trivial
 ·refine ru (e:=e) (fr:=(0,0)) (pre:=cs.take j) (post:=(cs.drop j).drop vs.length) ?_ (by simp;omega);have:cs.take j++vs++(cs.drop j).drop vs.length=cs:=by
   conv=>lhs;rw[qo];arg 2;arg 1;rw[<-d]
   rw[qx,qx]
  rw[this];exact c.fp
theorem bZ.aF(c:bZ h a e cs)(vs:aV)(b:cs.take vs.length=vs):al h a 0 vs:=c.cells 0 vs b
end
section
variable {C:Ctx} {t:Nat} {i:TI} {h:Heap}
theorem Ac(e:C.Ok)(f:C.T.get t=some i){K:Addr->Heap->Prop}(d:∀a h',a.block=h.size->bZ h' a t i.zero->aR (fun _=>True) h h'->h'.size=h.size+1->K a h'):
  aO C.P (qP t true (.tuple #[])) h K:=by
 obtain⟨z,c,b⟩:=rp e.toOk f;unfold aO qP;refine ae.bind (ae.always c ?_);refine ae.bind (ae.bind (ae.bind (ae.pS (ae.pure' (ae.pure' (ae.pure' ?_))))));refine⟨⟨h.size,0,none⟩,rfl,d _ _ rfl ⟨rfl,rfl,?_⟩ (aR.push _ _ _) (by simp)⟩;rw[<-b];simp
theorem Ug{v:Value}{P:Program}{K:Addr->Heap->Prop}(b:∀a h',a.block=h.size->bZ h' a t v.cells.toList->aR (fun _=>True) h h'->h'.size=h.size+1->K a h'):
  aO P (qH t v) h K:=by
 unfold aO qH;refine ae.bind (ae.bind (ae.bind (ae.pS (ae.pure' (ae.pure' (ae.pure' ?_))))));refine⟨⟨h.size,0,none⟩,rfl,b _ _ rfl ⟨rfl,rfl,?_⟩ (aR.push _ _ _) (by simp)⟩;simp
theorem run_store(j:C.Ok){a:Addr}{e:TypeId}{b:aV}(c:bZ h a e b)(l:C.T.get t=some i)(off:Nat){v:Value}(vs:aV)(k:v.cells=vs.toArray)(f:i.size=vs.length)
  (d:vs.all (·.oneCell')=true) (g:off+vs.length<=b.length) {K:Unit->Heap->Prop}
  (o:∀h',bZ h' a e (b.take off++vs++b.drop (off+vs.length))->aR (·≠a.block) h h'->h'.size=h.size->K () h'):
  ae C.P (qf t (.pointer (some (a.add off))) v) h K:=by
 have n:=c.addr;unfold qf;refine ae.bind (ae.pure' ?_);unfold storeVar;refine ae.bind (ae.always (cY j.toOk l) ?_);rw[k,f];simp only[wF,ne_eq,not_true,if_false];rw[n,add_eq,zX];refine db (e:=e) (pre:=b.take off) (old:=(b.drop off).take vs.length) (post:=b.drop (off+vs.length)) ?_ ?_ ?_ ?_ ?_
 ·have:b.take off++(b.drop off).take vs.length++b.drop (off+vs.length)=b:=by
   rw[<-zB,qo,qx,qx]
  rw[this];exact c.fp
 ·simp;omega
 ·simp;omega
 ·intro x m;have:=qN.1 d x m;exact this
 ·refine o _ ⟨c.off,c.spot,?_⟩ (aR.gx c.fp (by simp)) (by simp[gx]);rw[fA c.fp,if_pos rfl]
theorem tz(j:C.Ok){a:Addr}{e:TypeId}{d:aV}(k:bZ h a e d)(m:C.T.get t=some i){v:Value}(vs:aV)(l:v.cells=vs.toArray)(c:i.size=vs.length)
  (b:vs.all (·.oneCell')=true) (f:vs.length<=d.length) {K:Unit->Heap->Prop}
  (g:∀h',bZ h' a e (vs++d.drop vs.length)->aR (·≠a.block) h h'->h'.size=h.size->K () h'):
  ae C.P (qf t (.pointer (some a)) v) h K:=
 run_store j k m 0 vs l c b (by omega) (fun h' x y z=>g h' (by simpa using x) y z)
end
section
variable {C:Ctx} {t e k:Nat} {z:aV} {by_:Nat} {α:Type} {h:Heap} {p:aA} {s v:Sl} {f:α->aV} {l l2:List α}
theorem EO{a:α}(b:f a=z):∀n,hO z n=(qg n a).flatMap f
 |0=>rfl
 |n+1=>by rw[hO,List.replicate_succ,zq,b,EO b n]
theorem aj(x:Int)(c:-9223372036854775808<=x:=by omega)(b:x<=9223372036854775807:=by omega):qc xq x=x:=by
 show(if(true&&decide (x%2^64>=2^63))=true then x%2^64-2^64 else x%2^64)=x;by_cases a:x%2^64>=2^63
 ·rw[if_pos (by rw[zU];exact decide_eq_true a)];omega
 ·rw[if_neg (by rw[zU];exact fun h=>a (of_decide_eq_true h))];omega
theorem run_make(q:C.Ok)(s:bN C.toBq t e k z by_)(r:0<by_/\by_<=128)(l:α)(B:f l=z)(d:z.length=k){F L:IntKind}{n c:Int}(m b:Nat)(I:n=m)(G:c=b)(o:m<=b)(w:b<=2^32)
  {K:Sl->Heap->Prop} (J:∀j h',Own h' e j k f (qg m l)->j.ptr=some ⟨h.size,0,none⟩->j.cap=b->aR (fun _=>True) h h'->h'.size=h.size+1->K j h'):
  aw C.P (qB t (.int F n) (.int L c)) (.one (.sc .slc)) h K:=by
 subst I;subst G;obtain⟨u,A,x2,x3,N,D,H⟩:=s.info q;unfold aw qB;refine ae.bind (ae.always (aI (s.under q)) ?_);refine ae.bind (ae.pure' ?_);refine ae.bind (ae.pure' ?_);refine ae.bind (ae.always (cN A) ?_);have E:qc xq (m:Int)=m:=aj _;have M:qc xq (b:Int)=b:=aj _;have O:¬((u.bytes:Int)*(b:Int)>2^48):=by
  rw[x3];have:by_*b<=128*2^32:=zJ r.2 w;have:((by_:Int)*(b:Int))<=((128*2^32:Nat):Int):=by exact_mod_cast this
  omega
 simp only[E,M];rw[if_neg (by simp;omega)];refine ae.bind (ae.Ip ?_);refine ae.bind (ae.always (s.size q) ?_);have y:aJ C.P (zeroValue e) N:=(cN A).bind (by rw[D];exact .pure);have fin:∀g:Array Value,(b*k≠0->g=z.toArray)->ae C.P (do
   let a<-newRow e ((xd (b*k)).map (g[·%g.size]!))
   pure (Value.slice (some a) m b)) h (fun v h'=>∃x:(Rt.one (.sc .slc)).den,v=(Rt.one (.sc .slc)).enc x/\K x h'):=by
  intro g p;have i:((xd (b*k)).map (g[·%g.size]!))=(hO z b).toArray:=by
   by_cases h0:b*k=0
   ·rw[h0];have:hO z b=[]:=qT (by rw[nJ,d,h0]);rw[this];simp
   ·rw[p h0];exact Px z b _ (by rw[d])
  rw[i];refine ae.bind (ae.bind (ae.pS (ae.pure' (ae.pure' ?_))));refine⟨⟨some ⟨h.size,0,none⟩,m,b⟩,rfl,J _ _ ⟨by simp,.inr ⟨h.size,hO z (b-m),rfl,?_,?_,o⟩⟩ rfl rfl (aR.push _ _ _) (by simp)⟩
  ·have:hO z b=(qg m l).flatMap f++hO z (b-m):=by
    rw[EO B,EO B,<-ze,List.replicate_append_replicate];congr 2;omega
   rw[this];simp
  ·rw[nJ,d]
 simp only[qp];by_cases h0:b*k=0
 ·rw[if_pos h0];exact ae.bind (ae.pure' (fin _ (fun h=>absurd h0 h)))
 ·rw[if_neg h0];refine ae.bind (ae.always y ?_);exact ae.bind (ae.pure' (fin _ (fun _=>H)))
theorem Lw(m:C.Ok)(o:bN C.toBq t e k z by_)(g:z.length=k){n:Nat}{parts:Array (Nat×Value)}(l:List α)(A:l.length=n)(u:n*k<=2^20)
  (b:wC (fun i=>some (i*k,k)) (hO z n).toArray parts.toList=some (l.flatMap f).toArray) {K:Sl->Heap->Prop}
  (B:∀p h',Own h' e p k f l->p.ptr=some ⟨h.size,0,none⟩->aR (fun _=>True) h h'->h'.size=h.size+1->K p h'):
  aw C.P (qt t n parts) (.one (.sc .slc)) h K:=by
 obtain⟨w,s,x2,x3,D,r,y⟩:=o.info m;unfold aw qt;refine ae.bind (ae.always (aI (o.under m)) ?_);refine ae.bind (ae.always (o.size m) ?_);rw[if_neg (by omega)];have q:aJ C.P (zeroValue e) D:=(cN s).bind (by rw[r];exact .pure);have fin:∀c:Array Value,(n*k≠0->c=z.toArray)->ae C.P (do
   let some cells:=wC (fun i=>some (i*k,k)) ((xd (n*k)).map (c[·%c.size]!)) parts.toList
    |stuck "buildSlice: a part of the wrong size"
   pure (Value.slice (some (<-newRow e cells)) n n)) h (fun v h'=>∃x:(Rt.one (.sc .slc)).den,v=(Rt.one (.sc .slc)).enc x/\K x h'):=by
  intro c j;have d:((xd (n*k)).map (c[·%c.size]!))=(hO z n).toArray:=by
   by_cases h0:n*k=0
   ·rw[h0];have:hO z n=[]:=qT (by rw[nJ,g,h0]);rw[this];simp
   ·rw[j h0];exact Px z n _ (by rw[g])
  rw[d,b];refine ae.bind (ae.bind (ae.pS (ae.pure' (ae.pure' ?_))));refine⟨⟨some ⟨h.size,0,none⟩,n,n⟩,rfl,B _ _ ⟨A.symm,.inr ⟨h.size,[],rfl,by simp,by simp,ql _⟩⟩ rfl (aR.push _ _ _) (by simp)⟩
 by_cases h0:n*k=0
 ·rw[if_pos h0];exact ae.bind (ae.pure' (fin _ (fun h=>absurd h0 h)))
 ·rw[if_neg h0];refine ae.bind (ae.always q ?_);exact ae.bind (ae.pure' (fin _ (fun _=>y)))
theorem Own.set{i:TI}(z:C.Ok)(r:Own h e s k f l)(p:∀x,(f x).length=k)(B:C.T.get t=some i){x:Int}(n:Nat)(D:x=n)(u:n<l.length){g:Value}(y:α)(A:g.cells=(f y).toArray)(v:i.size=k)
  (m:(f y).all (·.oneCell')=true) {K:Heap->Prop} (G:∀h',Own h' e s k f (l.set n y)->aR (fun b=>¬s.on b) h h'->h'.size=h.size->K h'):
  ∃a:Addr,(s.ptr=some a/\0<=x/\x<((s.len:Nat):Int))/\ae C.P (qf t (.pointer (some (a.add (x.toNat*k)))) g) h fun _ h'=>K h':=by
 subst D;rcases r.head with⟨_,_,h3⟩|⟨b,rest,h1,h2,h3,h4⟩
 ·subst h3;simp at u
 ·refine⟨_,⟨h1,by omega,by rw[r.len];omega⟩,?_⟩;unfold qf;refine ae.bind (ae.pure' ?_);unfold storeVar;refine ae.bind (ae.always (cY z.toOk B) ?_);rw[A,v];have q:=p y;simp only[wF,q,ne_eq,not_true,if_false];rw[add_eq,zX,qp];have d:l=l.take n++l[n]::l.drop (n+1):=by rw[<-qS u,qx]
  have o:l.set n y=l.take n++y::l.drop (n+1):=wy.trans (if_pos u);have j:((l.take n).flatMap f).length=n*k:=by rw[cF p,qM,wO (by omega)]
  refine db (e:=e) (pre:=(l.take n).flatMap f) (old:=f l[n]) (post:=(l.drop (n+1)).flatMap f++rest) ?_ ?_ ?_ ?_ ?_
  ·have:l.flatMap f++rest=(l.take n).flatMap f++f l[n]++((l.drop (n+1)).flatMap f++rest):=by
    have w:=congrArg (List.flatMap f) d;rw[ze,zq]at w;rw[w];simp
   rw[<-this];exact h2
  ·rw[p,p]
  ·rw[j];omega
  ·intro c F;have:=qN.1 m c F;exact this
  ·refine G _ ⟨by rw[zr];exact r.len,.inr ⟨b,rest,h1,?_,h3,h4⟩⟩ (aR.gx h2 (fun E=>E ⟨0,h1⟩)) (by simp[gx]);rw[fA h2,if_pos rfl,o];simp
end
def grow(c:Nat->Nat)(n i:Nat):Nat->Nat:=fun b=>if b<n then c b else i
theorem eN{c:Nat->Nat}{n i b:Nat}(h:b<n):grow c n i b=c b:=if_pos h
theorem nK{c:Nat->Nat}{n i b:Nat}(h:n<=b:=by omega):grow c n i b=i:=if_neg (by omega)
structure cW {α:Type} (h:Heap) (c:Nat->Nat) (i:Nat) (e:TypeId) (s:Sl) (k:Nat) (f:α->aV) (l:List α):Prop where
 own:Own h e s k f l
 ba:∀b,s.on b->c b=i
structure jM (h:Heap) (c:Nat->Nat) (i:Nat) (a:Addr) (e:TypeId) (cs:aV):Prop where
 box:bZ h a e cs
 ba:c a.block=i
structure kI (h0 h:Heap) (c:Nat->Nat):Prop where
 ag:aR (fun b=>b<h0.size) h0 h
 ba:∀b,b<h0.size->c b=0
section
variable {α:Type} {h h' h0:Heap} {c:Nat->Nat} {i j n m:Nat} {e:TypeId} {s:Sl} {k:Nat} {f:α->aV} {l:List α} {a:Addr} {cs:aV}
theorem cW.keep(d:cW h c j e s k f l)(n:aR (fun b=>c b≠i) h h')(g:j≠i):cW h' (grow c h.size m) j e s k f l:=
 ⟨d.own.ag n fun b a=>by rw[d.ba b a];exact g,fun b a=>by rw[eN (d.own.lt a)];exact d.ba b a⟩
theorem jM.keep(d:jM h c j a e cs)(g:aR (fun b=>c b≠i) h h')(f:j≠i):jM h' (grow c h.size m) j a e cs:=
 ⟨d.box.ag g (by rw[d.ba];exact f),by rw[eN d.box.lt];exact d.ba⟩
theorem kI.keep(d:kI h0 h c)(f:aR (fun b=>c b≠i) h h')(e:i≠0):kI h0 h' (grow c h.size m):=
 ⟨d.ag.then f fun b a _=>by rw[d.ba b a];exact e.symm,fun b a=>by rw[eN (qL a d.ag.1)];exact d.ba b a⟩
theorem kI.refl(h:Heap):kI h h (fun _=>0):=⟨aR.refl _ _,fun _ _=>rfl⟩
theorem cW.seq(a:cW h c j e s k f l)(d:∀x,(f x).length=k):Seq h (fun b=>c b=j) s k f l:=a.own.seq d a.ba
theorem cW.UZ(a:cW h c j e s k f l)(g:∀x,(f x).length=k):Seq h (fun b=>b<h.size) s k f l:=a.own.seq g fun _ d=>a.own.lt d
theorem cW.nil(h:Heap)(c:Nat->Nat)(i:Nat)(e:TypeId)(k:Nat)(f:α->aV):cW h c i e ⟨none,0,0⟩ k f []:=⟨Own.nil h e k f,fun b a=>by obtain⟨o,d⟩:=a;cases d⟩
def Py(h:Heap)(c:Nat->Nat)(i:Nat)(s:Sl)(k:Nat)(f:α->aV)(l:List α):Prop:=Seq h (fun b=>b<h.size/\c b=i) s k f l
theorem Py.keep(g:Py h c j s k f l)(e:aR (fun b=>c b≠i) h h')(d:j≠i):Py h' (grow c h.size m) j s k f l:=
 (Seq.ag g (e.mono fun b _ a=>by rw[a.2];exact d)).mono fun b a=>⟨qL a.1 e.1,by rw[eN a.1];exact a.2⟩
theorem Py.new(d:Seq h' (fun b=>h.size<=b/\b<h'.size) s k f l):Py h' (grow c h.size i) i s k f l:=
 Seq.mono d fun b a=>⟨a.2,nK a.1⟩
theorem cW.fresh(g:cW h c i e s k f l)(m:kI h0 h c)(j:i≠0)(n:∀x,(f x).length=k):Seq h (fun b=>h0.size<=b/\b<h.size) s k f l:=
 g.own.seq n fun b a=>⟨vh fun d=>j (by rw[<-g.ba b a,m.ba b d]),g.own.lt a⟩
theorem aR.ba(a:aR (fun _=>True) h h')(c:Nat->Nat)(i:Nat):aR (fun b=>c b≠i) h h':=a.mono fun _ _ _=>trivial
end
section
variable {α:Type} {C:Ctx} {h h' h0:Heap} {c:Nat->Nat} {i:Nat} {e t t2:Nat} {s v:Sl} {k by_:Nat} {f:α->aV} {l l2:List α} {a:Addr} {cs z:aV} {p:aA} {ti:TI}
theorem tC(e:C.Ok)(_:kI h0 h c)(i:Nat)(f:C.T.get t=some ti){K:Addr->Heap->Prop}(d:∀a h',jM h' (grow c h.size i) i a t ti.zero->aR (fun b=>c b≠i) h h'->K a h'):
  aO C.P (qP t true (.tuple #[])) h K:=
 Ac e f fun a h' x y z _=>d a h' ⟨y,by rw[nK]⟩ (z.ba c i)
theorem Pz(P:Program)(_:kI h0 h c)(i:Nat){v:Value}{K:Addr->Heap->Prop}(d:∀a h',jM h' (grow c h.size i) i a t v.cells.toList->aR (fun b=>c b≠i) h h'->K a h'):
  aO P (qH t v) h K:=
 Ug fun a h' x y z _=>d a h' ⟨y,by rw[nK]⟩ (z.ba c i)
theorem jM.store(l:C.Ok)(g:jM h c i a e cs)(n:C.T.get t=some ti)(off:Nat){v:Value}(vs:aV)(m:v.cells=vs.toArray)(k:ti.size=vs.length)
  (d:vs.all (·.oneCell')=true) (f:off+vs.length<=cs.length) {K:Unit->Heap->Prop}
  (p:∀h',jM h' (grow c h.size i) i a e (cs.take off++vs++cs.drop (off+vs.length))->aR (fun b=>c b≠i) h h'->K () h'):
  ae C.P (qf t (.pointer (some (a.add off))) v) h K:=
 run_store l g.box n off vs m k d f fun h' x y z=>p h' ⟨x,by rw[eN g.box.lt];exact g.ba⟩ (y.mono fun b _ j o=>j (by rw[o];exact g.ba))
theorem jM.ja(k:C.Ok)(l:jM h c i a e cs)(n:C.T.get t=some ti){v:Value}(vs:aV)(m:v.cells=vs.toArray)(f:ti.size=vs.length)
  (d:vs.all (·.oneCell')=true) (g:vs.length<=cs.length) {K:Unit->Heap->Prop}
  (j:∀h',jM h' (grow c h.size i) i a e (vs++cs.drop vs.length)->aR (fun b=>c b≠i) h h'->K () h'):
  ae C.P (qf t (.pointer (some a)) v) h K:=
 l.store k n 0 vs m f d (by omega) (fun h' x y=>j h' (by simpa using x) y)
theorem Ad(s:C.Ok)(_:kI h0 h c)(i:Nat)(f:α->aV)(u:bN C.toBq t e k z by_)(j:0<by_/\by_<=128)(g:α)(B:f g=z)(d:z.length=k){v E:IntKind}{n p:Int}(m:Nat)(A:n=m)(w:p=m)(l:m<=2^32)
  {K:Sl->Heap->Prop} (D:∀a h',cW h' (grow c h.size i) i e a k f (qg m g)->aR (fun b=>c b≠i) h h'->K a h'):
  aw C.P (qB t (.int v n) (.int E p)) (.one (.sc .slc)) h K:=
 run_make s u j g B d m m A w (ql _) l fun a h' x y _ z _=>D a h' ⟨x,fun b r=>by obtain⟨o,q⟩:=r;rw[y]at q;cases q;rw[nK (ql _)]⟩ (z.ba c i)
theorem Iv(q:C.Ok)(_:kI h0 h c)(i:Nat)(f:α->aV)(r:bN C.toBq t e k z by_)(g:z.length=k){n:Nat}{parts:Array (Nat×Value)}(l:List α)(s:l.length=n)(j:n*k<=2^20)
  (a:wC (fun i=>some (i*k,k)) (hO z n).toArray parts.toList=some (l.flatMap f).toArray) {K:Sl->Heap->Prop}
  (u:∀d h',cW h' (grow c h.size i) i e d k f l->aR (fun b=>c b≠i) h h'->K d h'):
  aw C.P (qt t n parts) (.one (.sc .slc)) h K:=
 Lw q r g l s j a fun d h' x y z _=>u d h' ⟨x,fun b p=>by obtain⟨o,m⟩:=p;rw[y]at m;cases m;rw[nK (ql _)]⟩ (z.ba c i)
theorem cW.append(u:C.Ok)(d:cW h c i e s k f l)(B:bN C.toBq t e k z by_)(n:∃i e2,C.T.get t2=some i/\i.cu=.slice e2)(D:z.length=k)(m:0<by_/\by_<=128)(r:∀x,(f x).length=k)
  (A:Seq h p v k f l2) (a:∀x,∀c∈f x,c.oneCell'=true) (o:l.length+l2.length<=2^32) {ty:Nat} {K:Sl->Heap->Prop}
  (E:∀g h',cW h' (grow c h.size i) i e g k f (l++l2)->aR (fun b=>c b≠i) h h'->K g h'):
  aw C.P (qq #[t,t2] ty #[.slice s.ptr s.len s.cap,.slice v.ptr v.len v.cap]) (.one (.sc .slc)) h K:=
 UY u B n D m r d.own A a o fun g h' x y w=>E g h' ⟨x,fun b q=>by
  rcases w b q with w|w
  ·rw[eN (d.own.lt w)];exact d.ba b w
  ·exact nK w⟩ (y.mono fun b _ j n=>j (d.ba b n))
theorem cW.set(r:C.Ok)(j:cW h c i e s k f l)(q:∀x,(f x).length=k)(v:C.T.get t=some ti){x:Int}(n:Nat)(A:x=n)(D:n<l.length){d:Value}(y:α)(u:d.cells=(f y).toArray)(o:ti.size=k)
  (g:(f y).all (·.oneCell')=true) {K:Heap->Prop} (E:∀h',cW h' (grow c h.size i) i e s k f (l.set n y)->aR (fun b=>c b≠i) h h'->K h'):
  ∃a:Addr,(s.ptr=some a/\0<=x/\x<((s.len:Nat):Int))/\ae C.P (qf t (.pointer (some (a.add (x.toNat*k)))) d) h fun _ h'=>K h':=
 j.own.set r q v n A D y u o g fun h' z w _=>E h' ⟨z,fun b p=>by rw[eN (j.own.lt p)];exact j.ba b p⟩ (w.mono fun b _ m B=>m (j.ba b B))
end
section
variable {α:Type} {C:Ctx} {h h' h0:Heap} {c:Nat->Nat} {i j n m:Nat} {e t:Nat} {s v:Sl} {k by_:Nat} {f:α->aV} {l l2:List α} {z:aV} {p:aA}
theorem grow_grow{c:Nat->Nat}{n m i:Nat}(h:n<=m):grow (grow c n i) m i=grow c n i:=by
 funext b;unfold grow;split
 ·rfl
 ·rw[if_neg (by omega)]
theorem aR.step(a:aR (fun b=>c b≠i) h h'){d:Heap}(b:aR (fun b=>grow c h.size i b≠i) h' d):aR (fun b=>c b≠i) h d:=
 a.then b fun x e f=>by rw[eN e];exact f
theorem cW.push(G:C.Ok)(o:cW h c i e s k f l)(u:bN C.toBq t e k z by_)(H:z.length=k)(r:0<by_/\by_<=128)(F:∀x,(f x).length=k)
  (g:∀x,∀c∈f x,c.oneCell'=true) (x:α) {parts:Array (Nat×Value)} (a:wC (fun i=>some (i*k,k)) (hO z 1).toArray parts.toList=some ([x].flatMap f).toArray)
  (w:1*k<=2^20) (D:l.length+1<=2^32) {ty:Nat} {K:Sl->Heap->Prop}
  (M:∀n h',cW h' (grow c h.size i) i e n k f (l++[x])->aR (fun b=>c b≠i) h h'->K n h'):
  aw C.P (qt t 1 parts) (.one (.sc .slc)) h fun v j=>aw C.P (qq #[t,t] ty #[.slice s.ptr s.len s.cap,.slice v.ptr v.len v.cap]) (.one (.sc .slc)) j K:=by
 refine Lw G u H [x] rfl w a fun v j J N A _=>?_;have B:aR (fun b=>c b≠i) h j:=A.ba c i;have q:cW j (grow c h.size i) i e s k f l:=⟨o.own.ag A fun _ _=>trivial,fun b E=>by rw[eN (o.own.lt E)];exact o.ba b E⟩
 have d:h.size<=j.size:=A.1;obtain⟨O,Q,I,x2,_⟩:=u.ex;refine q.append G u ⟨O,e,I,x2⟩ H r F (J.seq (p:=fun _=>True) F fun _ _=>trivial) g D fun n L m y=>?_;rw[grow_grow d]at m;exact M n L m (B.step y)
structure rv (h:Heap) (c:Nat->Nat) (top lo:Nat) (e:TypeId) (s:Sl) (k:Nat) (f:α->aV) (ll:List (List α)) (rs:List Sl):Prop where
 own:cW h c top e s 1 bD rs
 len:rs.length=ll.length
 row:∀(i:Nat) r l,rs[i]?=some r->ll[i]?=some l->Seq h (fun b=>b<h.size/\lo<=c b/\c b<lo+ll.length) r k f l
theorem rv.keep{o:List (List α)}{rs:List Sl}{a g:Nat}(p:rv h c a g e s k f o rs)(q:aR (fun b=>c b≠i) h h')(u:a≠i)(v:i<g∨g+o.length<=i):rv h' (grow c h.size m) a g e s k f o rs:=
 ⟨p.own.keep q u,p.len,fun t r l n j=>((p.row t r l n j).ag (q.mono fun b _ d=>by rintro rfl;omega)).mono fun b d=>⟨qL d.1 q.1,by rw[eN d.1];exact d.2⟩⟩
theorem rv.nil(h:Heap)(c:Nat->Nat)(a b:Nat)(e:TypeId)(k:Nat)(f:α->aV):rv h c a b e ⟨none,0,0⟩ k f [] []:=
 ⟨cW.nil _ _ _ _ _ _,rfl,fun i r l h=>by simp at h⟩
theorem kY:∀x,∀c∈bD x,c.oneCell'=true:=by intro x c a;simp only[bD,qG]at a;subst a;rfl
theorem rv.push{j:List (List α)}{rs:List Sl}{a m:Nat}{r:Sl}{x:List α}(H:C.Ok)(u:rv h c a m e s k f j rs)(J:bN C.toBq t e 1 [.slice none 0 0] 24)
  (L:Seq h (fun b=>b<h.size/\c b=m+j.length) r k f x) (E:a<m) (z:j.length+1<=2^32) {ty:Nat} {K:Sl->Heap->Prop}
  (N:∀w h',rv h' (grow c h.size a) a m e w k f (j++[x]) (rs++[r])->aR (fun b=>c b≠a) h h'->K w h'):
  aw C.P (qt t 1 #[(0,.slice r.ptr r.len r.cap)]) (.one (.sc .slc)) h fun v o=>aw C.P (qq #[t,t] ty #[.slice s.ptr s.len s.cap,.slice v.ptr v.len v.cap]) (.one (.sc .slc)) o K:=by
 refine u.own.push H J rfl (by decide) (fun _=>rfl) kY r rfl (by decide) (by rw[u.len];exact z) fun w h' y n=>N w h' ⟨y,by simp[u.len],fun i I F o p=>?_⟩ n;have d:∀{q:aA} {D:Sl} {l:List α},Seq h q D k f l->(∀b,q b->b<h.size/\m<=c b/\c b<m+(j++[x]).length)->Seq h' (fun b=>b<h'.size/\m<=grow c h.size a b/\grow c h.size a b<m+(j++[x]).length) D k f l:=fun M B=>
  (M.ag (n.mono fun b _ g=>by have:=B b g;omega)).mono fun b g=>by
   have:=B b g;rw[eN this.1];exact⟨qL this.1 n.1,this.2⟩
 have G:=u.len;by_cases O:i<j.length
 ·rw[qm (by omega)]at o p;exact d (u.row i I F o p) fun b g=>⟨g.1,g.2.1,by simp;omega⟩
 ·have A:i=j.length:=by
   have:=(qn.1 p).1;simp at this;omega
  subst A;simp at p;rw[<-G]at o;simp at o;subst o;subst p;exact d L fun b g=>⟨g.1,by omega,by simp;omega⟩
theorem rv.fresh{m:List (List α)}{rs:List Sl}{a n:Nat}(g:rv h c a n e s k f m rs)(j:kI h0 h c)(p:a≠0)(t:n≠0):gc h (fun b=>h0.size<=b/\b<h.size) s k f m rs:=
 ⟨g.own.fresh j p fun _=>rfl,g.len,fun i r l u q=>(g.row i r l u q).mono fun b o=>⟨vh fun d=>by have:=j.ba b d;omega,o.1⟩⟩
theorem Own.aef{i:TI}(D:C.Ok)(z:Own h e s k f l)(w:∀x,(f x).length=k)(F:C.T.get t=some i){x:Int}(n B:Nat)(G:x=n)(L:l.length<=n)(p:n<s.cap)(u:B=s.cap){j:Value}(y:α)(E:j.cells=(f y).toArray)(r:i.size=k)
  (o:(f y).all (·.oneCell')=true) {K:Heap->Prop} (M:∀h',Own h' e s k f l->aR (fun b=>¬s.on b) h h'->h'.size=h.size->K h'):
  ∃a:Addr,(s.ptr=some a/\0<=x/\x<((B:Nat):Int))/\ae C.P (qf t (.pointer (some (a.add (x.toNat*k)))) j) h fun _ h'=>K h':=by
 subst G u;rcases z.head with⟨_,h2,h3⟩|⟨b,rest,h1,h2,h3,h4⟩
 ·omega
 ·refine⟨_,⟨h1,by omega,by omega⟩,?_⟩;unfold qf;refine ae.bind (ae.pure' ?_);unfold storeVar;refine ae.bind (ae.always (cY D.toOk F) ?_);rw[E,r];have g:=w y;simp only[wF,g,ne_eq,not_true,if_false];rw[add_eq,zX,qp];have d:=z.len;have m:=cF w l;have A:l.length*k<=n*k:=zp k L;have q:(n+1)*k<=s.cap*k:=zp k p;have v:(s.cap-s.len)*k=s.cap*k-l.length*k:=by rw[Nat.sub_mul,d]
  have J:(n+1)*k=n*k+k:=zK n k;refine db (e:=e) (pre:=l.flatMap f++rest.take (n*k-l.length*k)) (old:=(rest.drop (n*k-l.length*k)).take k) (post:=rest.drop (n*k-l.length*k+k)) ?_ ?_ ?_ ?_ ?_
  ·have:l.flatMap f++rest=l.flatMap f++rest.take (n*k-l.length*k)++(rest.drop (n*k-l.length*k)).take k++rest.drop (n*k-l.length*k+k):=by
    rw[qo,qo,<-zB,qx,qx]
   rw[<-this];exact h2
  ·rw[g,qM,qZ];omega
  ·rw[qw,qM,m];omega
  ·intro c I;have:=qN.1 o c I;exact this
  ·refine M _ ⟨d,.inr ⟨b,rest.take (n*k-l.length*k)++f y++rest.drop (n*k-l.length*k+k),h1,?_,?_,h4⟩⟩ (aR.gx h2 (fun H=>H ⟨0,h1⟩)) (by simp[gx])
   ·rw[fA h2,if_pos rfl];simp
   ·simp only[qw,qM,qZ,g];omega
theorem Own.copy(q:C.Ok)(u:bN C.toBq t e k z by_)(m:∀x,(f x).length=k)(o:Own h e s k f l)(r:Seq h p v k f l2)(a:l2.length=l.length)(i:∀x,∀c∈f x,c.oneCell'=true){y ty:Nat}{K:Int->Heap->Prop}
  (w:∀h',Own h' e s k f l2->aR (fun b=>¬s.on b) h h'->h'.size=h.size->K l2.length h'):
  aw C.P (wz #[t,y] ty #[.slice s.ptr s.len s.cap,.slice v.ptr v.len v.cap]) (.one (.sc (.int .i64))) h K:=by
 unfold aw wz;simp only[zL,w9,qz];refine ae.bind (ae.always (aI (u.under q)) ?_);refine ae.bind (ae.pure' ?_);refine ae.bind (ae.always (u.size q) ?_);have d:=o.len;have g:=r.len;have j:Nat.min v.len s.len=v.len:=wO (by omega);rw[j];refine ae.bind (fq m r ?_);rcases o.head with⟨h1,h2,h3⟩|⟨b,rest,h1,h2,h3,h4⟩
 ·rw[h1];have:l2=[]:=qT (by rw[a,h3];rfl);subst this;refine ae.pure' ⟨0,by simp[goInt,g],w h ⟨by rw[d,h3],.inl ⟨h1,h2,rfl⟩⟩ (aR.refl _ _) rfl⟩
 ·rw[h1];refine ae.bind ?_;refine db (e:=e) (pre:=[]) (old:=l.flatMap f) (post:=rest) (by simpa using h2) (by rw[cF m,cF m,a]) rfl ?_ ?_
  ·intro c A;obtain⟨x,_,n⟩:=zQ.1 A;exact i x c n
  ·refine ae.pure' ⟨_,by rw[goInt,g],w _ ⟨by rw[d,a],.inr ⟨b,rest,h1,?_,h3,h4⟩⟩ (aR.gx h2 (fun B=>B ⟨0,h1⟩)) (by simp[gx])⟩;rw[fA h2,if_pos rfl];simp
end
def OV{α:Type}(x:Int)(v:α):List (Int×α)->List (Int×α)
 |[]=>[(x,v)]
 |(k,u)::t=>if k=x then(k,v)::t else(k,u)::OV x v t
def Cx{α:Type}(x:Int):List (Int×α)->Option α
 |[]=>none
 |(k,u)::t=>if k=x then some u else Cx x t
structure Cy {α:Type} (h:Heap) (r:Nat) (g:α->Value) (kvs:List (Int×α)):Prop where
 ex:∃es clock,h[r]?=some (.map es clock)/\es.toList.map (fun e=>(e.key,e.val))=kvs.map (fun p=>(Value.int .i64 p.1,g p.2))
section
variable {α:Type} {P:Program} {h h':Heap} {r:Nat} {g:α->Value} {kvs:List (Int×α)}
theorem Cy.ag{p:aA}(c:Cy h r g kvs)(f:aR p h h')(d:p r):Cy h' r g kvs:=by
 obtain⟨e,a,i,b⟩:=c.ex;exact⟨e,a,f.block d i,b⟩
theorem Cy.lt(b:Cy h r g kvs):r<h.size:=by
 obtain⟨e,a,c,d⟩:=b.ex;exact lt_of_block c
theorem EP{x:Int}:∀{L:List MapEntry} {kvs:List (Int×α)} {n:Nat},L.map (fun e=>(e.key,e.val))=kvs.map (fun p=>(Value.int .i64 p.1,g p.2))->Cx x kvs=none->
  vP (.int .i64) (xk xq x) L n=some none
 |[],_,_,_,_=>rfl
 |e::L,[],_,h,_=>by simp at h
 |e::L,(k,u)::t,n,h,hg=>by
  simp only[wj,List.cons.injEq,Prod.mk.injEq]at h;obtain⟨⟨b,c⟩,h3⟩:=h;unfold Cx at hg;split at hg
  ·cases hg
  ·rename_i a;have:(x==k)=false:=by simp;exact fun e=>a e.symm
   simp only[vP,Instr.sameNow,b,if_true,this];exact EP h3 hg
theorem EQ{x:Int}{u:α}(v:α)(f:MapEntry->MapEntry)(d:∀e,e.key=Value.int .i64 x->((f e).key,(f e).val)=(Value.int .i64 x,g v)):∀{L:List MapEntry} {kvs:List (Int×α)} {n:Nat},L.map (fun e=>(e.key,e.val))=kvs.map (fun p=>(Value.int .i64 p.1,g p.2))->Cx x kvs=some u->
  ∃j e,vP (.int .i64) (xk xq x) L n=some (some (n+j,g u))/\L[j]?=some e/\e.key=xk xq x/\(L.modify j f).map (fun e=>(e.key,e.val))=(OV x v kvs).map (fun p=>(Value.int .i64 p.1,g p.2))
 |[],[],_,_,hg=>by cases hg
 |e::L,[],_,h,_=>by simp at h
 |[],_::_,_,h,_=>by simp at h
 |e::L,(k,w)::t,n,h,hg=>by
  simp only[wj,List.cons.injEq,Prod.mk.injEq]at h;obtain⟨⟨a,c⟩,h3⟩:=h;unfold Cx at hg;by_cases b:k=x
  ·subst b;rw[if_pos rfl]at hg;cases hg;refine⟨0,e,?_,rfl,a,?_⟩
   ·simp only[vP,Instr.sameNow,a,if_true,beq_self_eq_true,c,yf]
   ·simp only[OV,if_true,List.modify_zero_cons,wj,h3,d e a]
  ·rw[if_neg b]at hg;obtain⟨j,m,o,i,l,q⟩:=EQ v f d (n:=n+1) h3 hg;refine⟨j+1,m,?_,i,l,?_⟩
   ·have:(x==k)=false:=by simp;exact fun e=>b e.symm
    simp only[vP,Instr.sameNow,a,if_true,this];rw[o];congr 3;omega
   ·simp only[OV,b,if_false,List.modify_succ_cons,wj,q,a,c]
theorem PA{a:TypeId}{k:IntKind}{x:Int}{b:Bool}(c:P.underlying a=some (.int k))(n:Nat):aJ P (Instr.checkKey b (n+1) a (.int k x)) ():=by
 unfold Instr.checkKey;exact(aI c).bind .pure
theorem Cy.lookup{t l k:Nat}{i:α}{x:Int}(p:Cy h r g kvs)(s:P.underlying t=some (.map l k))(b:P.underlying l=some (.int .i64))(q:aJ P (zeroValue k) (g i))
  {rt:Rt} {K:rt.den->Heap->Prop} (a:∃d:rt.den,g ((Cx x kvs).getD i)=rt.enc d/\K d h):
  aw P (Instr.lookup t (.map (some r)) (xk xq x) false) rt h K:=by
 obtain⟨v,c,m,f⟩:=p.ex;unfold aw Instr.lookup;refine ae.bind (ae.always (aI s) ?_);refine ae.bind (ae.acS m (fun _ _ _ h=>by cases h) ?_);refine ae.bind (ae.pure' ?_);refine ae.bind (ae.always (PA b 9999) ?_);unfold Instr.findKey;refine ae.bind (ae.bind (ae.always (aI b) ?_));cases hg:Cx x kvs with
 |none=>
  rw[EP f hg];refine ae.pure' ?_;refine ae.bind (ae.always q ?_);refine ae.bind (ae.pure' (ae.pure' ?_));rw[hg]at a;exact a
 |some u=>
  obtain⟨j,e,o,_⟩:=EQ (x:=x) (n:=0) u (fun e=>⟨e.key,g u,e.born⟩) (fun e a=>by simp[a]) f hg;rw[o];refine ae.pure' ?_;refine ae.bind (ae.pure' (ae.pure' ?_));rw[hg]at a;exact a
end
theorem Iw(x n:Int)(b:0<n:=by decide):x%n=if x.tmod n<0 then x.tmod n+n else x.tmod n:=by
 have e:=Int.tmod_lt_of_pos x b;have c:-n<x.tmod n:=Int.lt_tmod_of_pos x b;have d:=Int.tmod_add_mul_tdiv x n;have a:0<=(if x.tmod n<0 then x.tmod n+n else x.tmod n)/\(if x.tmod n<0 then x.tmod n+n else x.tmod n)<n:=by split<;>omega
 have e2:x=(if x.tmod n<0 then x.tmod n+n else x.tmod n)+n*(if x.tmod n<0 then x.tdiv n-1 else x.tdiv n):=by
  split
  ·rw[Int.mul_sub];omega
  ·omega
 conv=>lhs;rw[e2]
 rw[Int.add_mul_emod_self_left];exact Int.emod_eq_of_lt a.1 a.2
theorem aH{α:Type}(l:List α)(k:Nat)(h:k<l.length:=by omega):l.take (k+1)=l.take k++[l[k]]:=List.take_succ_eq_append_getElem h
theorem gJ:∀x,∀c∈aC x,c.oneCell'=true:=by intro x c a;simp only[aC,qG]at a;subst a;rfl
theorem fT:∀x,∀c∈az x,c.oneCell'=true:=by intro x c a;simp only[az,qG]at a;subst a;rfl
theorem up{h c d:Heap}(a:aR (fun b=>b<h.size) h c)(b:aR (fun b=>b<c.size) c d):aR (fun b=>b<h.size) h d:=
 a.then b fun _ e _=>qL e a.1
theorem any{h c:Heap}(a:aR (fun _=>True) h c):aR (fun b=>b<h.size) h c:=a.mono fun _ _ _=>trivial
theorem Seq.up{α:Type}{h h':Heap}{s:Sl}{k:Nat}{f:α->aV}{l:List α}(c:Seq h (fun b=>b<h.size) s k f l)(a:aR (fun b=>b<h.size) h h'):Seq h' (fun b=>b<h'.size) s k f l:=
 (c.ag a).mono fun _ d=>qL d a.1
theorem gc.up{α:Type}{h h':Heap}{s:Sl}{k:Nat}{f:α->aV}{l:List (List α)}{rs:List Sl}(c:gc h (fun b=>b<h.size) s k f l rs)(a:aR (fun b=>b<h.size) h h'):gc h' (fun b=>b<h'.size) s k f l rs:=
 (c.ag a).mono fun _ d=>qL d a.1
theorem Seq.drop{α:Type}{h:Heap}{p:aA}{s:Sl}{w:Nat}{f:α->aV}{l:List α}(c:Seq h p s w f l)(k:Nat)(m:s.len<=s.cap):
  Seq h p ⟨if s.cap=k then s.ptr else s.ptr.map (·.add (k*w)),s.len-k,s.cap-k⟩ w f (l.drop k):=by
 have d:=c.len;refine⟨by simp[d],fun i x a=>?_⟩;rw[wq]at a;obtain⟨b,o,e,j,h3⟩:=c.elem _ x a;have g:=(qn.1 a).1;refine⟨b,o+k*w,?_,j,?_⟩
 ·dsimp only;rw[if_neg (by omega),e,qR,add_eq]
 ·rw[show o+k*w+i*w=o+(k+i)*w by rw[Nat.add_mul];omega];exact h3
theorem Seq.take{α:Type}{h:Heap}{p:aA}{s:Sl}{w:Nat}{f:α->aV}{l:List α}(b:Seq h p s w f l)(k:Nat)(c:k<=l.length):
  Seq h p ⟨s.ptr,k,s.cap⟩ w f (l.take k):=by
 refine⟨by simp;omega,fun i x a=>?_⟩;rw[y0]at a;split at a
 ·exact b.elem i x a
 ·cases a
theorem getD_lt{α:Type}{l:List α}{d:α}{i:Nat}(h:i<l.length:=by omega):l.getD i d=l[i]:=by rw[qe,qd h];rfl
structure HP where
 p:Heap->aA->Prop
 loc:∀{h h':Heap} {q:aA},p h q->aR q h h'->p h' q
 mono:∀{h:Heap} {q q':aA},p h q->(∀b,q b->q' b)->p h q'
def emp:HP:=⟨fun _ _=>True,fun _ _=>trivial,fun _ _=>trivial⟩
def an{α:Type}(e:TypeId)(s:Sl)(k:Nat)(f:α->aV)(l:List α):HP:=
 ⟨fun h q=>Own h e s k f l/\∀b,s.on b->q b,fun a d=>⟨a.1.ag d a.2,a.2⟩,fun a g=>⟨a.1,fun b c=>g b (a.2 b c)⟩⟩
def ar(a:Addr)(e:TypeId)(b:aV):HP:=
 ⟨fun h q=>bZ h a e b/\q a.block,fun x c=>⟨x.1.ag c x.2,x.2⟩,fun x d=>⟨x.1,d _ x.2⟩⟩
def nL{α:Type}(s:Sl)(k:Nat)(f:α->aV)(l:List α):HP:=
 ⟨fun h q=>Seq h q s k f l,fun a b=>a.ag b,fun a c=>a.mono c⟩
def dJ{α:Type}(e:TypeId)(s:Sl)(k:Nat)(f:α->aV)(m:List (List α)):HP:=
 ⟨fun h q=>∃(rs:List Sl) (j:aA),Own h e s 1 bD rs/\(∀b,s.on b->q b/\¬j b)/\(∀b,j b->q b)/\rs.length=m.length/\∀(i:Nat) r l,rs[i]?=some r->m[i]?=some l->Seq h j r k f l,
  fun⟨rs,j,a,b,c,d,e⟩ hp=>⟨rs,j,a.ag hp fun x g=>(b x g).1,b,c,d,fun i r l n o=>(e i r l n o).ag (hp.mono fun x _ g=>c x g)⟩,
  fun⟨rs,j,a,b,c,d,e⟩ hq=>⟨rs,j,a,fun x g=>⟨hq x (b x g).1,(b x g).2⟩,fun x g=>hq x (c x g),d,e⟩⟩
structure aa (B:aA) (h0 h:Heap) (As:List HP):Prop where
 low:∀b,B b->b<h0.size
 ag:aR B h0 h
 ex:∃c:Nat->Nat,(∀b,B b->c b=0)/\∀(i:Nat) (A:HP),As[i]?=some A->A.p h (fun b=>b<h.size/\c b=i+1)
abbrev Sp(a h:Heap)(As:List HP):Prop:=aa (fun b=>b<a.size) a h As
section
variable {B:aA} {h0 h h':Heap} {As Bs:List HP} {A A2 D:HP} {c:Nat->Nat} {i j:Nat}
theorem Sp.refl(h:Heap):Sp h h []:=⟨fun _ h=>h,aR.refl _ _,fun _=>0,fun _ _=>rfl,fun i A a=>by simp at a⟩
theorem aa.le(H:aa B h0 h As):h0.size<=h.size:=H.ag.1
theorem aa.at(H:aa B h0 h As)(i:Nat)(a:As[i]?=some A):A.p h (fun b=>b<h.size):=by
 obtain⟨c,_,e⟩:=H.ex;exact A.mono (e i A a) fun _ d=>d.1
theorem aa.fin(H:aa B h0 h As)(i:Nat)(d:As[i]?=some A):A.p h (fun b=>¬B b/\b<h.size):=by
 obtain⟨c,g,f⟩:=H.ex;exact A.mono (f i A d) fun b e=>⟨fun a=>by have:=g b a;omega,e.1⟩
theorem Sp.fresh(H:Sp h0 h As)(i:Nat)(c:As[i]?=some A):A.p h (fun b=>h0.size<=b/\b<h.size):=
 A.mono (aa.fin H i c) fun b a=>⟨by omega,a.2⟩
theorem aa.comp(H:aa B h0 h As)(R:Sp h h' Bs):aa B h0 h' (As++Bs):=by
 obtain⟨k,g,n,m,q⟩:=H;obtain⟨_,f,j,p,o⟩:=R;have c:=g.1;refine⟨k,g.then f fun b a _=>qL a c,fun b=>if b<h.size then n b else if j b=0 then 0 else As.length+j b,fun b a=>?_,fun i A d=>?_⟩
 ·dsimp only;rw[if_pos (qL (k b a) c)];exact m b a
 ·by_cases l:i<As.length
  ·rw[qm l]at d;refine A.mono (A.loc (q i A d) (f.mono fun b _ a=>a.1)) fun b a=>⟨qL a.1 f.1,?_⟩
   dsimp only;rw[if_pos a.1];exact a.2
  ·rw[qj (by omega)]at d;refine A.mono (o _ A d) fun b a=>⟨a.1,?_⟩
   have:¬b<h.size:=fun e=>by have:=p b e;omega
   dsimp only;rw[if_neg this,if_neg (by omega)];omega
theorem aa.up(H:aa B h0 h As)(R:aR (fun b=>b<h.size) h h'):aa B h0 h' As:=by
 have:=H.comp (Bs:=[]) ⟨fun _ h=>h,R,fun _=>0,fun _ _=>rfl,fun i A a=>by simp at a⟩;simpa using this
theorem Sp.one(R:aR (fun b=>b<h.size) h h')(d:A.p h' (fun b=>h.size<=b/\b<h'.size)):Sp h h' [A]:=by
 refine⟨fun _ h=>h,R,fun b=>if b<h.size then 0 else 1,fun b a=>if_pos a,fun i A2 c=>?_⟩;cases i with
 |succ i=>simp at c
 |zero=>
  simp at c;subst c;exact A.mono d fun b a=>⟨a.2,by dsimp only;rw[if_neg (by omega)]⟩
theorem Sp.zip(R:aR (fun b=>b<h.size) h h'):Sp h h' []:=aa.up (Sp.refl h) R
theorem aa.enter(q:aA)(c:Nat->Nat)(f:∀b,q b->b<h.size)(a:∀(i:Nat) (A:HP),As[i]?=some A->A.p h (fun b=>q b/\c b=i+1)):aa (fun b=>b<h.size/\¬q b) h h As:=by
 classical
 refine⟨fun b d=>d.1,aR.refl _ _,fun b=>if q b then c b else 0,fun b d=>if_neg d.2,fun i A e=>A.mono (a i A e) fun b d=>⟨f b d.1,?_⟩⟩;dsimp only;rw[if_pos d.1];exact d.2
theorem aa.PB(q:aA)(e:∀b,q b->b<h.size)(a:A.p h q):aa (fun b=>b<h.size/\¬q b) h h [A]:=
 .enter q (fun _=>1) e fun i A2 c=>by
  cases i with
  |succ i=>simp at c
  |zero=>simp at c;subst c;exact A.mono a fun b d=>⟨d,rfl⟩
theorem aa.Cz(l:∀b,B b->b<h0.size)(g:aR B h0 h)(z:∀b,B b->c b=0)(a:∀(i:Nat) (A:HP),As[i]?=some A->A.p h (fun b=>b<h.size/\c b=i+1))
  (k:aR (fun b=>¬(b<h.size/\c b=i+1)) h h') (n:D.p h' (fun b=>b<h'.size/\((b<h.size/\c b=i+1)∨h.size<=b))):aa B h0 h' (As.set i D):=by
 refine⟨l,g.then k fun b _ d m=>by have:=z b d;omega,grow c h.size (i+1),fun b d=>?_,fun j A e=>?_⟩
 ·rw[eN (qL (l b d) g.1)];exact z b d
 ·rw[qV]at e;split at e
  ·rename_i f;subst f;split at e
   ·injection e with e
    subst e;refine D.mono n fun b d=>⟨d.1,?_⟩
    rcases d.2 with h1|h1
    ·rw[eN h1.1];exact h1.2
    ·exact nK h1
   ·cases e
  ·rename_i f;refine A.mono (A.loc (a j A e) (k.mono fun b _ d m=>by omega)) fun b d=>⟨qL d.1 k.1,?_⟩
   rw[eN d.1];exact d.2
theorem aa.step(H:aa B h0 h As)(i:Nat)(d:As[i]?=some A)(e:∀q:aA,A.p h q->(∀b,q b->b<h.size)->aR (fun b=>¬q b) h h'/\D.p h' (fun b=>b<h'.size/\(q b∨h.size<=b))):aa B h0 h' (As.set i D):=by
 obtain⟨j,p,c,z,a⟩:=H;obtain⟨k,g⟩:=e _ (a i A d) fun b f=>f.1;exact aa.Cz j p z a k g
theorem aa.ga(H:aa B h0 h As)(i:Nat)(e:As[i]?=some A)(d:∀q:aA,A.p h q->D.p h q):aa B h0 h (As.set i D):=
 H.step i e fun q f a=>⟨aR.refl _ _,D.mono (d q f) fun b c=>⟨a b c,.inl c⟩⟩
theorem aa.merge(H:aa B h0 h As)(i j:Nat)(q:i≠j)(r:As[i]?=some A)(o:As[j]?=some A2)
  (u:∀m l:aA,(∀b,m b->¬l b)->A.p h m->A2.p h l->D.p h (fun b=>m b∨l b)):aa B h0 h ((As.set i D).set j emp):=by
 obtain⟨t,p,c,z,a⟩:=H;refine⟨t,p,fun b=>if c b=j+1 then i+1 else c b,fun b e=>?_,fun k n d=>?_⟩
 ·have:=z b e;dsimp only;rw[if_neg (by omega)];exact this
 ·rw[qV]at d;split at d
  ·split at d
   ·cases d;trivial
   ·cases d
  ·rename_i s;rw[qV]at d;split at d
   ·rename_i g;subst g;split at d
    ·injection d with d
     subst d;refine D.mono (u _ _ (fun b f v=>by omega) (a i A r) (a j A2 o)) fun b e=>?_;rcases e with f|f
     ·exact⟨f.1,by dsimp only;rw[if_neg (by omega)];exact f.2⟩
     ·exact⟨f.1,by dsimp only;rw[if_pos f.2]⟩
    ·cases d
   ·rename_i g;refine n.mono (a k n d) fun b e=>⟨e.1,?_⟩
    dsimp only;rw[if_neg (by omega)];exact e.2
theorem aa.pick(H:aa B h0 h As)(f:Nat->Nat)(k:∀i j,f i=f j->i=j)(l:∀(i:Nat) (A2:HP),Bs[i]?=some A2->As[f i]?=some A2):aa B h0 h Bs:=by
 obtain⟨n,p,c,z,a⟩:=H
 classical
 refine⟨n,p,fun b=>if e:∃i,c b=f i+1 then e.choose+1 else 0,fun b e=>?_,fun i A2 g=>?_⟩
 ·have:=z b e;dsimp only;rw[dif_neg];rintro⟨i,g⟩;omega
 ·refine A2.mono (a _ _ (l i A2 g)) fun b e=>⟨e.1,?_⟩
  have d:∃i,c b=f i+1:=⟨i,e.2⟩
  dsimp only;rw[dif_pos d];have o:=d.choose_spec;have m:=k d.choose i (by omega);rw[m]
theorem aa.take(H:aa B h0 h As)(n:Nat)(a:∀(i:Nat) (A2:HP),Bs[i]?=some A2->As[n+i]?=some A2):aa B h0 h Bs:=H.pick (fun i=>n+i) (fun _ _ h=>by omega) a
end
section
variable {B:aA} {α:Type} {C:Ctx} {h0 h h':Heap} {As:List HP} {i e t t2:Nat} {s v:Sl} {k by_:Nat} {f:α->aV} {l l2:List α} {a:Addr} {cs z:aV} {p:aA} {ti:TI}
theorem aa.own(H:aa B h0 h As)(i:Nat)(a:As[i]?=some (an e s k f l)):Own h e s k f l:=(H.at i a).1
theorem aa.seq(H:aa B h0 h As)(i:Nat)(a:As[i]?=some (an e s k f l))(c:∀x,(f x).length=k):Seq h (fun b=>b<h.size) s k f l:=(H.at i a).1.seq c (H.at i a).2
theorem aa.rd(H:aa B h0 h As)(i:Nat)(a:As[i]?=some (nL s k f l)):Seq h (fun b=>b<h.size) s k f l:=H.at i a
theorem aa.box(H:aa B h0 h As)(i:Nat)(b:As[i]?=some (ar a e cs)):bZ h a e cs:=(H.at i b).1
theorem aa.lp(H:aa B h0 h As)(i:Nat)(r:As[i]?=some (an e s k f l)){β:Type}{n o:Nat}{g:β->aV}{m:List β}(p:aR (fun b=>¬s.on b) h h')(q:Own h' n s o g m):aa B h0 h' (As.set i (an n s o g m)):=
 H.step i r fun _ j d=>⟨p.mono fun b _ a c=>a (j.2 b c),q,fun b a=>⟨qL (d b (j.2 b a)) p.1,.inl (j.2 b a)⟩⟩
theorem aa.nW(H:aa B h0 h As)(i:Nat)(m:As[i]?=some (ar a e cs)){c:aV}(j:aR (fun b=>b≠a.block) h h')(k:bZ h' a e c):aa B h0 h' (As.set i (ar a e c)):=
 H.step i m fun q g f=>⟨j.mono fun b _ l d=>l (by rw[d];exact g.2),k,⟨qL (f _ g.2) j.1,.inl g.2⟩⟩
theorem aa.freeze(H:aa B h0 h As)(i:Nat)(c:As[i]?=some (an e s k f l))(b:∀x,(f x).length=k):aa B h0 h (As.set i (nL s k f l)):=H.ga i c fun _ a=>a.1.seq b a.2
theorem aa.set(m:C.Ok)(H:aa B h0 h As)(i:Nat)(g:As[i]?=some (an e s k f l))(j:∀x,(f x).length=k)(u:C.T.get t=some ti){x:Int}(n:Nat)(p:x=n)(q:n<l.length){b:Value}(y:α)(o:b.cells=(f y).toArray)(d:ti.size=k)
  (c:(f y).all (·.oneCell')=true) {K:Heap->Prop} (r:∀h',aa B h0 h' (As.set i (an e s k f (l.set n y)))->K h'):
  ∃a:Addr,(s.ptr=some a/\0<=x/\x<((s.len:Nat):Int))/\ae C.P (qf t (.pointer (some (a.add (x.toNat*k)))) b) h fun _ h'=>K h':=
 (H.own i g).set m j u n p q y o d c fun h' z w _=>r h' (H.lp i g w z)
theorem aa.push(F:C.Ok)(H:aa B h0 h As)(i:Nat)(G:As[i]?=some (an e s k f l))(J:bN C.toBq t e k z by_)(O:z.length=k)(q:0<by_/\by_<=128)(A:∀x,(f x).length=k)
  (m:∀x,∀c∈f x,c.oneCell'=true) (x:α) {parts:Array (Nat×Value)} (g:wC (fun i=>some (i*k,k)) (hO z 1).toArray parts.toList=some ([x].flatMap f).toArray)
  (r:1*k<=2^20) (u:l.length+1<=2^32) {ty:Nat} {K:Sl->Heap->Prop}
  (Q:∀o h',aa B h0 h' (As.set i (an e o k f (l++[x])))->K o h'):
  aw C.P (qt t 1 parts) (.one (.sc .slc)) h fun v I=>aw C.P (qq #[t,t] ty #[.slice s.ptr s.len s.cap,.slice v.ptr v.len v.cap]) (.one (.sc .slc)) I K:=by
 obtain⟨M,y,c,E,a⟩:=H;have w:=a i _ G;have D:cW h c (i+1) e s k f l:=⟨w.1,fun b j=>(w.2 b j).2⟩
 refine D.push F J O q A m x g r u fun o h' d p=>Q o h' ?_;refine aa.Cz M y E a (p.mono fun b j N L=>N ⟨j,L⟩) ⟨d.own,fun b j=>⟨d.own.lt j,?_⟩⟩;have:=d.ba b j;by_cases n:b<h.size
 ·rw[eN n]at this;exact .inl ⟨n,this⟩
 ·exact .inr (by omega)
theorem aa.append(E:C.Ok)(H:aa B h0 h As)(i:Nat)(G:As[i]?=some (an e s k f l))(I:bN C.toBq t e k z by_)(L:∃i e2,C.T.get t2=some i/\i.cu=.slice e2)(O:z.length=k)(q:0<by_/\by_<=128)(y:∀x,(f x).length=k)
  (F:Seq h p v k f l2) (j:∀x,∀c∈f x,c.oneCell'=true) (r:l.length+l2.length<=2^32) {ty:Nat} {K:Sl->Heap->Prop}
  (Q:∀n h',aa B h0 h' (As.set i (an e n k f (l++l2)))->K n h'):
  aw C.P (qq #[t,t2] ty #[.slice s.ptr s.len s.cap,.slice v.ptr v.len v.cap]) (.one (.sc .slc)) h K:=by
 obtain⟨M,w,c,D,a⟩:=H;have u:=a i _ G;have A:cW h c (i+1) e s k f l:=⟨u.1,fun b g=>(u.2 b g).2⟩
 refine A.append E I L O q y F j r fun n h' d o=>Q n h' ?_;refine aa.Cz M w D a (o.mono fun b g N J=>N ⟨g,J⟩) ⟨d.own,fun b g=>⟨d.own.lt g,?_⟩⟩;have:=d.ba b g;by_cases m:b<h.size
 ·rw[eN m]at this;exact .inl ⟨m,this⟩
 ·exact .inr (by omega)
theorem Lx{h h':Heap}{n:Nat}(i:n=h.size)(d:Own h' e s k f l)(g:s.ptr=some ⟨n,0,none⟩)(c:aR (fun _=>True) h h'):Sp h h' [an e s k f l]:=
 .one (any c) ⟨d,fun b a=>⟨by obtain⟨o,a⟩:=a;rw[g]at a;cases a;omega,d.lt a⟩⟩
theorem aa.make(p:C.Ok)(H:aa B h0 h As)(f:α->aV)(q:bN C.toBq t e k z by_)(i:0<by_/\by_<=128)(d:α)(v:f d=z)(c:z.length=k){r D:IntKind}{n l:Int}(m b:Nat)(u:n=m)(s:l=b)(g:m<=b)(j:b<=2^32)
  {K:Sl->Heap->Prop} (A:∀a h',a.len=m->a.cap=b->aa B h0 h' (As++[an e a k f (qg m d)])->K a h'):
  aw C.P (qB t (.int r n) (.int D l)) (.one (.sc .slc)) h K:=
 run_make p q i d v c m b u s g j fun a h' x y w o _=>A a h' (by rw[x.len];simp) w (H.comp (Lx rfl x y o))
theorem aa.lit(j:C.Ok)(H:aa B h0 h As)(f:α->aV)(m:bN C.toBq t e k z by_)(c:z.length=k){n:Nat}{parts:Array (Nat×Value)}(l:List α)(o:l.length=n)(d:n*k<=2^20)
  (a:wC (fun i=>some (i*k,k)) (hO z n).toArray parts.toList=some (l.flatMap f).toArray) {K:Sl->Heap->Prop}
  (p:∀b h',aa B h0 h' (As++[an e b k f l])->K b h'):
  aw C.P (qt t n parts) (.one (.sc .slc)) h K:=
 Lw j m c l o d a fun b h' x y g _=>p b h' (H.comp (Lx rfl x y g))
theorem Ly{h h':Heap}(d:a.block=h.size)(c:bZ h' a e cs)(b:aR (fun _=>True) h h'):Sp h h' [ar a e cs]:=
 .one (any b) ⟨c,by omega,c.lt⟩
theorem aa.alloc(d:C.Ok)(H:aa B h0 h As)(e:C.T.get t=some ti){K:Addr->Heap->Prop}(c:∀a h',aa B h0 h' (As++[ar a t ti.zero])->K a h'):
  aO C.P (qP t true (.tuple #[])) h K:=
 Ac d e fun a h' x y b _=>c a h' (H.comp (Ly x y b))
theorem aa.boxed(H:aa B h0 h As){P:Program}{v:Value}{K:Addr->Heap->Prop}(c:∀a h',aa B h0 h' (As++[ar a t v.cells.toList])->K a h'):
  aO P (qH t v) h K:=
 Ug fun a h' x y b _=>c a h' (H.comp (Ly x y b))
theorem aa.store(j:C.Ok)(H:aa B h0 h As)(i:Nat)(f:As[i]?=some (ar a e cs))(k:C.T.get t=some ti)(off:Nat){v:Value}(vs:aV)(l:v.cells=vs.toArray)(d:ti.size=vs.length)
  (c:vs.all (·.oneCell')=true) (b:off+vs.length<=cs.length) {K:Unit->Heap->Prop}
  (g:∀h',aa B h0 h' (As.set i (ar a e (cs.take off++vs++cs.drop (off+vs.length))))->K () h'):
  ae C.P (qf t (.pointer (some (a.add off))) v) h K:=
 run_store j (H.box i f) k off vs l d c b fun h' x y _=>g h' (H.nW i f y x)
theorem aa.ja(g:C.Ok)(H:aa B h0 h As)(i:Nat)(l:As[i]?=some (ar a e cs))(j:C.T.get t=some ti){v:Value}(vs:aV)(k:v.cells=vs.toArray)(c:ti.size=vs.length)
  (b:vs.all (·.oneCell')=true) (d:vs.length<=cs.length) {K:Unit->Heap->Prop}
  (f:∀h',aa B h0 h' (As.set i (ar a e (vs++cs.drop vs.length)))->K () h'):
  ae C.P (qf t (.pointer (some a)) v) h K:=
 H.store g i l j 0 vs k c b (by omega) (fun h' x=>f h' (by simpa using x))
theorem aa.copy(j:C.Ok)(H:aa B h0 h As)(i:Nat)(d:As[i]?=some (an e s k f l))(o:bN C.toBq t e k z by_)(m:∀x,(f x).length=k)(n:Seq h p v k f l2)(a:l2.length=l.length)(b:∀x,∀c∈f x,c.oneCell'=true){ty:Nat}{K:Int->Heap->Prop}
  (g:∀h',aa B h0 h' (As.set i (an e s k f l2))->K l2.length h'):
  aw C.P (wz #[t,t2] ty #[.slice s.ptr s.len s.cap,.slice v.ptr v.len v.cap]) (.one (.sc (.int .i64))) h K:=
 (H.own i d).copy j o m n a b fun h' x y _=>g h' (H.lp i d y x)
theorem aa.aef(q:C.Ok)(H:aa B h0 h As)(i:Nat)(o:As[i]?=some (an e s k f l))(p:∀x,(f x).length=k)(D:C.T.get t=some ti){x:Int}(n g:Nat)(u:x=n)(v:l.length<=n)(d:n<s.cap)(m:g=s.cap){b:Value}(y:α)(r:b.cells=(f y).toArray)(j:ti.size=k)
  (c:(f y).all (·.oneCell')=true) {K:Heap->Prop} (A:∀h',aa B h0 h' (As.set i (an e s k f l))->K h'):
  ∃a:Addr,(s.ptr=some a/\0<=x/\x<((g:Nat):Int))/\ae C.P (qf t (.pointer (some (a.add (x.toNat*k)))) b) h fun _ h'=>K h':=
 (H.own i o).aef q p D n g u v d m y r j c fun h' z w _=>A h' (H.lp i o w z)
theorem aa.nil(H:aa B h0 h As)(e k:Nat)(f:α->aV):aa B h0 h (As++[an e ⟨none,0,0⟩ k f []]):=
 H.comp (.one (aR.refl _ _) ⟨Own.nil h e k f,fun b a=>by obtain⟨o,a⟩:=a;cases a⟩)
theorem aa.CB(H:aa B h0 h As)(e k:Nat)(f:α->aV):aa B h0 h (As++[dJ e ⟨none,0,0⟩ k f []]):=
 H.comp (.one (aR.refl _ _) ⟨[],fun _=>False,Own.nil h e 1 bD,fun b a=>(by obtain⟨o,a⟩:=a;cases a),fun _ a=>a.elim,rfl,fun i r l h=>by simp at h⟩)
theorem aa.nX(hC:C.Ok)(H:aa B h0 h As)(i j:Nat)(y:i≠j){I:List (List α)}{r:Sl}{x:List α}(U:As[i]?=some (dJ e s k f I))(X:As[j]?=some (nL r k f x))(he:bN C.toBq t e 1 [.slice none 0 0] 24)
  (ad:I.length+1<=2^32) {ty:Nat} {K:Sl->Heap->Prop} (hk:∀O h',aa B h0 h' ((As.set j emp).set i (dJ e O k f (I++[x])))->K O h'):
  aw C.P (qt t 1 #[(0,.slice r.ptr r.len r.cap)]) (.one (.sc .slc)) h fun v p=>aw C.P (qq #[t,t] ty #[.slice s.ptr s.len s.cap,.slice v.ptr v.len v.cap]) (.one (.sc .slc)) p K:=by
 have H2:=H.merge i j y U X (D:=⟨fun h q=>∃(rs:List Sl) (g:aA),Own h e s 1 bD rs/\(∀b,s.on b->q b/\¬g b)/\(∀b,g b->q b)/\rs.length=I.length/\(∀(i:Nat) r l,rs[i]?=some r->I[i]?=some l->Seq h g r k f l)/\Seq h g r k f x,
  fun⟨rs,g,a,b,c,d,e,f⟩ hp=>⟨rs,g,a.ag hp fun x n=>(b x n).1,b,c,d,fun i r l p A=>(e i r l p A).ag (hp.mono fun x _ n=>c x n),f.ag (hp.mono fun x _ n=>c x n)⟩,
  fun⟨rs,g,a,b,c,d,e,f⟩ hq=>⟨rs,g,a,fun x n=>⟨hq x (b x n).1,(b x n).2⟩,fun x n=>hq x (c x n),d,e,f⟩⟩)
  (fun g q2 hd hA hB=>by
   obtain⟨rs,q3,a,b,c,d,e'⟩:=hA;refine⟨rs,fun b=>q3 b∨q2 b,a,fun x n=>⟨.inl (b x n).1,fun L=>L.elim (b x n).2 (hd x (b x n).1)⟩,fun x n=>n.elim (fun h=>.inl (c x h)) .inr,d,fun i r l p A=>(e' i r l p A).mono fun _ h=>.inl h,Seq.mono hB fun _ h=>.inr h⟩)
 have u:i<As.length:=(qn.1 U).1;obtain⟨lo,W,c,zz,a⟩:=H2;have ha:=a i _ (by rw[zY (Ne.symm y),zC u]);obtain⟨rs,g,Z,a2,a3,a4,a5,Y⟩:=ha;let T:Nat->Nat:=fun b=> @ite _ (g b) (Classical.propDecidable _) (As.length+2) (c b);have G:∀b,g b->b<h.size/\c b=i+1:=a3;have ho:cW h T (i+1) e s 1 bD rs:=⟨Z,fun b m=>by
  have:=a2 b m;show @ite _ (g b) (Classical.propDecidable _) _ _=_;rw[if_neg this.2];exact this.1.2⟩
 refine ho.push hC he rfl (by decide) (fun _=>rfl) kY r rfl (by decide) (by omega) fun O h' z F=>hk O h' ?_;rw[va _ _ (Ne.symm y)];rw[<-vi (l:=As) (i:=i),va _ _ y];have M:∀b,g b->T b≠i+1:=fun b m=>by
  show @ite _ (g b) (Classical.propDecidable _) _ _≠_;rw[if_pos m];omega
 refine aa.Cz lo W zz a (F.mono fun b m hn hc=>hn ⟨m,?_⟩) ⟨rs++[r],fun b=>g b/\b<h.size,z.own,fun b m=>?_,fun b m=>⟨qL m.2 F.1,.inl ⟨m.2,(G b m.1).2⟩⟩,by simp[a4],fun R r' V p A=>?_⟩
 ·by_cases E:g b
  ·exact(G b E).2
  ·have o:@ite _ (g b) (Classical.propDecidable _) (As.length+2) (c b)=i+1:=hc;rw[if_neg E]at o;exact o
 ·have w:=z.ba b m;by_cases u:b<h.size
  ·rw[eN u]at w;have N:¬g b:=fun E=>M b E w;have o:@ite _ (g b) (Classical.propDecidable _) (As.length+2) (c b)=i+1:=w;rw[if_neg N]at o;exact⟨⟨z.own.lt m,.inl ⟨u,o⟩⟩,fun L=>N L.1⟩
  ·exact⟨⟨z.own.lt m,.inr (by omega)⟩,fun L=>u L.2⟩
 ·have J:∀{S:Sl} {l:List α},Seq h g S k f l->Seq h' (fun b=>g b/\b<h.size) S k f l:=fun hs=>
   (hs.mono (q:=fun b=>g b/\b<h.size) fun b m=>⟨m,(G b m).1⟩).ag (F.mono fun b _ m=>M b m.1)
  by_cases Q:R<rs.length
  ·rw[qm Q]at p;rw[qm (by omega)]at A;exact J (a5 R r' V p A)
  ·have:R=rs.length:=by
    have:=(qn.1 p).1;simp at this;omega
   subst this;simp at p;rw[a4]at A;simp at A;subst p;subst A;exact J Y
theorem aa.rows(H:aa B h0 h As)(i:Nat){g:List (List α)}(m:As[i]?=some (dJ e s k f g)):∃rs,gc h (fun b=>b<h.size) s k f g rs:=by
 obtain⟨rs,p,a,b,c,d,e⟩:=H.at i m;exact⟨rs,a.seq (fun _=>rfl) fun x j=>(b x j).1,d,fun i r l o n=>(e i r l o n).mono c⟩
end
theorem aaj(vs:aV):∀(pre old post:aV),old.length=vs.length->((vs.zipIdx 0).foldl (fun(cs:Array Value) (p:Value×Nat)=>cs.setIfInBounds (pre.length+p.2) p.1) (pre++old++post).toArray)=(pre++vs++post).toArray:=by
 have b:∀(vs pre old post:aV) (k:Nat),old.length=vs.length->pre.length=pre.length->∀n,n+k=pre.length->((vs.zipIdx k).foldl (fun(cs:Array Value) (p:Value×Nat)=>cs.setIfInBounds (n+p.2) p.1) (pre++old++post).toArray)=(pre++vs++post).toArray:=by
  intro vs
  induction vs with
  |nil=>intro pre old post k a _ n _;rw[qT a];rfl
  |cons v vs ih=>
   intro pre old post k a _ n c;cases old with
   |nil=>simp at a
   |cons u old=>
    rw[List.zipIdx_cons,List.foldl_cons];have e:(pre++(u::old)++post).toArray.setIfInBounds (n+k) v=((pre++[v])++old++post).toArray:=by
     rw[c];apply yw;simp
    dsimp only;rw[e,ih (pre++[v]) old post (k+1) (by simpa using a) rfl n (by simp;omega)];simp
 intro pre old post h;exact b vs pre old post 0 h rfl pre.length (by omega)
theorem PC{a:Nat->Option (Nat×Nat)}{i:Nat}{v:Value}{vs pre old post:aV}{rest:List (Nat×Value)}(b:v.cells=vs.toArray)(d:a i=some (pre.length,vs.length))(c:old.length=vs.length):
  wC a (pre++old++post).toArray ((i,v)::rest)=wC a (pre++vs++post).toArray rest:=by
 conv=>lhs;unfold wC
 simp only[d,b];rw[if_neg (by simp;omega)];congr 1;have:=aaj vs pre old post c;simpa using this
section
variable {C:Ctx} {t:Nat} {i:TI} {h:Heap}
theorem uB(e:C.Ok)(m:C.T.get t=some i){l:List (Nat×TypeId)}(j:i.cu=.struct l){c:List (Nat×Nat)}(g:placesOf C.T l=some c){vs:List (Nat×Value)}{cells:Array Value}
  (a:wC (fun n=>c[n]?) i.zero.toArray vs=some cells):aJ C.P (Instr.build t vs.toArray) (.agg cells):=by
 obtain⟨z,q,d⟩:=rp e.toOk m;have b:i.zero.toArray=z.cells:=by rw[<-d]
 have o:=e.cu m;rw[j]at o;obtain⟨r,p,rfl⟩:=oL o;refine q.bind ((aI p).bind ?_);have k:aJ C.P (r.mapM fun f=>(do pure (f.offset,<-sizeOf f.type):Sem (Nat×Nat))) c.toArray:=by
  rw[Array.mapM_eq_mapM_toList];intro w;have:=mV e.toOk g w;rw[map_eq_pure_bind,Sem.run_bind,this];rfl
 refine k.bind ?_;have h:wC (fun n=>c.toArray[n]?) z.cells vs.toArray.toList=some cells:=by
  rw[<-b];simpa using a
 rw[h];exact .pure
end
theorem take_set{α:Type}(l:List α)(n:Nat)(x:α)(h:n<l.length):l.take n++[x]++l.drop (n+1)=l.set n x:=by
 rw[wy,if_pos h];simp
section
variable {B:aA} {C:Ctx} {h0 h h':Heap} {As:List HP} {e t:Nat} {a:Addr} {cs:aV} {ti:TI}
theorem aa.storeAt(g:C.Ok)(H:aa B h0 h As)(i:Nat)(l:As[i]?=some (ar a e cs))(j:C.T.get t=some ti){off:Nat}{v:Value}(k:v.cells=#[v])(d:ti.size=1)
  (c:v.oneCell'=true) (b:off<cs.length) {K:Unit->Heap->Prop}
  (f:∀h',aa B h0 h' (As.set i (ar a e (cs.set off v)))->K () h'):
  ae C.P (qf t (.pointer (some (a.add off))) v) h K:=
 H.store g i l j off [v] k d (by simp[c]) (by simp;omega) fun h' x=>f h' (by rw[<-take_set _ _ _ b];simpa using x)
theorem aa.storeAll(g:C.Ok)(H:aa B h0 h As)(i:Nat)(l:As[i]?=some (ar a e cs))(j:C.T.get t=some ti){v:Value}(vs:aV)(k:v.cells=vs.toArray)(c:ti.size=vs.length)
  (b:vs.all (·.oneCell')=true) (d:vs.length=cs.length) {K:Unit->Heap->Prop}
  (f:∀h',aa B h0 h' (As.set i (ar a e vs))->K () h'):
  ae C.P (qf t (.pointer (some a)) v) h K:=
 H.ja g i l j vs k c b (by omega) fun h' x=>f h' (by rw[zh (by omega),List.append_nil]at x;exact x)
end
theorem kJ(n:Nat)(a:n<=9223372036854775807:=by omega):qc xq (n:Int)=n:=aj _
abbrev Rd{α:Type}(h:Heap)(s:Sl)(k:Nat)(f:α->aV)(l:List α):Prop:=Seq h (fun b=>b<h.size) s k f l
abbrev fo{α:Type}(h:Heap)(s:Sl)(k:Nat)(f:α->aV)(a:List (List α)):Prop:=∃rs,gc h (fun b=>b<h.size) s k f a rs
section
variable {α:Type} {B:aA} {h0 h h':Heap} {As:List HP} {s:Sl} {k e:Nat} {f:α->aV} {l:List α} {ll:List (List α)}
theorem fo.up(a:fo h s k f ll)(c:aR (fun b=>b<h.size) h h'):fo h' s k f ll:=by
 obtain⟨rs,a⟩:=a;exact⟨rs,gc.up a c⟩
theorem fo.len(a:fo h s k f ll):s.len=ll.length:=by obtain⟨rs,a⟩:=a;exact a.Pv
theorem fo.get(b:fo h s k f ll){i:Int}(n:Nat)(g:i=n)(c:n<ll.length){K:Sl->Prop}(d:∀r,Rd h r k f ll[n]->K r):
  ∃a:Addr,(s.ptr=some a/\0<=i/\i<((s.len:Nat):Int))/\∃x:Sl,cellOf h (a.add (i.toNat*1))=some (.slice x.ptr x.len x.cap)/\K x:=by
 obtain⟨rs,b⟩:=b;exact b.get n g c fun r e _=>d r e
theorem Seq.isSome{p:aA}(c:Seq h p s k f l)(a:l≠[]):s.ptr.isNone=false:=by
 cases l with
 |nil=>exact absurd rfl a
 |cons x t=>obtain⟨b,o,d,_⟩:=c.elem 0 x (by simp);rw[d];rfl
theorem Seq.isNil{p:aA}(b:Seq h p s k f l)(a:s.ptr.isNone=true):l=[]:=by
 cases l with
 |nil=>rfl
 |cons x t=>rw[b.isSome (by simp)]at a;cases a
theorem aa.DJ(H:aa B h0 h As)(i:Nat)(a:As[i]?=some (dJ e s k f ll)):fo h s k f ll:=H.rows i a
end
section
variable {B:aA} {h0 h h':Heap} {As Bs:List HP} {A D:HP}
theorem aa.del(H:aa B h0 h As)(i:Nat):aa B h0 h (As.eraseIdx i):=
 H.pick (fun j=>if j<i then j else j+1) (fun a b d=>by split at d<;>split at d<;>omega) fun j A e=>by
  rw[List.getElem?_eraseIdx]at e;split at e
  ·rename_i c;rw[if_pos c];exact e
  ·rename_i c;rw[if_neg c];exact e
theorem aa.call(H:aa B h0 h As)(i:Nat)(y:As[i]?=some A)(q:aA)(I:∀q':aA,A.p h q'->∀b,q b->q' b)(R:aa (fun b=>b<h.size/\¬q b) h h' (D::Bs)):aa B h0 h' (As.set i D++Bs):=by
 classical
 obtain⟨F,v,g,w,G⟩:=H;obtain⟨_,t,j,K,E⟩:=R;have s:=v.1;have z:=(qn.1 y).1;have r:∀b,q b->b<h.size/\g b=i+1:=I _ (G i A y);have x:∀b,B b->b<h.size/\¬q b:=fun b a=>⟨qL (F b a) s,fun n=>by have:=w b a;have:=r b n;omega⟩
 let c:Nat->Nat:=fun b=>if b<h.size/\¬q b then(if g b=i+1 then 0 else g b)else if j b=0 then 0 else if j b=1 then i+1 else As.length+j b-1
 have f:∀b,b<h.size/\¬q b->g b≠i+1->c b=g b:=fun b a L=>by show ite _ _ _=_;rw[if_pos a,if_neg L]
 have e:∀b,j b≠0->c b=if j b=1 then i+1 else As.length+j b-1:=fun b a=>by
  have:¬(b<h.size/\¬q b):=fun n=>a (K b n);show ite _ _ _=_;rw[if_neg this,if_neg a]
 refine⟨F,v.then t fun b _ a=>x b a,c,fun b a=>?_,fun k o d=>?_⟩
 ·have:=w b a;rw[f b (x b a) (by omega)];exact this
 ·by_cases u:k<As.length
  ·rw[qm (by simpa using u),qV]at d;split at d
   ·rename_i l;subst l;injection d with d
    subst d;refine D.mono (E 0 D rfl) fun b a=>⟨a.1,?_⟩
    rw[e b (by omega),if_pos a.2]
   ·rename_i l;have m:∀b,b<h.size/\g b=k+1->b<h.size/\¬q b:=fun b a=>⟨a.1,fun n=>by have:=r b n;omega⟩
    refine o.mono (o.loc (G k o d) (t.mono fun b _ a=>m b a)) fun b a=>⟨qL a.1 t.1,?_⟩
    rw[f b (m b a) (by omega)];exact a.2
  ·rw[qj (by simpa using u)]at d;rw[zr]at d;have J:=E (k-As.length+1) o (by simpa using d);refine o.mono J fun b a=>⟨a.1,?_⟩
   rw[e b (by omega),if_neg (by omega)];omega
end
section
variable {B:aA} {α:Type} {h0 h h':Heap} {As Bs:List HP} {A D:HP} {e k:Nat} {s:Sl} {f:α->aV} {l:List α}
theorem aa.off(H:aa B h0 h As)(i j:Nat)(n:i≠j)(g:As[i]?=some (an e s k f l))(o:As[j]?=some A):A.p h (fun b=>b<h.size/\¬s.on b):=by
 obtain⟨_,_,c,_,a⟩:=H;refine A.mono (a j A o) fun b m=>⟨m.1,fun d=>?_⟩
 have:=(a i _ g).2 b d;omega
theorem aa.base(H:aa B h0 h As)(i:Nat)(g:As[i]?=some (an e s k f l)){b:Nat}(j:B b):¬s.on b:=fun d=>by
 obtain⟨_,_,c,z,a⟩:=H;have:=(a i _ g).2 b d;have:=z b j;omega
theorem aa.PD(H:aa B h0 h (As++[D]))(i:Nat)(k:i<As.length):aa B h0 h (As.set i D):=
 H.pick (fun j=>if j<As.length then(if j=i then As.length else j)else j+1) (fun a b c=>by split at c<;>split at c<;>(try split at c)<;>(try split at c)<;>omega) fun j A f=>by
  have e:j<As.length:=by have:=(qn.1 f).1;simpa using this
  rw[if_pos e];rw[qV]at f;split at f
  ·rename_i d;subst d;rw[if_pos rfl,qj (ql _),zd];exact f
  ·rename_i d;rw[if_neg (fun g=>d g.symm),qm e];exact f
theorem aa.Va(H:aa B h0 h As)(i j:Nat){A2:HP}(n:As[i]?=some A)(m:As[j]?=some A2):aa B h0 h ((As.set i A2).set j A):=by
 have g:=(qn.1 n).1;have l:=(qn.1 m).1;refine H.pick (fun x=>if x=j then i else if x=i then j else x) (fun a b c=>by split at c<;>split at c<;>(try split at c)<;>(try split at c)<;>omega) fun x o d=>?_;rw[qV,qV]at d;by_cases f:j=x
 ·subst f;simp[l]at d;subst d;simpa using n
 ·by_cases k:i=x
  ·subst k;simp[f,g]at d;subst d;rw[if_neg (fun e=>f e.symm),if_pos rfl];exact m
  ·simp[f,k]at d;rw[if_neg (fun e=>f e.symm),if_neg (fun e=>k e.symm)];exact d
end
def bz{α:Type}(e k:Nat)(f:α->aV)(rs:List Sl)(a:List (List α)):List HP:=List.zipWith (fun r l=>an e r k f l) rs a
section
variable {α:Type} {e k:Nat} {f:α->aV} {rs:List Sl} {ll:List (List α)}
theorem rx(h:rs.length=ll.length):(bz e k f rs ll).length=ll.length:=by simp[bz,h]
theorem gU(h:rs.length=ll.length)(i:Nat)(a:i<ll.length):(bz e k f rs ll)[i]?=some (an e (rs[i]'(by omega)) k f ll[i]):=by
 have b:i<rs.length:=by omega
 simp[bz,wY,qd a,qd b]
theorem oN(h:rs.length=ll.length)(r:Sl)(l:List α):bz e k f (rs++[r]) (ll++[l])=bz e k f rs ll++[an e r k f l]:=by
 unfold bz;rw[List.zipWith_append h];rfl
theorem iN(h:rs.length=ll.length)(i:Nat)(r:Sl)(l:List α):(bz e k f rs ll).set i (an e r k f l)=bz e k f (rs.set i r) (ll.set i l):=by
 apply List.ext_getElem?;intro j;simp only[bz,qV,wY,List.length_zipWith];by_cases a:i=j
 ·subst a;by_cases b:i<ll.length
  ·have:i<rs.length:=by omega
   simp[b,this];omega
  ·have:¬i<rs.length:=by omega
   simp[b];omega
 ·simp[a]
theorem PE(h:rs.length=ll.length)(i:Nat)(a:i<ll.length)(l:List α):(bz e k f rs ll).set i (an e (rs[i]'(by omega)) k f l)=bz e k f rs (ll.set i l):=by
 rw[iN h,List.set_getElem_self]
theorem aa.JA{B:aA}{n h:Heap}{s:Sl}{b:Nat}(H:aa B n h (an b s 1 bD rs::bz e k f rs ll))(c:rs.length=ll.length)(j:∀x,(f x).length=k):fo h s k f ll:=by
 refine⟨rs,H.seq 0 rfl (fun _=>rfl),c,fun i r l g a=>?_⟩;have d:i<ll.length:=(qn.1 a).1;have m:=gU (e:=e) (k:=k) (f:=f) c i d;have h3:=H.seq (i+1) (by simpa using m) j;have b:rs[i]'(by omega)=r:=by rw[qd (by omega)]at g;simpa using g
 have e2:ll[i]=l:=by rw[qd d]at a;simpa using a
 rw[b,e2]at h3;exact h3
end
section
variable {α:Type} {h:Heap} {p:aA} {s:Sl} {f:α->aV} {l:List α}
theorem Seq.JB{X:Type}{g:X->Value}(c:Seq h p s 1 f l){i:Int}(n:Nat)(j:i=n)(q:n<l.length)(x:X)(m:f l[n]=[g x]){K:Addr->X->Prop}(r:∀a:Addr,cellOf h (a.add (i.toNat*1))=some (g x)->K a x):
  ∃a:Addr,(s.ptr=some a/\0<=i/\i<((s.len:Nat):Int))/\∃x:X,cellOf h (a.add (i.toNat*1))=some (g x)/\K a x:=by
 subst j;obtain⟨b,o,k,_,h3⟩:=c.elem n l[n] (qd q);rw[m]at h3;have e:=h3.1;rw[add_eq,yf]at e;have d:cellOf h ((⟨b,o,none⟩:Addr).add ((n:Int).toNat*1))=some (g x):=by rw[add_eq];simpa using e
 exact⟨_,⟨k,by omega,by rw[c.len];omega⟩,x,d,r _ d⟩
end
theorem Seq.jN{h:Heap}{p:aA}{s:Sl}{rs:List Sl}(c:Seq h p s 1 bD rs){i:Int}(n:Nat)(f:i=n)(k:n<rs.length){K:Addr->Sl->Prop}
  (l:∀a:Addr,cellOf h (a.add (i.toNat*1))=some (.slice rs[n].ptr rs[n].len rs[n].cap)->p (a.add (i.toNat*1)).block->K a rs[n]):
  ∃a:Addr,(s.ptr=some a/\0<=i/\i<((s.len:Nat):Int))/\∃x:Sl,cellOf h (a.add (i.toNat*1))=some (.slice x.ptr x.len x.cap)/\K a x:=by
 subst f;obtain⟨b,o,g,j,h3⟩:=c.elem n rs[n] (qd k);have e:=h3.1;rw[add_eq,yf]at e;have d:cellOf h ((⟨b,o,none⟩:Addr).add ((n:Int).toNat*1))=some (.slice rs[n].ptr rs[n].len rs[n].cap):=by rw[add_eq];simpa using e
 exact⟨_,⟨g,by omega,by rw[c.len];omega⟩,rs[n],d,l _ d (by rw[add_eq];exact j)⟩
section
variable {B:aA} {α:Type} {h0 h:Heap} {As:List HP} {e k:Nat} {s:Sl} {f:α->aV} {l:List α}
theorem Own.cut(a:Own h e s k f l)(c:∀x,(f x).length=k)(j:Nat)(g:j<=l.length):Own h e ⟨s.ptr,j,s.cap⟩ k f (l.take j):=by
 have d:=a.len;refine⟨by simp;omega,?_⟩;rcases a.head with⟨h1,h2,h3⟩|⟨b,rest,h1,h2,h3,h4⟩
 ·subst h3;exact .inl ⟨h1,h2,by simp⟩
 ·refine .inr ⟨b,(l.drop j).flatMap f++rest,h1,?_,?_,by dsimp only;omega⟩
  ·rw[<-qo,<-ze,qx];exact h2
  ·rw[qw,cF c,qZ,h3,<-Nat.add_mul];dsimp only;congr 1;omega
theorem aa.cut(H:aa B h0 h As)(i:Nat)(d:As[i]?=some (an e s k f l))(b:∀x,(f x).length=k)(j:Nat)(c:j<=l.length):aa B h0 h (As.set i (an e ⟨s.ptr,j,s.cap⟩ k f (l.take j))):=
 H.ga i d fun _ a=>⟨a.1.cut b j c,a.2⟩
end
section
variable {B:aA} {α:Type} {C:Ctx} {h0 h:Heap} {As:List HP} {e t k:Nat} {s:Sl} {f:α->aV} {l:List α} {ti:TI}
theorem Own.PF(v:C.Ok)(q:Own h e s k f l)(p:∀x,(f x).length=k)(z:C.T.get t=some ti){x:Int}{r:Nat}(A:x=l.length)(u:l.length<s.cap)(o:r=s.cap){g:Value}(y:α)(w:g.cells=(f y).toArray)(n:ti.size=k)
  (m:(f y).all (·.oneCell')=true) {K:Heap->Prop} (E:∀h',Own h' e ⟨s.ptr,l.length+1,s.cap⟩ k f (l++[y])->aR (fun b=>¬s.on b) h h'->K h'):
  ∃a:Addr,(s.ptr=some a/\0<=x/\x<((r:Nat):Int))/\ae C.P (qf t (.pointer (some (a.add (x.toNat*k)))) g) h fun _ h'=>K h':=by
 subst A o;have d:=q.len;rcases q.head with⟨_,h2,h3⟩|⟨b,rest,h1,h2,h3,h4⟩
 ·omega
 ·refine⟨_,⟨h1,by omega,by omega⟩,?_⟩;unfold qf;refine ae.bind (ae.pure' ?_);unfold storeVar;refine ae.bind (ae.always (cY v.toOk z) ?_);rw[w,n];have i:=p y;simp only[wF,i,ne_eq,not_true,if_false];rw[add_eq,zX,qp];have j:=cF p l;have F:k<=rest.length:=by
   rw[h3,d];have:=zp k (show 1<=s.cap-l.length by omega);omega
  refine db (e:=e) (pre:=l.flatMap f) (old:=rest.take k) (post:=rest.drop k) ?_ ?_ ?_ ?_ ?_
  ·rw[qo,qx];exact h2
  ·rw[i,qM];omega
  ·rw[j];omega
  ·intro c D;exact qN.1 m c D
  ·refine E _ ⟨by simp,.inr ⟨b,rest.drop k,h1,?_,?_,by dsimp only;omega⟩⟩ (aR.gx h2 (fun B=>B ⟨0,h1⟩))
   ·rw[fA h2,if_pos rfl];simp
   ·rw[qZ,h3,d];dsimp only;rw[Nat.sub_add_eq,Nat.sub_mul (s.cap-l.length) 1 k,Nat.one_mul]
theorem aa.PF(A:C.Ok)(H:aa B h0 h As)(i:Nat)(r:As[i]?=some (an e s k f l))(v:∀x,(f x).length=k)(G:C.T.get t=some ti){x:Int}{u:Nat}(E:x=l.length)(g:l.length<s.cap)(q:u=s.cap){c:Value}(y:α)(D:c.cells=(f y).toArray)(p:ti.size=k)
  (d:(f y).all (·.oneCell')=true) {K:Heap->Prop} (F:∀h',aa B h0 h' (As.set i (an e ⟨s.ptr,l.length+1,s.cap⟩ k f (l++[y])))->K h'):
  ∃a:Addr,(s.ptr=some a/\0<=x/\x<((u:Nat):Int))/\ae C.P (qf t (.pointer (some (a.add (x.toNat*k)))) c) h fun _ h'=>K h':=
 (H.own i r).PF A v G E g q y D p d fun h' z w=>F h' (H.step i r fun _ m o=>⟨w.mono fun b _ j n=>j (m.2 b n),z,fun b j=>⟨qL (o b (m.2 b j)) w.1,.inl (m.2 b j)⟩⟩)
end
section
variable {C:Ctx} {t t2 ty e k:Nat} {z:aV} {by_:Nat} {α:Type} {h h0:Heap} {p B:aA} {s v:Sl} {f:α->aV} {l l2:List α} {As:List HP}
theorem Own.ER(D:C.Ok)(F:bN C.toBq t e k z by_)(o:∀x,(f x).length=k)(q:Own h e s k f l)(E:Seq h p v k f l2)(g:∀x,∀c∈f x,c.oneCell'=true){K:Int->Heap->Prop}
  (B:∀n h',Own h' e s k f (l2.take l.length++l.drop l2.length)->aR (fun b=>¬s.on b) h h'->K n h'):
  aw C.P (wz #[t,t2] ty #[.slice s.ptr s.len s.cap,.slice v.ptr v.len v.cap]) (.one (.sc (.int .i64))) h K:=by
 unfold aw wz;simp only[zL,w9,qz];refine ae.bind (ae.always (aI (F.under D)) ?_);refine ae.bind (ae.pure' ?_);refine ae.bind (ae.always (F.size D) ?_);have a:=q.len;have d:=E.len;obtain⟨m,i⟩:∃m,m=Nat.min v.len s.len:=⟨_,rfl⟩
 rw[<-i];have r:m<=l2.length:=by rw[i,<-d];exact Nat.min_le_left _ _
 have A:m<=l.length:=by rw[i,<-a];exact Nat.min_le_right _ _
 have H:m=min l2.length l.length:=by rw[i,a,d]
 have j:=E.take m r;have G:l2.take l.length++l.drop l2.length=l2.take m++l.drop m:=by
  rcases Nat.le_total l2.length l.length with hh|hh
  ·rw[List.take_of_length_le hh,show m=l2.length by omega,List.take_length]
  ·rw[show m=l.length by omega,zh hh,List.drop_length]
 rw[G]at B;have w:wK k m (.slice v.ptr v.len v.cap)=wK k m (.slice v.ptr m v.cap):=by cases v.ptr<;>rfl
 rw[w];refine ae.bind (fq (v:=⟨v.ptr,m,v.cap⟩) o j ?_);rcases q.head with⟨h1,h2,h3⟩|⟨b,rest,h1,h2,h3,h4⟩
 ·rw[h1];subst h3;have:m=0:=by simpa using A
  subst this;refine ae.pure' ⟨_,rfl,B _ h ?_ (aR.refl _ _)⟩;simpa using q
 ·rw[h1];refine ae.bind ?_;have y:l.flatMap f++rest=(l.take m).flatMap f++((l.drop m).flatMap f++rest):=by
   rw[<-qo,<-ze,qx]
  rw[y]at h2;refine db (e:=e) (pre:=[]) (old:=(l.take m).flatMap f) (post:=(l.drop m).flatMap f++rest) (by simpa using h2) (by rw[cF o,cF o,qM,qM];congr 1;omega) rfl ?_ ?_
  ·intro c I;obtain⟨x,_,u⟩:=zQ.1 I;exact g x c u
  ·refine ae.pure' ⟨_,rfl,B _ _ ⟨by rw[a,qw,qM,qZ];omega,.inr ⟨b,rest,h1,?_,h3,h4⟩⟩ (aR.gx h2 (fun J=>J ⟨0,h1⟩))⟩;rw[fA h2,if_pos rfl,ze];simp
theorem aa.ER(g:C.Ok)(H:aa B h0 h As)(i:Nat)(b:As[i]?=some (an e s k f l))(m:bN C.toBq t e k z by_)(j:∀x,(f x).length=k)(o:Seq h p v k f l2)(a:∀x,∀c∈f x,c.oneCell'=true){K:Int->Heap->Prop}
  (d:∀n h',aa B h0 h' (As.set i (an e s k f (l2.take l.length++l.drop l2.length)))->K n h'):
  aw C.P (wz #[t,t2] ty #[.slice s.ptr s.len s.cap,.slice v.ptr v.len v.cap]) (.one (.sc (.int .i64))) h K:=
 (H.own i b).ER g m j o a fun n h' x y=>d n h' (H.lp i b y x)
end
def Lz(d:Sl)(w i:Nat):Sl:=⟨if d.cap=i*w then d.ptr else d.ptr.map (·.add (i*w*1)),(i+1)*w-i*w,d.cap-i*w⟩
def ES{α:Type}(l:List α)(w i:Nat):List α:=(l.drop (i*w)).take w
theorem Seq.piece{α:Type}{h:Heap}{p:aA}{s:Sl}{f:α->aV}{l:List α}(a:Seq h p s 1 f l)(b:s.len<=s.cap)(w i:Nat)(g:(i+1)*w<=l.length):Seq h p (Lz s w i) 1 f (ES l w i):=by
 have d:=a.drop (i*w) b;have e:(i+1)*w=i*w+w:=zK i w;have c:=d.take w (by rw[qZ];omega);have e2:(i+1)*w-i*w=w:=by omega
 unfold Lz ES;rw[e2];exact c
theorem acY{α:Type}{l:List α}{w i:Nat}(a:(i+1)*w<=l.length):(ES l w i).length=w:=by
 have e:(i+1)*w=i*w+w:=zK i w;simp only[ES,qM,qZ];omega
def HP.sep(A D:HP):HP:=
 ⟨fun h q=>∃i g:aA,(∀b,i b->¬g b)/\(∀b,i b->q b)/\(∀b,g b->q b)/\A.p h i/\D.p h g,
  fun⟨i,g,a,b,c,d,e⟩ hp=>⟨i,g,a,b,c,A.loc d (hp.mono fun x _ f=>b x f),D.loc e (hp.mono fun x _ f=>c x f)⟩,
  fun⟨i,g,a,b,c,d,e⟩ hq=>⟨i,g,a,fun x f=>hq x (b x f),fun x f=>hq x (c x f),d,e⟩⟩
def HP.ex{ι:Type}(F:ι->HP):HP:=⟨fun h q=>∃i,(F i).p h q,fun⟨i,a⟩ hp=>⟨i,(F i).loc a hp⟩,fun⟨i,a⟩ hq=>⟨i,(F i).mono a hq⟩⟩
def HP.pure(P:Prop):HP:=⟨fun _ _=>P,fun a _=>a,fun a _=>a⟩
def HP.and(A:HP)(P:Prop):HP:=⟨fun h q=>A.p h q/\P,fun a b=>⟨A.loc a.1 b,a.2⟩,fun a c=>⟨A.mono a.1 c,a.2⟩⟩
section
variable {B:aA} {h0 h h':Heap} {As Bs:List HP} {A D E:HP} {i j:Nat}
theorem aa.split(H:aa B h0 h As)(i:Nat)(n:As[i]?=some (A.sep D)):aa B h0 h (As.set i A++[D]):=by
 classical
 obtain⟨t,p,c,z,a⟩:=H;obtain⟨x,r,v,o,l,w,u⟩:=a i _ n;have s:=(qn.1 n).1;refine⟨t,p,fun b=>if r b then As.length+1 else c b,fun b e=>?_,fun j X d=>?_⟩
 ·have q:=z b e;dsimp only;rw[if_neg];exact q;intro m;have:=(l b m).2;omega
 ·by_cases g:j<As.length
  ·rw[qm (by simpa using g),qV]at d;split at d
   ·rename_i f;subst f
    first|rw[if_pos g]at d|skip
    injection d with d
    subst d;refine A.mono w fun b e=>⟨(o b e).1,?_⟩
    dsimp only;rw[if_neg (v b e)];exact(o b e).2
   ·rename_i f;refine X.mono (a j X d) fun b e=>⟨e.1,?_⟩
    dsimp only;rw[if_neg];exact e.2;intro m;have:=(l b m).2;omega
  ·rw[qj (by simpa using g)]at d;rw[zr]at d;have k:j=As.length:=by
    have:=(qn.1 d).1;simp at this;omega
   subst k;simp at d;subst d;refine D.mono u fun b e=>⟨(l b e).1,?_⟩
   dsimp only;rw[if_pos e]
theorem aa.join(H:aa B h0 h As)(i j:Nat)(b:i≠j)(k:As[i]?=some A)(e:As[j]?=some D):aa B h0 h ((As.set i (A.sep D)).set j emp):=
 H.merge i j b k e fun l c f g d=>⟨l,c,f,fun _ a=>.inl a,fun _ a=>.inr a,g,d⟩
theorem aa.Vb{ι:Type}{F:ι->HP}(H:aa B h0 h As)(i:Nat)(f:As[i]?=some (HP.ex F)):∃x,aa B h0 h (As.set i (F x)):=by
 obtain⟨g,p,c,z,a⟩:=H;obtain⟨x,e⟩:=a i _ f;refine⟨x,g,p,c,z,fun j X b=>?_⟩;rw[qV]at b;split at b
 ·rename_i d;subst d;split at b
  ·injection b with b;subst b;exact e
  ·cases b
 ·exact a j X b
theorem aa.close'{ι:Type}{F:ι->HP}(H:aa B h0 h As)(i:Nat)(x:ι)(a:As[i]?=some (F x)):aa B h0 h (As.set i (HP.ex F)):=H.ga i a fun _ b=>⟨x,b⟩
theorem aa.fact{P:Prop}(H:aa B h0 h As)(i:Nat)(a:As[i]?=some (A.and P)):P:=(H.at i a).2
theorem aa.abY{P:Prop}(H:aa B h0 h As)(i:Nat)(a:As[i]?=some (A.and P)):aa B h0 h (As.set i A):=H.ga i a fun _ b=>b.1
theorem aa.afA{P:Prop}(H:aa B h0 h As)(i:Nat)(a:As[i]?=some A)(b:P):aa B h0 h (As.set i (A.and P)):=H.ga i a fun _ c=>⟨c,b⟩
theorem aa.cons(H:aa B h0 h As)(i:Nat)(g:As[i]?=some A):aa B h0 h (A::As.set i emp):=by
 obtain⟨l,p,c,z,a⟩:=H;have k:=(qn.1 g).1;refine⟨l,p,fun b=>if c b=i+1 then 1 else if c b=0 then 0 else c b+1,fun b e=>?_,fun j X d=>?_⟩
 ·have:=z b e;dsimp only;rw[if_neg (by omega),if_pos this]
 ·cases j with
  |zero=>
   simp at d;subst d;refine A.mono (a i A g) fun b e=>⟨e.1,by dsimp only;rw[if_pos e.2]⟩
  |succ j=>
   rw[qz,qV]at d;split at d
   ·rename_i f;injection d with d;subst d;trivial
   ·rename_i f;refine X.mono (a j X d) fun b e=>⟨e.1,by dsimp only;rw[if_neg (by omega),if_neg (by omega)];omega⟩
theorem aa.rest(H:aa B h0 h (A::As)):aa B h0 h As:=H.pick (fun j=>j+1) (fun a b h=>by omega) fun j X c=>by simpa using c
end
structure iO (α β:Type) where
 p:Heap->aA->α->β->Prop
 loc:∀{h h':Heap} {q:aA} {a:α} {b:β},p h q a b->aR q h h'->p h' q a b
 mono:∀{h:Heap} {q q':aA} {a:α} {b:β},p h q a b->(∀x,q x->q' x)->p h q' a b
def ft{α:Type}(k:Nat)(f:α->aV):iO Sl (List α):=⟨fun h q s l=>Seq h q s k f l,fun a b=>a.ag b,fun a c=>a.mono c⟩
def sK{α:Type}(k:Nat)(f:α->aV):iO Sl (List α):=⟨fun h q s l=>Seq h q s k f l/\(l=[]->s.ptr=none),fun a b=>⟨a.1.ag b,a.2⟩,fun a c=>⟨a.1.mono c,a.2⟩⟩
def cg{α β:Type}(E:iO α β)(k:Nat)(f:α->aV):iO Sl (List β):=
 ⟨fun h q s ll=>∃rs:List α,Seq h q s k f rs/\rs.length=ll.length/\∀(i:Nat) r l,rs[i]?=some r->ll[i]?=some l->E.p h q r l,
  fun⟨rs,a,b,c⟩ hp=>⟨rs,a.ag hp,b,fun i r l e d=>E.loc (c i r l e d) hp⟩,fun⟨rs,a,b,c⟩ hq=>⟨rs,a.mono hq,b,fun i r l e d=>E.mono (c i r l e d) hq⟩⟩
def aeg{α β:Type}(E:iO α β)(P:α->β->Prop):iO α β:=⟨fun h q a b=>E.p h q a b/\P a b,fun a c=>⟨E.loc a.1 c,a.2⟩,fun a d=>⟨E.mono a.1 d,a.2⟩⟩
def EA{α β:Type}(E:iO α β)(a:α)(b:β):HP:=⟨fun h q=>E.p h q a b,fun x c=>E.loc x c,fun x d=>E.mono x d⟩
abbrev fg{α β:Type}(E:iO α β)(h:Heap)(a:α)(b:β):Prop:=E.p h (fun b=>b<h.size) a b
def dK{α β:Type}(e:TypeId)(s:Sl)(k:Nat)(f:α->aV)(E:iO α β)(m:List β):HP:=
 ⟨fun h q=>∃(rs:List α) (j:aA),Own h e s k f rs/\(∀b,s.on b->q b/\¬j b)/\(∀b,j b->q b)/\rs.length=m.length/\∀(i:Nat) r l,rs[i]?=some r->m[i]?=some l->E.p h j r l,
  fun⟨rs,j,a,b,c,d,e⟩ hp=>⟨rs,j,a.ag hp fun x g=>(b x g).1,b,c,d,fun i r l n o=>E.loc (e i r l n o) (hp.mono fun x _ g=>c x g)⟩,
  fun⟨rs,j,a,b,c,d,e⟩ hq=>⟨rs,j,a,fun x g=>⟨hq x (b x g).1,(b x g).2⟩,fun x g=>hq x (c x g),d,e⟩⟩
section
variable {α β:Type} {E:iO α β} {k:Nat} {f:α->aV} {h h':Heap} {q:aA} {s:Sl} {ll:List β} {a:α} {b:β}
theorem fg.up(x:fg E h a b)(c:aR (fun b=>b<h.size) h h'):fg E h' a b:=E.mono (E.loc x c) fun _ d=>qL d c.1
theorem cg.nC(x:(cg E k f).p h q s ll):∃rs:List α,Seq h q s k f rs/\rs.length=ll.length/\∀(i:Nat) (e:i<rs.length) (d:i<ll.length),E.p h q rs[i] ll[i]:=by
 obtain⟨rs,a,b,c⟩:=x;exact⟨rs,a,b,fun i e d=>c i _ _ (qd e) (qd d)⟩
theorem cg.len(x:(cg E k f).p h q s ll):s.len=ll.length:=by obtain⟨rs,a,b,c⟩:=x;rw[a.len,b]
theorem cg.nil(h:Heap)(q:aA)(a:aP)(c:Nat):(cg E k f).p h q ⟨a,0,c⟩ []:=⟨[],Seq.nil h q c a k f,rfl,fun i r l b=>by simp at b⟩
theorem cg.take(x:(cg E k f).p h q s ll)(n:Nat)(j:n<=ll.length):(cg E k f).p h q ⟨s.ptr,n,s.cap⟩ (ll.take n):=by
 obtain⟨rs,a,b,c⟩:=x;refine⟨rs.take n,a.take n (by omega),by simp[b],fun i r l d e=>?_⟩;rw[y0]at d e;split at d
 ·rename_i g;rw[if_pos g]at e;exact c i r l d e
 ·cases d
theorem cg.drop(x:(cg E k f).p h q s ll)(n:Nat)(g:s.len<=s.cap):(cg E k f).p h q ⟨if s.cap=n then s.ptr else s.ptr.map (·.add (n*k)),s.len-n,s.cap-n⟩ (ll.drop n):=by
 obtain⟨rs,a,b,c⟩:=x;refine⟨rs.drop n,a.drop n g,by simp[b],fun i r l e d=>?_⟩;rw[wq]at e d;exact c _ r l e d
theorem cg.get{X:Type}{g:X->Value}(x:(cg E 1 f).p h q s ll){i:Int}(n:Nat)(d:i=n)(b:n<ll.length)(u:α->X)(e:∀r,f r=[g (u r)]){K:X->Prop}(c:∀r,E.p h q r ll[n]->K (u r)):
  ∃a:Addr,(s.ptr=some a/\0<=i/\i<((s.len:Nat):Int))/\∃x:X,cellOf h (a.add (i.toNat*1))=some (g x)/\K x:=by
 obtain⟨rs,j,k,h3⟩:=cg.nC x;exact j.bt n d (by omega) (u (rs[n]'(by omega))) (e _) (c _ (h3 n (by omega) b))
theorem cg.jN{E:iO Sl β}(x:(cg E 1 bD).p h q s ll){i:Int}(n:Nat)(d:i=n)(b:n<ll.length){K:Sl->Prop}(c:∀r,E.p h q r ll[n]->K r):
  ∃a:Addr,(s.ptr=some a/\0<=i/\i<((s.len:Nat):Int))/\∃x:Sl,cellOf h (a.add (i.toNat*1))=some (.slice x.ptr x.len x.cap)/\K x:=
 cg.get (g:=fun r:Sl=>Value.slice r.ptr r.len r.cap) x n d b id (fun _=>rfl) c
theorem cg.tofo{γ:Type}{d:Nat}{g:γ->aV}{l:List (List γ)}(x:fg (cg (ft d g) 1 bD) h s l):fo h s d g l:=by
 obtain⟨rs,a,b,c⟩:=x;exact⟨rs,a,b,c⟩
theorem cg.impl{α':Type}{e:Type}{E':iO α e}(u:β->e)(g:∀{h q a b},E.p h q a b->E'.p h q a (u b))(x:(cg E k f).p h q s ll):(cg E' k f).p h q s (ll.map u):=by
 obtain⟨rs,a,b,c⟩:=x;refine⟨rs,a,by simp[b],fun i r l j d=>?_⟩;rw[qO]at d;cases h3:ll[i]? with
 |none=>rw[h3]at d;cases d
 |some y=>rw[h3]at d;simp at d;subst d;exact g (c i r y j h3)
end
section
variable {α β:Type} {E:iO α β} {C:Ctx} {k e t:Nat} {f:α->aV} {B:aA} {h0 h h':Heap} {As:List HP} {s:Sl} {ll:List β} {z:aV} {by_:Nat}
theorem aa.Vd(H:aa B h0 h As)(e k:Nat)(f:α->aV)(E:iO α β):aa B h0 h (As++[dK e ⟨none,0,0⟩ k f E []]):=
 H.comp (.one (aR.refl _ _) ⟨[],fun _=>False,Own.nil h e k f,fun b a=>(by obtain⟨o,a⟩:=a;cases a),fun _ a=>a.elim,rfl,fun i r l h=>by simp at h⟩)
theorem aa.MS(H:aa B h0 h As)(i:Nat)(j:As[i]?=some (dK e s k f E ll))(m:∀x,(f x).length=k):fg (cg E k f) h s ll:=by
 obtain⟨rs,p,a,b,c,d,e⟩:=H.at i j;exact⟨rs,a.seq m fun x g=>(b x g).1,d,fun i r l o n=>E.mono (e i r l o n) c⟩
theorem aa.eAt{a:α}{b:β}(H:aa B h0 h As)(i:Nat)(c:As[i]?=some (EA E a b)):fg E h a b:=H.at i c
theorem aa.JC(hC:C.Ok)(H:aa B h0 h As)(i j:Nat)(G:i≠j){a:α}{b:β}(Y:As[i]?=some (dK e s k f E ll))(hj:As[j]?=some (EA E a b))(he:bN C.toBq t e k z by_)(hz:z.length=k)(U:0<by_/\by_<=128)(hw:∀x,(f x).length=k)
  (R:∀x,∀c∈f x,c.oneCell'=true) {parts:Array (Nat×Value)} (M:wC (fun i=>some (i*k,k)) (hO z 1).toArray parts.toList=some ([a].flatMap f).toArray) (V:1*k<=2^20)
  (ad:ll.length+1<=2^32) {ty:Nat} {K:Sl->Heap->Prop} (hk:∀T h',aa B h0 h' ((As.set j emp).set i (dK e T k f E (ll++[b])))->K T h'):
  aw C.P (qt t 1 parts) (.one (.sc .slc)) h fun v u=>aw C.P (qq #[t,t] ty #[.slice s.ptr s.len s.cap,.slice v.ptr v.len v.cap]) (.one (.sc .slc)) u K:=by
 have H2:=H.merge i j G Y hj (D:=⟨fun h q=>∃(rs:List α) (g:aA),Own h e s k f rs/\(∀b,s.on b->q b/\¬g b)/\(∀b,g b->q b)/\rs.length=ll.length/\(∀(i:Nat) r l,rs[i]?=some r->ll[i]?=some l->E.p h g r l)/\E.p h g a b,
  fun⟨rs,g,a,b,c,d,e,f⟩ hp=>⟨rs,g,a.ag hp fun x n=>(b x n).1,b,c,d,fun i r l u A=>E.loc (e i r l u A) (hp.mono fun x _ n=>c x n),E.loc f (hp.mono fun x _ n=>c x n)⟩,
  fun⟨rs,g,a,b,c,d,e,f⟩ hq=>⟨rs,g,a,fun x n=>⟨hq x (b x n).1,(b x n).2⟩,fun x n=>hq x (c x n),d,e,f⟩⟩)
  (fun g q2 hd hA hB=>by
   obtain⟨rs,q3,a,b,c,d,e'⟩:=hA;refine⟨rs,fun b=>q3 b∨q2 b,a,fun x n=>⟨.inl (b x n).1,fun O=>O.elim (b x n).2 (hd x (b x n).1)⟩,fun x n=>n.elim (fun h=>.inl (c x h)) .inr,d,fun i r l u A=>E.mono (e' i r l u A) fun _ h=>.inl h,E.mono hB fun _ h=>.inr h⟩)
 have w:i<As.length:=(qn.1 Y).1;obtain⟨lo,pp,c,zz,ax⟩:=H2;have ha:=ax i _ (by rw[zY (Ne.symm G),zC w]);obtain⟨rs,g,a1,a2,a3,a4,a5,a6⟩:=ha;let c':Nat->Nat:=fun b=> @ite _ (g b) (Classical.propDecidable _) (As.length+2) (c b);have L:∀b,g b->b<h.size/\c b=i+1:=a3;have ho:cW h c' (i+1) e s k f rs:=⟨a1,fun b m=>by
  have:=a2 b m;show @ite _ (g b) (Classical.propDecidable _) _ _=_;rw[if_neg this.2];exact this.1.2⟩
 refine ho.push hC he hz U hw R a M V (by omega) fun T h' I J=>hk T h' ?_;rw[va _ _ (Ne.symm G)];rw[<-vi (l:=As) (i:=i),va _ _ G];have S:∀b,g b->c' b≠i+1:=fun b m=>by
  show @ite _ (g b) (Classical.propDecidable _) _ _≠_;rw[if_pos m];omega
 refine aa.Cz lo pp zz ax (J.mono fun b m hn hc=>hn ⟨m,?_⟩) ⟨rs++[a],fun b=>g b/\b<h.size,I.own,fun b m=>?_,fun b m=>⟨qL m.2 J.1,.inl ⟨m.2,(L b m.1).2⟩⟩,by simp[a4],fun W r' l' u A=>?_⟩
 ·by_cases F:g b
  ·exact(L b F).2
  ·have o:@ite _ (g b) (Classical.propDecidable _) (As.length+2) (c b)=i+1:=hc;rw[if_neg F]at o;exact o
 ·have y:=I.ba b m;by_cases w:b<h.size
  ·rw[eN w]at y;have Q:¬g b:=fun F=>S b F y;have o:@ite _ (g b) (Classical.propDecidable _) (As.length+2) (c b)=i+1:=y;rw[if_neg Q]at o;exact⟨⟨I.own.lt m,.inl ⟨w,o⟩⟩,fun O=>Q O.1⟩
  ·exact⟨⟨I.own.lt m,.inr (by omega)⟩,fun O=>w O.2⟩
 ·have N:∀{Z:α} {l:β},E.p h g Z l->E.p h' (fun b=>g b/\b<h.size) Z l:=fun hs=>
   E.loc (E.mono hs (q':=fun b=>g b/\b<h.size) fun b m=>⟨m,(L b m).1⟩) (J.mono fun b _ m=>S b m.1)
  by_cases X:W<rs.length
  ·rw[qm X]at u;rw[qm (by omega)]at A;exact N (a5 W r' l' u A)
  ·have:W=rs.length:=by
    have:=(qn.1 u).1;simp at this;omega
   subst this;simp at u;rw[a4]at A;simp at A;subst u;subst A;exact N a6
theorem aa.afS{R:TI}(Y:C.Ok)(H:aa B h0 h As)(i j:Nat)(y:i≠j){a:α}{b:β}(Q:As[i]?=some (dK e s k f E ll))(V:As[j]?=some (EA E a b))(U:∀x,(f x).length=k)(ht:C.T.get t=some R){x:Int}(n:Nat)(g:x=n)(hn:n<ll.length){G:Value}(Z:G.cells=(f a).toArray)(M:R.size=k)
  (I:(f a).all (·.oneCell')=true) {K:Heap->Prop} (hk:∀h',aa B h0 h' ((As.set j emp).set i (dK e s k f E (ll.set n b)))->K h'):
  ∃a:Addr,(s.ptr=some a/\0<=x/\x<((s.len:Nat):Int))/\ae C.P (qf t (.pointer (some (a.add (x.toNat*k)))) G) h fun _ h'=>K h':=by
 have H2:=H.merge i j y Q V (D:=⟨fun h q=>∃(rs:List α) (m:aA),Own h e s k f rs/\(∀b,s.on b->q b/\¬m b)/\(∀b,m b->q b)/\rs.length=ll.length/\(∀(i:Nat) r l,rs[i]?=some r->ll[i]?=some l->E.p h m r l)/\E.p h m a b,
  fun⟨rs,m,a,b,c,d,e,f⟩ hp=>⟨rs,m,a.ag hp fun x g=>(b x g).1,b,c,d,fun i r l o v=>E.loc (e i r l o v) (hp.mono fun x _ g=>c x g),E.loc f (hp.mono fun x _ g=>c x g)⟩,
  fun⟨rs,m,a,b,c,d,e,f⟩ hq=>⟨rs,m,a,fun x g=>⟨hq x (b x g).1,(b x g).2⟩,fun x g=>hq x (c x g),d,e,f⟩⟩)
  (fun m q2 hd hA hB=>by
   obtain⟨rs,q3,a,b,c,d,e'⟩:=hA;refine⟨rs,fun b=>q3 b∨q2 b,a,fun x g=>⟨.inl (b x g).1,fun hh=>hh.elim (b x g).2 (hd x (b x g).1)⟩,fun x g=>g.elim (fun h=>.inl (c x h)) .inr,d,fun i r l o v=>E.mono (e' i r l o v) fun _ h=>.inl h,E.mono hB fun _ h=>.inr h⟩)
 have L:i<As.length:=(qn.1 Q).1;obtain⟨lo,S,c,X,ax⟩:=H2;have ha:=ax i _ (by rw[zY (Ne.symm y),zC L]);obtain⟨rs,m,a1,J,a3,a4,a5,W⟩:=ha;refine a1.set Y U ht n g (by omega) a Z M I fun h' z w _=>hk h' ?_;rw[va _ _ (Ne.symm y)];rw[<-vi (l:=As) (i:=i),va _ _ y];have keep:∀{O:α} {l:β},E.p h m O l->E.p h' m O l:=fun hs=>E.loc hs (w.mono fun b _ u A=>(J b A).2 u);refine aa.Cz lo S X ax (w.mono fun b _ u A=>u (J b A).1) ⟨rs.set n a,m,z,fun b u=>⟨⟨qL (J b u).1.1 w.1,.inl (J b u).1⟩,(J b u).2⟩,fun b u=>⟨qL (a3 b u).1 w.1,.inl (a3 b u)⟩,by simp[a4],fun i' r' N o v=>?_⟩;rw[qV]at o v;split at o
 ·rename_i F;rw[if_pos F]at v;split at o
  ·injection o with o;subst o
   have e:N=b:=by
    rw[if_pos (by omega)]at v;exact(zO.inj v).symm
   subst e;exact keep W
  ·cases o
 ·rename_i F;rw[if_neg F]at v;exact keep (a5 i' r' N o v)
end
section
variable {α β:Type} {E:iO α β} {k e:Nat} {f:α->aV} {B:aA} {h0 h:Heap} {As:List HP} {s:Sl}
theorem aa.Ve{α:Type}{f:α->aV}{l:List α}(H:aa B h0 h As)(i:Nat)(c:As[i]?=some (an e s k f l))(b:∀x,(f x).length=k):aa B h0 h (As.set i (EA (ft k f) s l)):=H.ga i c fun _ a=>a.1.seq b a.2
end
section
variable {α:Type} {B:aA} {h0 h:Heap} {As:List HP} {e e2 k:Nat} {s:Sl} {f:α->aV} {rs:List Sl} {ll:List (List α)}
theorem aa.Vf{s:Sl}{a:List (List α)}(H:aa B h0 h As)(i:Nat)(b:As[i]?=some (dJ e s k f a)):aa B h0 h (As.set i (dK e s 1 bD (ft k f) a)):=H.ga i b fun _ c=>c
end
theorem MT{h h':Heap}{p:aA}(a:aR p h h'):∀{L:aq},L.ok h->(∀x∈L,p x.1.block)->L.ok h'
 |[],_,_=>trivial
 |x::L,hk,hq=>⟨a.cell (hq x (by simp)) hk.1,MT a hk.2 fun y b=>hq y (by simp[b])⟩
theorem nY{h h':Heap}(d:aR (fun b=>b<h.size) h h'){L:aq}(c:L.ok h):L.ok h':=MT d c (by
 clear d
 induction L with
 |nil=>intro x a;cases a
 |cons y L ih=>
  intro x a;rcases List.mem_cons.1 a with rfl|a
  ·exact tw c.1
  ·exact ih c.2 x a)
theorem aw.both{P:Program}{s:Sem Value}{h:Heap}{K:Sl->Heap->Prop}{Q:Heap->Prop}(f:aw P s (.one (.sc .slc)) h fun _ h'=>Q h')(i:aw P s (.one (.sc .slc)) h K):aw P s (.one (.sc .slc)) h fun x h'=>Q h'/\K x h':=by
 intro w a;obtain⟨l,j,c,g,k,a3,a4⟩:=f w a;obtain⟨o,n,b,m,x2,e,d⟩:=i w a;rw[c]at b;cases b;exact⟨_,_,c,g,x2,e,a4,d⟩
theorem aa.pW{α:Type}{B:aA}{C:Ctx}{m h:Heap}{As:List HP}{e t k c:Nat}{z:aV}{K:Sl->Heap->Prop}(j:C.Ok)(H:aa B m h As)(f:α->aV)(o:bN C.toBq t e k z c)(b:z.length=k){n:Nat}{parts:Array (Nat×Value)}(l:List α)(r:l.length=n)(d:n*k<=2^20)
  (a:wC (fun i=>some (i*k,k)) (hO z n).toArray parts.toList=some (l.flatMap f).toArray) {L:aq} (g:L.ok h) (q:aw C.P (qt t n parts) (.one (.sc .slc)) h K):
  aw C.P (qt t n parts) (.one (.sc .slc)) h fun x h'=>L.ok h'/\K x h':=
 aw.both ((Sp.refl h).lit j f o b l r d a fun _ _ p=>nY p.ag g) q
section
variable {B:aA} {h0 h h':Heap} {As Bs:List HP} {A D E:HP} {i j:Nat}
theorem aa.front(H:aa B h0 h (As++Bs)):aa B h0 h (Bs++As):=
 H.pick (fun j=>if j<Bs.length then As.length+j else if j<Bs.length+As.length then j-Bs.length else j)
  (fun a b c=>by(try dsimp only at c);split at c<;>split at c<;>(try split at c)<;>(try split at c)<;>omega) fun j X e=>by
  try dsimp only
  split
  ·rename_i d;rw[qm d]at e;rw[qj (by omega),zn];exact e
  ·rename_i d;rw[qj (by omega)]at e;have:=(qn.1 e).1;rw[if_pos (by omega),qm this];exact e
theorem aa.bH(H:aa B h0 h (As++[A])):aa B h0 h (A::As):=H.front
theorem aa.cX(H:aa B h0 h As)(R:Sp h h' [A]):aa B h0 h' (A::As):=(H.comp R).bH
theorem aa.JD(H:aa B h0 h (A::As)):aa B h0 h As:=H.rest
theorem aa.GX(H:aa B h0 h (A::D::As)):aa B h0 h (A::As):=H.del 1
theorem aa.CC{ι:Type}{F:ι->HP}(H:aa B h0 h (HP.ex F::As)):∃x,aa B h0 h (F x::As):=H.Vb 0 rfl
theorem aa.JE{ι:Type}{F:ι->HP}(x:ι)(H:aa B h0 h (F x::As)):aa B h0 h (HP.ex F::As):=H.close' 0 x rfl
theorem aa.ET(H:aa B h0 h (A.sep D::As)):aa B h0 h (D::A::As):=(H.split 0 rfl).bH
theorem aa.oO(H:aa B h0 h (D::A::As)):aa B h0 h (A.sep D::As):=by
 have a:aa B h0 h (emp::A.sep D::As):=H.join 1 0 (by decide) rfl rfl;exact a.rest
theorem aa.uC(H:aa B h0 h (A::D::As)):aa B h0 h (D::A::As):=H.Va 0 1 rfl rfl
end
theorem Seq.nM{h:Heap}{p:aA}{s:Sl}{rs:List Sl}(e:Seq h p s 1 bD rs){i:Int}(n:Nat)(c:i=n)(b:n<rs.length){K:Sl->Prop}(d:K rs[n]):
  ∃a:Addr,(s.ptr=some a/\0<=i/\i<((s.len:Nat):Int))/\∃x:Sl,cellOf h (a.add (i.toNat*1))=some (.slice x.ptr x.len x.cap)/\K x:=
 e.bt (g:=fun r:Sl=>Value.slice r.ptr r.len r.cap) n c b rs[n] rfl d
def St(B:aA)(a:Heap)(As:List HP)(Q:Heap->Prop):Prop:=∀(Bs:List HP) (h':Heap),aa B a h' (Bs++As)->Q h'
section
variable {B:aA} {h0 h h':Heap} {As Bs:List HP} {A:HP} {Q:Heap->Prop}
theorem St.at(x:St B h0 As Q)(Bs:List HP)(H:aa B h0 h (Bs++As)):Q h:=x Bs h H
theorem St.base(b:Q h0)(a:∀h',aR B h0 h'->Q h'):St B h0 As Q:=fun _ _ H=>a _ H.ag
theorem St.kK(j:Nat)(c:As[j]?=some A)(a:∀h',A.p h' (fun b=>b<h'.size)->Q h'):St B h0 As Q:=fun Bs h' H=>a _ (H.at (Bs.length+j) (by rw[qj (by omega),zn];exact c))
theorem St.cons(x:St B h0 As Q):St B h0 (A::As) Q:=fun Bs h' H=>x (Bs++[A]) h' (by rw[qo];exact H)
end
section
variable {β:Type} {E:iO Sl β} {h:Heap} {q:aA} {s:Sl} {ll:List β}
theorem cg.pick(x:(cg E 1 bD).p h q s ll)(n:Nat)(l:n<ll.length){a:Addr}{r:Sl}(k:s.ptr=some a)(j:cellOf h (a.add (n*1))=some (.slice r.ptr r.len r.cap)):E.p h q r ll[n]:=by
 obtain⟨rs,i,v,h3⟩:=cg.nC x;obtain⟨b,o,c,e2,g⟩:=i.elem n (rs[n]'(by omega)) (qd (by omega));rw[k]at c;injection c with c
 subst c;have f:=g.1;rw[add_eq,yf]at f;have d:cellOf h ((⟨b,o,none⟩:Addr).add (n*1))=some (.slice (rs[n]'(by omega)).ptr (rs[n]'(by omega)).len (rs[n]'(by omega)).cap):=by rw[add_eq];exact f
 rw[j]at d;have e:=h3 n (by omega) l;generalize rs[n]'(by omega)=r' at d e;obtain⟨m,l1,t⟩:=r;obtain⟨w,l2,u⟩:=r';simp at d;obtain⟨rfl,rfl,rfl⟩:=d;exact e
end
theorem EU{α:Type}{l:List α}(f:l.Nodup){a b:Nat}(d:a<l.length)(c:b<l.length)(h:l[a]=l[b]):a=b:=by
 have e:=List.pairwise_iff_getElem.1 f;rcases Nat.lt_trichotomy a b with hlt|he|hgt
 ·exact absurd h (e a b d c hlt)
 ·exact he
 ·exact absurd h.symm (e b a c d hgt)
theorem aa.cj{B:aA}{k h:Heap}{As:List HP}(H:aa B k h As)(L:List Nat)(g:∀j∈L,j<As.length:=by simp)(m:L.Nodup:=by decide):aa B k h (L.map fun j=>As.getD j emp):=by
 refine H.pick (fun i=>if h:i<L.length then L[i]else As.length+i) (fun a b c=>?_) fun i A2 e=>?_
 ·try dsimp only at c
  split at c<;>split at c
  ·exact EU m _ _ c
  ·have:=g _ (qh (l:=L) (n:=a) (by assumption));omega
  ·have:=g _ (qh (l:=L) (n:=b) (by assumption));omega
  ·omega
 ·try dsimp only
  rw[qO]at e;split
  ·rename_i d;rw[qd d]at e;have f:=g _ (qh d);simp only[qR,zO.injEq]at e;rw[<-e,qe,qd f];rfl
  ·rename_i d;rw[za (by omega)]at e;simp at e
theorem St.mk'{B:aA}{a:Heap}{As:List HP}{Q:Heap->Prop}(x:∀h',aa B a h' As->Q h'):St B a As Q:=fun Bs h' H=>x h' (H.take Bs.length fun i A b=>by
 rw[qj (by omega),zn];exact b)
theorem St.mono{B:aA}{b:Heap}{As:List HP}{Q a:Heap->Prop}(x:St B b As Q)(c:∀h,Q h->a h):St B b As a:=fun Bs h' H=>c _ (x Bs h' H)
theorem St.and{B:aA}{a:Heap}{As:List HP}{Q b:Heap->Prop}(x:St B a As Q)(y:St B a As b):St B a As fun h=>Q h/\b h:=fun Bs h' H=>⟨x Bs h' H,y Bs h' H⟩
theorem aa.bo{B:aA}{g h:Heap}{As:List HP}(H:aa B g h As)(k:Nat)(L:List Nat)(p:k<=As.length:=by simp)(f:∀j∈L,j<k:=by simp)(o:L.Nodup:=by decide):aa B g h (L.map (fun j=>As.getD j emp)++As.drop k):=by
 refine H.pick (fun i=>if h:i<L.length then L[i]else k+(i-L.length)) (fun a b d=>?_) fun i A2 e=>?_
 ·try dsimp only at d
  split at d<;>split at d
  ·exact EU o _ _ d
  ·have:=f _ (qh (l:=L) (n:=a) (by assumption));omega
  ·have:=f _ (qh (l:=L) (n:=b) (by assumption));omega
  ·omega
 ·try dsimp only
  by_cases c:i<L.length
  ·rw[dif_pos c];rw[qm (by simpa using c),qO,qd c]at e;have m:=f _ (qh c);simp only[qR,zO.injEq]at e;rw[<-e,qe,qd (by omega)];rfl
  ·rw[dif_neg c];rw[qj (by simpa using c),List.length_map,wq]at e;exact e
section
variable {α β:Type} {E:iO α β} {C:Ctx} {k e t by_:Nat} {f:α->aV} {B:aA} {h0 h h':Heap} {As:List HP} {q:aA} {s:Sl} {rs:List α} {ll:List β} {ti:TI} {z:aV}
def Fix(E:iO α β)(k:Nat)(f:α->aV)(h:Heap)(q:aA)(s:Sl)(rs:List α)(a:List β):Prop:=Seq h q s k f rs/\rs.length=a.length/\∀(i:Nat) r l,rs[i]?=some r->a[i]?=some l->E.p h q r l
theorem Fix.ag(x:Fix E k f h q s rs ll)(a:aR q h h'):Fix E k f h' q s rs ll:=⟨x.1.ag a,x.2.1,fun i r l c b=>E.loc (x.2.2 i r l c b) a⟩
theorem Fix.mono{q':aA}(x:Fix E k f h q s rs ll)(a:∀b,q b->q' b):Fix E k f h q' s rs ll:=⟨x.1.mono a,x.2.1,fun i r l d c=>E.mono (x.2.2 i r l d c) a⟩
abbrev mY(E:iO α β)(k:Nat)(f:α->aV)(h:Heap)(s:Sl)(rs:List α)(a:List β):Prop:=Fix E k f h (fun b=>b<h.size) s rs a
theorem mY.up(x:mY E k f h s rs ll)(a:aR (fun b=>b<h.size) h h'):mY E k f h' s rs ll:=(Fix.ag x a).mono fun _ c=>qL c a.1
theorem Fix.row(x:Fix E k f h q s rs ll){i:Nat}(a:i<ll.length):E.p h q (rs[i]'(by rw[x.2.1];exact a)) ll[i]:=x.2.2 i _ _ (qd _) (qd _)
theorem cg.fix(x:(cg E k f).p h q s ll):∃rs,Fix E k f h q s rs ll:=x
theorem Fix.elt(x:Fix E k f h q s rs ll):(cg E k f).p h q s ll:=⟨rs,x⟩
def cS(E:iO α β)(k:Nat)(f:α->aV)(s:Sl)(rs:List α)(a:List β):HP:=⟨fun h q=>Fix E k f h q s rs a,fun x b=>x.ag b,fun x c=>x.mono c⟩
theorem aa.PG(H:aa B h0 h As)(i:Nat)(j:As[i]?=some (dK e s k f E ll))(n:∀x,(f x).length=k):∃rs,aa B h0 h (As.set i (cS E k f s rs ll)):=by
 have g:i<As.length:=(qn.1 j).1;have u:aa B h0 h (As.set i (HP.ex fun rs=>cS E k f s rs ll)):=H.ga i j fun q ⟨rs,v,a,b,c,d,e⟩=>⟨rs,a.seq n fun x p=>(b x p).1,d,fun i r l o t=>E.mono (e i r l o t) c⟩
 obtain⟨rs,m⟩:=u.Vb i (zC g);exact⟨rs,by rw[vi]at m;exact m⟩
theorem aa.fF(H:aa B h0 h As)(i:Nat)(a:As[i]?=some (cS E k f s rs ll)):mY E k f h s rs ll:=H.at i a
theorem aa.EV(e:C.Ok)(H:aa B h0 h As)(f:C.T.get t=some ti){K:Addr->Heap->Prop}(d:∀a h',aR (fun b=>b<h.size) h h'->aa B h0 h' (As++[ar a t ti.zero])->K a h'):
  aO C.P (qP t true (.tuple #[])) h K:=
 Ac e f fun a h' x y c _=>d a h' (c.mono fun _ _ _=>trivial) (H.comp (Ly x y c))
theorem aa.OW(q:C.Ok)(H:aa B h0 h As)(f:α->aV)(r:bN C.toBq t e k z by_)(j:0<by_/\by_<=128)(g:α)(A:f g=z)(d:z.length=k){s E:IntKind}{n o:Int}(m c:Nat)(v:n=m)(u:o=c)(i:m<=c)(l:c<=2^32)
  {K:Sl->Heap->Prop} (D:∀a h',a.len=m->aR (fun b=>b<h.size) h h'->aa B h0 h' (As++[an e a k f (qg m g)])->K a h'):
  aw C.P (qB t (.int s n) (.int E o)) (.one (.sc .slc)) h K:=
 run_make q r j g A d m c v u i l fun a h' x y w p _=>D a h' (by rw[x.len];simp) (p.mono fun _ _ _=>trivial) (H.comp (Lx rfl x y p))
end
section
variable {α:Type} {C:Ctx} {B:aA} {h0 h:Heap} {As:List HP} {e t k:Nat} {s:Sl} {f:α->aV} {l:List α} {i:TI}
theorem Own.aak(D:C.Ok)(r:Own h e s k f l)(w:∀x,(f x).length=k)(G:C.T.get t=some i){x:Int}(n:Nat)(H:x=n)(u:n<l.length)(j:Nat)(vs:aV)(M:j+vs.length<=k){m:Value}(y:α)(E:m.cells=vs.toArray)(v:i.size=vs.length)
  (p:vs.all (·.oneCell')=true) (F:f y=(f l[n]).take j++vs++(f l[n]).drop (j+vs.length)) {K:Heap->Prop} (L:∀h',Own h' e s k f (l.set n y)->aR (fun b=>¬s.on b) h h'->K h'):
  ∃a:Addr,(s.ptr=some a/\0<=x/\x<((s.len:Nat):Int))/\ae C.P (qf t (.pointer (some ((a.add (x.toNat*k)).add j))) m) h fun _ h'=>K h':=by
 subst H;rcases r.head with⟨_,_,h3⟩|⟨b,rest,h1,h2,h3,h4⟩
 ·subst h3;simp at u
 ·refine⟨_,⟨h1,by omega,by rw[r.len];omega⟩,?_⟩;unfold qf;refine ae.bind (ae.pure' ?_);unfold storeVar;refine ae.bind (ae.always (cY D.toOk G) ?_);rw[E,v];simp only[wF,ne_eq,not_true,if_false];rw[add_eq,add_eq,zX,qp];have g:l=l.take n++l[n]::l.drop (n+1):=by rw[<-qS u,qx]
  have q:l.set n y=l.take n++y::l.drop (n+1):=wy.trans (if_pos u);have o:((l.take n).flatMap f).length=n*k:=by rw[cF w,qM,wO (by omega)]
  have B:=w l[n];have d:f l[n]=(f l[n]).take j++((f l[n]).drop j).take vs.length++(f l[n]).drop (j+vs.length):=by
   rw[qo,<-zB,qx,qx]
  refine db (e:=e) (pre:=(l.take n).flatMap f++(f l[n]).take j) (old:=((f l[n]).drop j).take vs.length) (post:=(f l[n]).drop (j+vs.length)++((l.drop (n+1)).flatMap f++rest)) ?_ ?_ ?_ ?_ ?_
  ·have:l.flatMap f++rest=(l.take n).flatMap f++(f l[n]).take j++((f l[n]).drop j).take vs.length++((f l[n]).drop (j+vs.length)++((l.drop (n+1)).flatMap f++rest)):=by
    have A:=congrArg (List.flatMap f) g;rw[ze,zq]at A;rw[A];generalize f l[n]=z at d;rw[qo]at d;simp only[qo];congr 1
    conv=>lhs;rw[d]
    simp only[qo]
   rw[<-this];exact h2
  ·simp;omega
  ·rw[qw,o,qM];omega
  ·intro c J;exact qN.1 p c J
  ·refine L _ ⟨by rw[zr];exact r.len,.inr ⟨b,rest,h1,?_,h3,h4⟩⟩ (aR.gx h2 (fun I=>I ⟨0,h1⟩));rw[fA h2,if_pos rfl,q,ze,zq,F];simp[qo]
theorem aa.aak(q:C.Ok)(H:aa B h0 h As)(g:Nat)(d:As[g]?=some (an e s k f l))(o:∀x,(f x).length=k)(v:C.T.get t=some i){x:Int}(n:Nat)(A:x=n)(D:n<l.length)(j:Nat)(vs:aV)(p:j+vs.length<=k){b:Value}(y:α)(r:b.cells=vs.toArray)(m:i.size=vs.length)
  (c:vs.all (·.oneCell')=true) (u:f y=(f l[n]).take j++vs++(f l[n]).drop (j+vs.length)) {K:Heap->Prop} (E:∀h',aa B h0 h' (As.set g (an e s k f (l.set n y)))->K h'):
  ∃a:Addr,(s.ptr=some a/\0<=x/\x<((s.len:Nat):Int))/\ae C.P (qf t (.pointer (some ((a.add (x.toNat*k)).add j))) b) h fun _ h'=>K h':=
 (H.own g d).aak q o v n A D j vs p y r m c u fun h' z w=>E h' (H.lp g d w z)
end
def HP.all:List HP->HP
 |[]=>emp
 |A::L=>A.sep (HP.all L)
section
variable {B:aA} {h0 h h':Heap} {As L:List HP} {A D E:HP}
theorem aa.Bv:∀{L:List HP} {As:List HP},aa B h0 h (HP.all L::As)->aa B h0 h (L++As)
 |[],_,H=>H.rest
 |A::L,As,H=>by
  have g:aa B h0 h (HP.all L::A::As):=H.ET;have e:=aa.Bv g;exact e.pick (fun i=>if i=0 then L.length else if i<=L.length then i-1 else i) (fun a b c=>by(try dsimp only at c);split at c<;>split at c<;>(try split at c)<;>(try split at c)<;>omega) fun i X d=>by
   try dsimp only
   rw[zA]at d;cases i with
   |zero=>simp at d;subst d;rw[if_pos rfl,qj (ql _),zd];rfl
   |succ i=>
    rw[qz]at d;rw[if_neg (by omega)];by_cases f:i<L.length
    ·rw[qm f]at d;rw[if_pos (by omega),qm (by omega)];simpa using d
    ·rw[qj (by omega)]at d;rw[if_neg (by omega),qj (by omega)];rw[show i+1-L.length=(i-L.length)+1 by omega,qz];exact d
theorem aa.closeAll:∀(L:List HP) {As:List HP},aa B h0 h (L++As)->aa B h0 h (HP.all L::As)
 |[],As,H=>((H.comp (.one (A:=emp) (aR.refl _ _) trivial)).bH:aa B h0 h (emp::As))
 |A::L,As,H=>by
  have g:aa B h0 h (L++(A::As)):=H.pick (fun i=>if i<L.length then i+1 else if i=L.length then 0 else i) (fun a b c=>by(try dsimp only at c);split at c<;>split at c<;>(try split at c)<;>(try split at c)<;>omega) fun i X d=>by
   try dsimp only
   by_cases e:i<L.length
   ·rw[qm e]at d;rw[if_pos e,zA,qz,qm e];exact d
   ·rw[qj (by omega)]at d;by_cases f:i=L.length
    ·subst f;rw[zd]at d;rw[if_neg (by omega),if_pos rfl];simpa using d
    ·rw[if_neg e,if_neg f,zA];obtain⟨j,rfl⟩:∃j,i=L.length+(j+1):=⟨i-L.length-1,by omega⟩
     rw[zn,qz]at d;rw[show L.length+(j+1)=(L.length+j)+1 by omega,qz,qj (by omega),zn];exact d
  exact(aa.closeAll L g).oO
theorem aa.Ix{P:Prop}(H:aa B h0 h (A.and P::As)):aa B h0 h (A::As)/\P:=⟨H.abY 0 rfl,H.fact 0 rfl⟩
theorem aa.toIx{P:Prop}(H:aa B h0 h (A::As))(p:P):aa B h0 h (A.and P::As):=H.afA 0 rfl p
end
def lG{α:Type}(e:TypeId)(s:Sl)(b:TypeId)(k:Nat)(f:α->aV)(a:List (List α)):HP:=
 HP.ex fun rs:List Sl=>(HP.all (an e s 1 bD rs::bz b k f rs a)).and (rs.length=a.length)
section
variable {α:Type} {C:Ctx} {B:aA} {h0 h h':Heap} {As:List HP} {e e2 k t by_:Nat} {s:Sl} {f:α->aV} {ll:List (List α)}
theorem aa.JF(H:aa B h0 h (lG e s e2 k f ll::As)):∃rs:List Sl,rs.length=ll.length/\aa B h0 h ((an e s 1 bD rs::bz e2 k f rs ll)++As):=by
 obtain⟨rs,H⟩:=H.CC;obtain⟨H,a⟩:=H.Ix;exact⟨rs,a,H.Bv⟩
theorem aa.PH{rs:List Sl}(a:rs.length=ll.length)(H:aa B h0 h ((an e s 1 bD rs::bz e2 k f rs ll)++As)):aa B h0 h (lG e s e2 k f ll::As):=
 ((aa.closeAll _ H).toIx a).JE (F:=fun rs:List Sl=>(HP.all (an e s 1 bD rs::bz e2 k f rs ll)).and (rs.length=ll.length)) rs
theorem aa.EX(H:aa B h0 h As)(e a k:Nat)(f:α->aV):aa B h0 h (lG e ⟨none,0,0⟩ a k f []::As):=
 aa.PH (rs:=[]) rfl ((H.nil e 1 bD).bH)
theorem aa.aal{Bs:List HP}(H:aa B h0 h (As++Bs)):aa B h0 h As:=H.pick id (fun _ _ h=>h) fun i A a=>by
 rw[id,qm (qn.1 a).1];exact a
theorem aa.MU(H:aa B h0 h (lG e s e2 k f ll::As))(b:∀x,(f x).length=k):fo h s k f ll:=by
 obtain⟨rs,a,H⟩:=H.JF;exact aa.JA (aa.aal H) a b
theorem aa.EY(H:aa B h0 h (lG e s e2 k f ll::As)):s.len=ll.length/\s.len<=s.cap:=by
 obtain⟨rs,a,H⟩:=H.JF;exact⟨by rw[(H.own 0 rfl).len,a],(H.own 0 rfl).cap⟩
theorem aa.GY(d:C.Ok){r:Sl}{x:List α}(H:aa B h0 h (lG e s e2 k f ll::an e2 r k f x::As))(i:bN C.toBq t e 1 [.slice none 0 0] 24)(m:ll.length+1<=2^32){ty:Nat}{K:Sl->Heap->Prop}
  (l:∀a h',aa B h0 h' (lG e a e2 k f (ll++[x])::As)->K a h'):
  aw C.P (qt t 1 #[(0,.slice r.ptr r.len r.cap)]) (.one (.sc .slc)) h fun v g=>aw C.P (qq #[t,t] ty #[.slice s.ptr s.len s.cap,.slice v.ptr v.len v.cap]) (.one (.sc .slc)) g K:=by
 obtain⟨rs,c,H⟩:=H.JF;refine H.push d 0 rfl i rfl (by decide) (fun _=>rfl) kY r rfl (by decide) (by omega) fun a h' b=>l a h' ?_;refine aa.PH (rs:=rs++[r]) (by simp[c]) ?_;rw[oN c];have b:aa B h0 h' (an e a 1 bD (rs++[r])::(bz e2 k f rs ll++an e2 r k f x::As)):=b;have j:an e a 1 bD (rs++[r])::(bz e2 k f rs ll++[an e2 r k f x])++As=an e a 1 bD (rs++[r])::(bz e2 k f rs ll++an e2 r k f x::As):=by simp
 rw[j];exact b
end
end Go.Vc
namespace Gf
theorem PI{p:UInt8->Prop}(h:∀n,n<256->p (UInt8.ofNat n))(a:UInt8):p a:=by
 have:=h a.toNat (UInt8.toNat_lt a)
 rwa [UInt8.ofNat_toNat]at this
def x2(a:UInt8):UInt8:=(a<<<1)^^^(if a&&&0x80=0 then 0 else 0x1b)
def x3(a:UInt8):UInt8:=x2 a^^^a
def pw:Nat->UInt8
 |0=>1
 |n+1=>x3 (pw n)
theorem acZ(a b c:UInt8):(a^^^b)&&&c=(a&&&c)^^^(b&&&c):=by
 apply UInt8.toBitVec_inj.1;simp[UInt8.toBitVec_xor,UInt8.toBitVec_and];ext i hi;simp[Bool.and_xor_distrib_right]
theorem ada(a b:UInt8):(a^^^b)<<<1=(a<<<1)^^^(b<<<1):=by
 apply UInt8.toBitVec_inj.1;simp[UInt8.toBitVec_xor,UInt8.toBitVec_shiftLeft,BitVec.shiftLeft_xor_distrib]
theorem PJ:∀a:UInt8,a&&&0x80=0∨a&&&0x80=0x80:=PI (by decide+kernel)
theorem aam(a b c d:UInt8):(a^^^b)^^^(c^^^d)=(a^^^c)^^^(b^^^d):=by ac_rfl
theorem aeh(a b:UInt8):x2 (a^^^b)=x2 a^^^x2 b:=by
 unfold x2;rw[acZ,ada];rcases PJ a with ha|ha<;>rcases PJ b with hb|hb<;>rw[ha,hb]
 ·simp
 ·simp[UInt8.xor_assoc]
 ·rw[aam];simp
 ·rw[aam];simp
theorem aei(a b:UInt8):x3 (a^^^b)=x3 a^^^x3 b:=by unfold x3;rw[aeh,aam]
def uD:Nat->UInt8->UInt8
 |0,a=>a
 |n+1,a=>x3 (uD n a)
theorem Uh(a b:UInt8):∀n,uD n (a^^^b)=uD n a^^^uD n b
 |0=>rfl
 |n+1=>by simp only[uD,Uh a b n,aei]
theorem LA(a:UInt8)(m:Nat):∀n,uD (n+m) a=uD n (uD m a)
 |0=>by simp[uD]
 |n+1=>by rw[Nat.add_right_comm];simp only[uD,LA a m n]
theorem PK:∀n,uD n 0=0
 |0=>rfl
 |n+1=>by rw[uD,PK n];rfl
theorem Bw:∀n,pw n=uD n 1
 |0=>rfl
 |n+1=>by rw[pw,uD,Bw n]
def afT:Nat:=939374623831894136699086600277250597547650664638770418422125146541797353646788332867483593573384618611044815625336497665827114626705134492515730415652478061620339993830966980270842846318821775850471098591710629241171812800746666233448222972174585295916389942636813666312872914849454985560152530477328703759683306625234997237483834721220409437442253146756845415190424543171129629468776480674528486868811725071010351012234056630775688111116293610821126543142160426617079940511630006820862697466582575257349116925728488930366609138264019883664906661504235885380294353134295748489096855100647154935187045898006656778240
def lg(a:UInt8):Nat:=(afT>>>(8*a.toNat))%256
theorem JG:∀a:UInt8,lg a<255:=PI (by decide+kernel)
theorem Vg:∀a:UInt8,a≠0->pw (lg a)=a:=PI (by decide+kernel)
theorem Vh:∀n,n<255->lg (pw n)=n:=by decide+kernel
theorem aej:pw 255=1:=by decide+kernel
theorem Vi:∀n,n<255->pw n≠0:=by decide+kernel
theorem Xv(n:Nat):pw (n+255)=pw n:=by
 rw[Bw,LA,<-Bw 255,aej,<-Bw]
theorem Xw(n:Nat):pw (n%255)=pw n:=by
 have:∀k m,pw (m+255*k)=pw m:=by
  intro k
  induction k with
  |zero=>intro m;rfl
  |succ k ih=>intro m;rw[Nat.mul_succ,<-yy,Xv,ih]
 have h:=this (n/255) (n%255);rw[Nat.mod_add_div]at h;exact h.symm
def mul(a b:UInt8):UInt8:=if a=0∨b=0 then 0 else pw ((lg a+lg b)%255)
def inv(a:UInt8):UInt8:=if a=0 then 0 else pw ((255-lg a)%255)
theorem mul_zero(a:UInt8):mul a 0=0:=by simp[mul]
theorem zero_mul(a:UInt8):mul 0 a=0:=by simp[mul]
theorem mul_comm(a b:UInt8):mul a b=mul b a:=by
 unfold mul;rw[Nat.add_comm];by_cases h:a=0∨b=0
 ·rw[if_pos h,if_pos h.symm]
 ·rw[if_neg h,if_neg fun x=>h x.symm]
theorem PL(a b:UInt8)(d:a≠0):mul a b=uD (lg a) b:=by
 by_cases c:b=0
 ·subst c;rw[mul_zero,PK]
 ·rw[mul,if_neg (by simp[d,c]),Xw,Bw,LA,<-Bw,Vg b c]
theorem iY(a b c:UInt8):mul a (b^^^c)=mul a b^^^mul a c:=by
 by_cases d:a=0
 ·subst d;simp[zero_mul]
 ·rw[PL _ _ d,PL _ _ d,PL _ _ d,Uh]
theorem Ui(a b c:UInt8):mul (a^^^b) c=mul a c^^^mul b c:=by rw[mul_comm,iY,mul_comm c a,mul_comm c b]
theorem Xx{a b:UInt8}(d:a≠0)(c:b≠0):mul a b≠0:=by
 rw[mul,if_neg (by simp[d,c])];exact Vi _ (wJ _ (by decide))
theorem Xy{a b:UInt8}(d:a≠0)(c:b≠0):lg (mul a b)=(lg a+lg b)%255:=by
 rw[mul,if_neg (by simp[d,c]),Vh _ (wJ _ (by decide))]
theorem mul_assoc(a b c:UInt8):mul (mul a b) c=mul a (mul b c):=by
 by_cases f:a=0
 ·subst f;simp[zero_mul]
 by_cases d:b=0
 ·subst d;simp[zero_mul,mul_zero]
 by_cases e:c=0
 ·subst e;simp[mul_zero]
 rw[mul,if_neg (by simp[Xx f d,e]),Xy f d,mul,if_neg (by simp[f,Xx d e]),Xy d e];congr 1;omega
theorem aek:lg 1=0:=by decide+kernel
theorem one_mul(a:UInt8):mul 1 a=a:=by
 by_cases b:a=0
 ·subst b;rfl
 ·rw[mul,if_neg (by simp[b]),aek,zX,Xw,Vg a b]
theorem mul_one(a:UInt8):mul a 1=a:=by rw[mul_comm,one_mul]
theorem ael{a:UInt8}(b:a≠0):inv a≠0:=by
 rw[inv,if_neg b];exact Vi _ (wJ _ (by decide))
theorem ul{a:UInt8}(b:a≠0):mul a (inv a)=1:=by
 have c:=JG a;rw[mul,if_neg (by simp[b,ael b]),inv,if_neg b,Vh _ (wJ _ (by decide))];have:(lg a+(255-lg a)%255)%255=0:=by omega
 rw[this];rfl
end Gf
