/- Lemmas. -/
import Derived.Test.YtadfimdanpoafaaGreatDoorVcA
set_option linter.unusedVariables false
set_option linter.unusedSimpArgs false
open Nat renaming add_zero -> yu, le_refl -> ql, le_trans -> q7, lt_of_lt_of_le -> qY, min_eq_left -> yo, mul_le_mul -> wh, mul_le_mul_right -> zu, succ_mul -> zJ, zero_add -> wy
open Array renaming ext' -> ym, ext_getElem? -> yA, getElem?_eq_some_iff -> vb, range -> vX
open List renaming all_eq_true -> qN, append_assoc -> qp, drop_of_length_le -> zb, eq_nil_of_length_eq_zero -> qZ, flatMap_append -> zh, flatMap_cons -> zl, getElem?_append_left -> qm, getElem?_append_right -> qj, getElem?_cons_succ -> qy, getElem?_cons_zero -> yQ, getElem?_eq_getElem -> qd, getElem?_eq_some_iff -> qn, getElem?_set -> qX, getElem?_toArray -> zZ, getElem?_zipWith -> wv, length_append -> qx, length_drop -> za, length_set -> zA, length_take -> zd, mem_flatMap -> zm, mem_singleton -> qG, replicate -> qg, set_comm -> vo, set_eq_take_append_cons_drop -> yF, size_toArray -> wY, take_append_drop -> qI
open Go.Value renaming int -> xl
open Go.IntKind renaming i64 -> xt, u8 -> xu, wrap -> qc
open Go.Builtin renaming append_ -> qw, copy_ -> wX, firstCells -> wB, nextslicecap -> vd
open Go.Instr renaming alloc -> qK, box -> qM, buildSlice -> qt, checkKey -> vD, fill -> wo, makeSlice -> qF, storeAt -> qf
open Bool renaming true_and -> zW
open Int renaming toNat_natCast -> qo
namespace Go.Vc
open Go
section
variable {A B:Prop}
theorem al{p:Prop}[Decidable p](b:p->A)(a:¬p->B):Br (decide p) A B:=by
 by_cases h:p
 ·rw[decide_eq_true h];exact b h
 ·rw[decide_eq_false h];exact a h
theorem cI{a b:Int}(d:a=b->A)(c:a≠b->B):Br (a==b) A B:=by
 by_cases h:a=b
 ·rw[beq_iff_eq.2 h];exact d h
 ·rw[beq_eq_false_iff_ne.2 h];exact c h
theorem ca{a b:Int}(d:a≠b->A)(c:a=b->B):Br (a !=b) A B:=by
 by_cases h:a=b
 ·rw[show(a !=b)=false by simp[h]];exact c h
 ·rw[show(a !=b)=true by simp[h]];exact d h
theorem bw{b:Bool}(c:b=true->A)(a:b=false->B):Br b A B:=by
 cases b
 ·exact a rfl
 ·exact c rfl
theorem bh{b:Bool}(c:b=false->A)(a:b=true->B):Br (!b) A B:=by
 cases b
 ·exact c rfl
 ·exact a rfl
theorem Mp{b:Bool}(h:b=true)(a:A):Br b A B:=by subst h;exact a
theorem CM{b:Bool}(h:b=false)(a:B):Br b A B:=by subst h;exact a
end
theorem be{σ:Type}{rest:σ->Heap->Prop}{B:(σ->Heap->Prop)->Prop}(h:B rest):bf rest B:=⟨rest,fun _ _ x=>x,h⟩
theorem cl{σ:Type}{rest:σ->Heap->Prop}{B:(σ->Heap->Prop)->Prop}(R:σ->Heap->Prop)(b:B R)(a:∀s h,R s h->rest s h):bf rest B:=⟨R,a,b⟩
theorem aw{σ:Type}{B:σ->(σ->Heap->Prop)->Heap->Prop}{s:σ}{h:Heap}{τ:Type}(V:τ->σ)(I:τ->Heap->Prop)(μ:τ->Nat)(t0:τ)(b:s=V t0)(h0:I t0 h)
  (d:∀t h,I t h->B (V t) (fun c h'=>∃a,c=V a/\I a h'/\μ a<μ t) h):aJ B s h:=⟨τ,V,I,μ,t0,b,h0,d⟩
abbrev aB:=Nat->Prop
def aU(p:aB)(h h':Heap):Prop:=h.size<=h'.size/\∀b,b<h.size->p b->h'[b]?=h[b]?
def Sl.on(s:Sl)(b:Nat):Prop:=∃o,s.ptr=some ⟨b,o,none⟩
section
variable {p q:aB} {h h' h'':Heap}
theorem aU.refl(p:aB)(h:Heap):aU p h h:=⟨ql _,fun _ _ _=>rfl⟩
theorem aU.trans(a:aU p h h')(b:aU p h' h''):aU p h h'':=⟨q7 a.1 b.1,fun k d c=>(b.2 k (qY d a.1) c).trans (a.2 k d c)⟩
theorem aU.then(a:aU p h h')(b:aU q h' h'')(e:∀k,k<h.size->p k->q k):aU p h h'':=⟨q7 a.1 b.1,fun k c d=>(b.2 k (qY c a.1) (e k c d)).trans (a.2 k c d)⟩
theorem aU.mono(a:aU p h h')(e:∀b,b<h.size->q b->p b):aU q h h':=⟨a.1,fun k c d=>a.2 k c (e k c d)⟩
theorem aU.push(p:aB)(h:Heap)(o:Obj):aU p h (h.push o):=⟨by simp,fun b a _=>by rw[Array.getElem?_push,if_neg (by omega)]⟩
theorem tO{a:Addr}{v:Value}(b:cellOf h a=some v):a.block<h.size:=by
 unfold cellOf at b;cases hb:h[a.block]? with
 |none=>rw[hb]at b;cases b
 |some o=>exact(vb.1 hb).1
theorem lt_of_block{b:Nat}{o:Obj}(a:h[b]?=some o):b<h.size:=(vb.1 a).1
theorem aU.cell(a:aU p h h'){x:Addr}{v:Value}(c:p x.block)(b:cellOf h x=some v):cellOf h' x=some v:=by
 have:=a.2 _ (tO b) c;unfold cellOf at*;rw[this];exact b
theorem aU.block(a:aU p h h'){b:Nat}{o:Obj}(d:p b)(c:h[b]?=some o):h'[b]?=some o:=by rw[a.2 b (lt_of_block c) d];exact c
theorem aU.cells(a:aU p h h'){x:Addr}(b:p x.block):∀{vs:aW} {i:Nat},aj h x i vs->aj h' x i vs
 |[],_,_=>trivial
 |v::r,i,hc=>⟨a.cell (by unfold Addr.add;split<;>exact b) hc.1,aU.cells a b hc.2⟩
end
theorem add_eq(b o n:Nat):(⟨b,o,none⟩:Addr).add n=⟨b,o+n,none⟩:=by
 unfold Addr.add;split
 ·rename_i h;subst h;rfl
 ·rfl
theorem add_zero(a:Addr):a.add 0=a:=rfl
theorem CN{h:Heap}{b o:Nat}{c:Array Value}{e:TypeId}{f:Nat×Nat}(a:h[b]?=some (.cells c e f)):cellOf h ⟨b,o,none⟩=c[o]?:=by
 unfold cellOf;rw[a];rfl
theorem ZX{h:Heap}{b o:Nat}{c:Array Value}{e:TypeId}(a:h[b]?=some (.cells c e (0,0))):UR h ⟨b,o,none⟩=false:=by
 unfold UR;rw[a];simp
structure Seq {α:Type} (h:Heap) (p:aB) (s:Sl) (k:Nat) (f:α->aW) (l:List α):Prop where
 len:s.len=l.length
 elem:∀i x,l[i]?=some x->∃b o,s.ptr=some ⟨b,o,none⟩/\p b/\aj h ⟨b,o+i*k,none⟩ 0 (f x)
section
variable {α:Type} {h h':Heap} {p q:aB} {s:Sl} {k:Nat} {f:α->aW} {l:List α}
theorem Seq.ai(c:Seq h p s k f l)(d:aU p h h'):Seq h' p s k f l:=⟨c.len,fun i x e=>by
 obtain⟨b,o,g,a,h3⟩:=c.elem i x e;exact⟨b,o,g,a,d.cells a h3⟩⟩
theorem Seq.mono(a:Seq h p s k f l)(c:∀b,p b->q b):Seq h q s k f l:=⟨a.len,fun i x d=>by
 obtain⟨b,o,g,e,h3⟩:=a.elem i x d;exact⟨b,o,g,c b e,h3⟩⟩
theorem Seq.nil(h:Heap)(p:aB)(c:Nat)(b:aO)(k:Nat)(f:α->aW):Seq h p ⟨b,0,c⟩ k f []:=⟨rfl,fun i x a=>by simp at a⟩
theorem Seq.bx{X:Type}{g:X->Value}(c:Seq h p s 1 f l){i:Int}(n:Nat)(k:i=n)(d:n<l.length)(x:X)(j:f l[n]=[g x]){K:X->Prop}(e:K x):
  ∃a:Addr,(s.ptr=some a/\0<=i/\i<((s.len:Nat):Int))/\∃x:X,cellOf h (a.add (i.toNat*1))=some (g x)/\K x:=by
 subst k;obtain⟨b,o,m,_,h3⟩:=c.elem n l[n] (qd d);refine⟨_,⟨m,by omega,by rw[c.len];omega⟩,x,?_,e⟩;rw[j]at h3;have:=h3.1;rw[add_eq,yu]at this;rw[add_eq];simpa using this
theorem Seq.dt{X:Type}{g:X->aW}(c:Seq h p s k f l){i:Int}(n:Nat)(m:i=n)(d:n<l.length)(x:X)(j:f l[n]=g x){K:X->Prop}(e:K x):
  ∃a:Addr,(s.ptr=some a/\0<=i/\i<((s.len:Nat):Int))/\∃x:X,aj h (a.add (i.toNat*k)) 0 (g x)/\K x:=by
 subst m;obtain⟨b,o,q,_,h3⟩:=c.elem n l[n] (qd d);refine⟨_,⟨q,by omega,by rw[c.len];omega⟩,x,?_,e⟩;rw[add_eq];rw[j]at h3;simpa using h3
end
def aD(n:Int):aW:=[xl xt n]
def aE(n:UInt8):aW:=[xl xu n.toNat]
def eO(b:Bool):aW:=[.bool b]
def bJ(s:Sl):aW:=[.slice s.ptr s.len s.cap]
structure gT {α:Type} (h:Heap) (p:aB) (s:Sl) (k:Nat) (f:α->aW) (ll:List (List α)) (rs:List Sl):Prop where
 top:Seq h p s 1 bJ rs
 len:rs.length=ll.length
 row:∀(i:Nat) (r:Sl) (l:List α),rs[i]?=some r->ll[i]?=some l->Seq h p r k f l
section
variable {α:Type} {h h':Heap} {p q:aB} {s:Sl} {k:Nat} {f:α->aW} {ll:List (List α)} {rs:List Sl}
theorem gT.ai(a:gT h p s k f ll rs)(b:aU p h h'):gT h' p s k f ll rs:=⟨a.top.ai b,a.len,fun i r l d c=>(a.row i r l d c).ai b⟩
theorem gT.mono(a:gT h p s k f ll rs)(c:∀b,p b->q b):gT h q s k f ll rs:=⟨a.top.mono c,a.len,fun i r l e d=>(a.row i r l e d).mono c⟩
theorem gT.PM(a:gT h p s k f ll rs):s.len=ll.length:=by rw[a.top.len,a.len]
theorem gT.get(c:gT h p s k f ll rs){i:Int}(n:Nat)(j:i=n)(d:n<ll.length){K:Sl->Prop}(g:∀r,Seq h p r k f ll[n]->rs[n]?=some r->K r):
  ∃a:Addr,(s.ptr=some a/\0<=i/\i<((s.len:Nat):Int))/\∃x:Sl,cellOf h (a.add (i.toNat*1))=some (.slice x.ptr x.len x.cap)/\K x:=by
 have b:n<rs.length:=by rw[c.len];exact d
 have e:rs[n]?=some rs[n]:=qd b;exact c.top.bx n j b rs[n] rfl (g _ (c.row n _ _ e (qd d)) e)
end
structure Own {α:Type} (h:Heap) (e:TypeId) (s:Sl) (k:Nat) (f:α->aW) (l:List α):Prop where
 len:s.len=l.length
 head:(s.ptr=none/\s.cap=0/\l=[])∨∃b rest,s.ptr=some ⟨b,0,none⟩/\h[b]?=some (.cells (l.flatMap f++rest).toArray e (0,0))/\rest.length=(s.cap-s.len)*k/\s.len<=s.cap
theorem dR{α:Type}{k:Nat}{f:α->aW}(a:∀x,(f x).length=k):∀(l:List α),(l.flatMap f).length=l.length*k
 |[]=>by simp
 |x::r=>by rw[zl,qx,a,dR a r,List.length_cons,zJ];omega
theorem IN{α:Type}{k:Nat}{f:α->aW}(a:∀x,(f x).length=k):∀(l:List α) (i:Nat) (x:α),l[i]?=some x->∃pre post,l.flatMap f=pre++f x++post/\pre.length=i*k
 |y::r,0,x,h=>by simp at h;subst h;exact⟨[],r.flatMap f,by simp,by simp⟩
 |y::r,i+1,x,h=>by
  obtain⟨pre,post,c,b⟩:=IN a r i x (by simpa using h);exact⟨f y++pre,post,by simp[c],by rw[qx,a,b,zJ];omega⟩
theorem AY{h:Heap}{b o:Nat}{e:TypeId}{fr:Nat×Nat}:∀{vs pre post:aW} {i:Nat},h[b]?=some (.cells (pre++vs++post).toArray e fr)->pre.length=o+i->aj h ⟨b,o,none⟩ i vs
 |[],_,_,_,_,_=>trivial
 |v::r,pre,post,i,hb,hl=>by
  refine⟨?_,AY (pre:=pre++[v]) (post:=post) (by simpa using hb) (by simp;omega)⟩;rw[add_eq,CN hb,<-hl];simp
def ji(h:Heap)(b:Nat)(o:Obj):Heap:=h.setIfInBounds b o
theorem iF{h:Heap}{b c:Nat}{o x:Obj}(a:h[b]?=some x):(ji h b o)[c]?=if b=c then some o else h[c]?:=by
 unfold ji;rw[Array.getElem?_setIfInBounds];split
 ·rename_i e;subst e;rw[if_pos (lt_of_block a)]
 ·rfl
theorem Xk{h:Heap}{b o:Nat}{c:Array Value}{e:TypeId}{f:Nat×Nat}{v:Value}(a:h[b]?=some (.cells c e f)):US h ⟨b,o,none⟩ v=ji h b (.cells (c.setIfInBounds o v) e f):=by
 apply yA;intro i;rw[iF a];simp only[US,Array.getElem?_modify];split
 ·rename_i d;subst d;rw[a];rfl
 ·rfl
theorem Xl(h:Heap)(b:Nat)(o a:Obj):ji (ji h b o) b a=ji h b a:=by
 unfold ji;simp
theorem aU.ji{p:aB}{h:Heap}{b:Nat}{o x:Obj}(a:h[b]?=some x)(d:¬p b):aU p h (ji h b o):=⟨by simp[Go.Vc.ji],fun c _ f=>by
 rw[iF a,if_neg (fun e=>d (by rw[e];exact f))]⟩
theorem fA{P:Program}{b o:Nat}{e:TypeId}{K:Unit->Heap->Prop}:∀{vs pre old post:aW} {i:Nat} {h:Heap},h[b]?=some (.cells (pre++old++post).toArray e (0,0))->old.length=vs.length->pre.length=o+i->
  (∀v∈vs,v.oneCell'=true)->K () (ji h b (.cells (pre++vs++post).toArray e (0,0)))->ag P (storeCells ⟨b,o,none⟩ vs i) h K
 |[],pre,old,post,i,h,hb,hl,hp,hv,hk=>by
  have:old=[]:=qZ (by simpa using hl);subst this;refine ag.pure' ?_;have g:ji h b (.cells (pre++[]++post).toArray e (0,0))=h:=by
   apply yA;intro c;rw[iF hb];split
   ·rename_i d;subst d;exact hb.symm
   ·rfl
  rw[g]at hk;exact hk
 |v::r,pre,old,post,i,h,hb,hl,hp,hv,hk=>by
  cases old with
  |nil=>simp at hl
  |cons u old=>
   simp only[storeCells];refine ag.bind ?_;rw[add_eq];have d:cellOf h ⟨b,o+i,none⟩=some u:=by rw[CN hb,<-hp];simp
   refine ag.adS (hv v (by simp)) d (ZX hb) ?_;rw[Xk hb];have a:(pre++(u::old)++post).toArray.setIfInBounds (o+i) v=((pre++[v])++old++post).toArray:=by
    rw[<-hp];apply ym;simp
   rw[a];refine fA (e:=e) (pre:=pre++[v]) (old:=old) (post:=post) ?_ (by simpa using hl) (by simp;omega) (fun x f=>hv x (by simp[f])) ?_
   ·rw[iF hb,if_pos rfl]
   ·rw[Xl];simpa using hk
theorem Mq{P:Program}{h:Heap}{a:Addr}{vs:aW}{n:Nat}{K:Array Value->Heap->Prop}(b:vs.length=n)(d:aj h a 0 vs)(c:K vs.toArray h):ag P (loadCells a n) h K:=fun w e=>by
 subst e;refine⟨vs.toArray,w,?_,cV.refl w,c⟩;have:=run_loadCells (P:=P) (w:=w) (a:=a) vs 0 #[] d;rw[b]at this;unfold loadCells;rw[this];simp
section
variable {α:Type} {h h':Heap} {p:aB} {e:TypeId} {s:Sl} {k:Nat} {f:α->aW} {l:List α}
theorem Own.lt(c:Own h e s k f l){b:Nat}(a:s.on b):b<h.size:=by
 rcases c.head with⟨h1,_,_⟩|⟨b',rest,h1,h2,_,_⟩
 ·obtain⟨o,h0⟩:=a;rw[h1]at h0;cases h0
 ·obtain⟨o,h0⟩:=a;rw[h1]at h0;cases h0;exact lt_of_block h2
theorem Own.ai(c:Own h e s k f l)(d:aU p h h')(a:∀b,s.on b->p b):Own h' e s k f l:=⟨c.len,by
 rcases c.head with h1|⟨b,rest,h1,h2,h3,h4⟩
 ·exact .inl h1
 ·exact .inr ⟨b,rest,h1,d.block (a b ⟨0,h1⟩) h2,h3,h4⟩⟩
theorem Own.seq(c:Own h e s k f l)(j:∀x,(f x).length=k)(a:∀b,s.on b->p b):Seq h p s k f l:=⟨c.len,fun i x d=>by
 rcases c.head with⟨_,_,h1⟩|⟨b,rest,h1,h2,h3,h4⟩
 ·subst h1;simp at d
 ·obtain⟨pre,post,g,m⟩:=IN j l i x d;refine⟨b,0,h1,a b ⟨0,h1⟩,AY (e:=e) (fr:=(0,0)) (pre:=pre) (post:=post++rest) ?_ (by omega)⟩;rw[h2,g];simp⟩
theorem Own.nil(h:Heap)(e:TypeId)(k:Nat)(f:α->aW):Own h e ⟨none,0,0⟩ k f []:=⟨rfl,.inl ⟨rfl,rfl,rfl⟩⟩
theorem Own.cap(a:Own h e s k f l):s.len<=s.cap:=by
 rcases a.head with⟨h1,h2,h3⟩|⟨b,rest,h1,h2,h3,h4⟩
 ·have:=a.len;rw[h3]at this;simp at this;omega
 ·exact h4
end
theorem ag.always{α:Type}{P:Program}{s:Sem α}{v:α}{h:Heap}{K:α->Heap->Prop}(b:aF P s v)(a:K v h):ag P s h K:=fun w c=>⟨v,w,b w,cV.refl w,by rw[c];exact a⟩
structure bW (C:BE) (t e k:Nat) (z:aW) (by_:Nat):Prop where
 ex:∃i j,C.T.get t=some i/\i.cU=.slice e/\C.T.get e=some j/\j.size=k/\j.zero=z/\j.bytes=by_
section
variable {C:Ctx} {t e k:Nat} {z:aW} {by_:Nat}
theorem bW.under(a:bW C.toBE t e k z by_)(c:C.Ok):C.P.underlying t=some (.slice e):=by
 obtain⟨i,j,d,b,_⟩:=a.ex;have:=c.cU d;rw[b]at this;exact jK this
theorem bW.size(a:bW C.toBE t e k z by_)(c:C.Ok):aF C.P (sizeOf e) k:=by
 obtain⟨i,j,_,_,d,b,_⟩:=a.ex;rw[<-b];exact dQ c.toOk d
theorem bW.info(h:bW C.toBE t e k z by_)(o:C.Ok):∃f,C.P.info? e=some f/\f.size=k/\f.bytes=by_/\∃a,f.zero=some a/\a.cells=z.toArray:=by
 obtain⟨i,j,_,_,p,m,h3,c⟩:=h.ex;obtain⟨f,g,l,n,a,d,b⟩:=o.info p;exact⟨f,g,l.trans m,n.trans c,a,d,by apply ym;rw[b,h3]⟩
end
def iv(z:aW):Nat->aW
 |0=>[]
 |n+1=>z++iv z n
theorem nI(z:aW):∀n,(iv z n).length=n*z.length
 |0=>by simp[iv]
 |n+1=>by rw[iv,qx,nI z n,zJ];omega
theorem PN(z:aW):∀(n i:Nat),i<n*z.length->(iv z n)[i]?=z[i%z.length]?
 |0,i,h=>by simp at h
 |n+1,i,h=>by
  have a:0<z.length:=Nat.pos_of_ne_zero fun e=>by rw[e]at h;simp at h
  rw[iv];by_cases b:i<z.length
  ·rw[qm b,Nat.mod_eq_of_lt b]
  ·rw[qj (by omega),PN z n (i-z.length) (by rw[zJ]at h;omega)];congr 1
   conv=>rhs;rw[show i=(i-z.length)+z.length by omega,Nat.add_mod_right]
theorem PO(z:aW)(n m:Nat)(c:m=n*z.length):((vX m).map (fun i=>z.toArray[i%z.toArray.size]!))=(iv z n).toArray:=by
 apply yA;intro i;subst c;simp only[Array.getElem?_map,Array.getElem?_range,zZ];by_cases b:i<n*z.length
 ·rw[PN z n i b];have a:0<z.length:=Nat.pos_of_ne_zero fun e=>by rw[e]at b;simp at b
  have:=Nat.mod_lt i a;simp[b,this]
 ·rw[List.getElem?_eq_none (by rw[nI];omega)];simp[b]
theorem Fa(z:aW)(n:Nat):Builtin.zeroCells z.toArray n=(iv z n).toArray:=PO z n _ (by simp)
theorem Ue(a:Nat):∀(r c:Nat),Builtin.growBy a r c<=(c+768)*2^r
 |0,c=>by simp[Builtin.growBy]
 |r+1,c=>by
  unfold Builtin.growBy;split
  ·exact q7 (Nat.le_add_right c 768) (Nat.le_mul_of_pos_right _ (Nat.two_pow_pos _))
  ·refine q7 (Ue a r _) ?_;rw[Nat.pow_succ,Nat.mul_comm (2^r) 2,<-Nat.mul_assoc];exact zu _ (by omega)
theorem afq(o n:Nat)(h:o<n):(o+768)*2^4<=16*n+16*768:=by omega
theorem Uf(a b:Nat)(h:b<a:=by omega):vd a b<=16*a+16*768:=by
 unfold vd;split
 ·omega
 ·split
  ·omega
  ·exact q7 (Ue a 4 b) (afq _ _ h)
section
variable {C:Ctx} {t t2 e k:Nat} {z:aW} {by_:Nat} {α:Type} {h:Heap} {p:aB} {s v:Sl} {f:α->aW} {l l2:List α}
theorem hO{P:Program}{K:Array Value->Heap->Prop}(t:∀x,(f x).length=k)(g:Seq h p v k f l)(w:K (l.flatMap f).toArray h):
  ag P (wB k v.len (.slice v.ptr v.len v.cap)) h K:=by
 cases hp:v.ptr with
 |none=>
  have:l=[]:=by
   cases l with
   |nil=>rfl
   |cons x r=>obtain⟨b,o,c,_⟩:=g.elem 0 x (by simp);rw[hp]at c;cases c
  subst this;exact ag.pure' w
 |some a=>
  refine Mq (by rw[dR t,<-g.len]) ?_ w;cases l with
  |nil=>trivial
  |cons s r0=>
   obtain⟨b,o,c,_,_⟩:=g.elem 0 s (by simp);rw[hp]at c;cases c;have j:∀(r:List α) (n:Nat),(∀i x,r[i]?=some x->aj h ⟨b,o+(n+i)*k,none⟩ 0 (f x))->aj h ⟨b,o,none⟩ (n*k) (r.flatMap f):=by
    intro r
    induction r with
    |nil=>intro n _;trivial
    |cons x r ih=>
     intro n q;have h0:=q 0 x (by simp);have e:=ih (n+1) (fun i y A=>by have:=q (i+1) y (by simpa using A);rw[show n+1+i=n+(i+1)by omega];exact this);rw[zl];have app:∀(us vs:aW) (i:Nat),aj h ⟨b,o,none⟩ i us->aj h ⟨b,o,none⟩ (i+us.length) vs->aj h ⟨b,o,none⟩ i (us++vs):=by
      intro us
      induction us with
      |nil=>intro vs i _ e;simpa using e
      |cons u us ih=>intro vs i c e;exact⟨c.1,ih vs (i+1) c.2 (by rw[show i+1+us.length=i+(us.length+1)by omega];exact e)⟩
     refine app _ _ _ ?_ (by rw[t,<-zJ];exact e);have d:∀(us:aW) (i m:Nat),aj h ⟨b,o+m,none⟩ i us->aj h ⟨b,o,none⟩ (m+i) us:=by
      intro us
      induction us with
      |nil=>intros;trivial
      |cons u us ih=>
       intro i m c;refine⟨?_,ih (i+1) m c.2⟩;have:=c.1;rw[add_eq]at this⊢;rw[<-Nat.add_assoc];exact this
     have:=d (f x) 0 ((n+0)*k) h0;simpa using this
   have:=j (s::r0) 0 (fun i x z=>by
    obtain⟨D,B,c,_,h3⟩:=g.elem i x z;rw[hp]at c;cases c;simpa using h3)
   simpa using this
theorem Va(A:C.Ok)(R:bW C.toBE t e k z by_)(Y:∃i M,C.T.get t2=some i/\i.cU=.slice M)(hz:z.length=k)(N:0<by_/\by_<=128)(m:∀x,(f x).length=k)
  (w:Own h e s k f l) (J:Seq h p v k f l2) (q:∀x,∀c∈f x,c.oneCell'=true) (ad:l.length+l2.length<=2^32) {ty:Nat} {K:Sl->Heap->Prop}
  (I:∀Q h',Own h' e Q k f (l++l2)->aU (fun b=>¬s.on b) h h'->(∀b,Q.on b->s.on b∨h.size<=b)->K Q h'):
  az C.P (qw #[t,t2] ty #[.slice s.ptr s.len s.cap,.slice v.ptr v.len v.cap]) (.one (.sc .slc)) h K:=by
 obtain⟨i2,M,g1,X⟩:=Y;have L:C.P.underlying t2=some (.slice M):=by have:=A.cU g1;rw[X]at this;exact jK this
 obtain⟨E,y,x2,x3,zv,x4,W⟩:=R.info A;unfold az qw;simp only[zZ,yQ,qy];refine ag.bind (ag.always (aM (R.under A)) ?_);refine ag.bind (ag.always (R.size A) ?_);refine ag.bind (ag.always (aM L) ?_);refine ag.bind (ag.pure' ?_);simp only[Bool.false_eq_true,if_false,Bool.not_false,if_true];refine ag.bind (ag.pure' ?_);have u:=w.len;have G:=J.len;by_cases g:s.len+v.len<=s.cap
 ·rw[if_pos g];refine ag.bind (hO m J ?_);rcases w.head with⟨p1,p2,p3⟩|⟨b,rest,p1,p2,p3,p4⟩
  ·rw[p1];have B:l2=[]:=qZ (by omega);subst B;refine ag.pure' ⟨⟨none,s.len+v.len,s.cap⟩,rfl,I _ _ ⟨?_,.inl ⟨rfl,p2,by simp[p3]⟩⟩ (aU.refl _ _) ?_⟩
   ·simp;omega
   ·rintro S ⟨o,d⟩;cases d
  ·rw[p1];refine ag.bind ?_;rw[add_eq,wy];have j:=dR m l;have a:=dR m l2;have D:(l2.flatMap f).length<=rest.length:=by
    rw[a,p3];exact zu k (by omega)
   refine fA (e:=e) (pre:=l.flatMap f) (old:=rest.take (l2.flatMap f).length) (post:=rest.drop (l2.flatMap f).length) ?_ ?_ ?_ ?_ ?_
   ·rw[qp,qI];exact p2
   ·rw[zd];exact yo D
   ·rw[j,u];omega
   ·intro c Z;obtain⟨x,_,H⟩:=zm.1 Z;exact q x c H
   ·refine ag.pure' ⟨⟨some ⟨b,0,none⟩,s.len+v.len,s.cap⟩,rfl,I _ _ ⟨?_,.inr ⟨b,rest.drop (l2.flatMap f).length,rfl,?_,?_,g⟩⟩ ?_ ?_⟩
    ·simp;omega
    ·rw[iF p2,if_pos rfl];simp
    ·rw[za,p3,a,<-Nat.sub_mul];show(s.cap-s.len-l2.length)*k=(s.cap-(s.len+v.len))*k;congr 1;omega
    ·exact aU.ji p2 (fun V=>V ⟨0,p1⟩)
    ·rintro S ⟨o,d⟩;cases d;exact .inl ⟨0,p1⟩
 ·rw[if_neg g];have n:Seq h (fun _=>True) s k f l:=w.seq m (fun _ _=>trivial);have U:=w.cap;refine ag.bind (ag.always (dc y) ?_);rw[if_neg (fun hh=>by rcases hh.2 with h|h<;>first|exact h|(rw[x3]at h;omega))];refine ag.bind (ag.always (dc y) ?_);have ab:=Uf (s.len+v.len) s.cap;rw[if_neg (by
   have:vd (s.len+v.len) s.cap*E.bytes<=(16*2^32+16*768)*128:=wh (by omega) (by rw[x3];exact N.2);omega)]
  refine ag.bind (ag.Ml ⟨fun hf=>(by cases hf),fun _ nn=>?_⟩);refine ag.bind (ag.always (dc y) ?_);refine ag.bind (ag.IJ ?_);refine ag.bind (hO m n ?_);refine ag.bind (hO m J ?_);have F:aF C.P (zeroValue e) zv:=(dc y).bind (by rw[x4];exact .pure);refine ag.bind (ag.always F ?_);rw[W,Fa];unfold newRow;refine ag.bind (ag.bind (ag.nS (ag.pure' (ag.pure' ?_))));generalize O:Question.cut (Question.appendCap (s.len+v.len) s.cap e) nn=cc;have r:s.len+v.len<=cc:=by rw[<-O];simp only[Question.cut];omega
  refine⟨⟨some ⟨h.size,0,none⟩,s.len+v.len,cc⟩,rfl,I _ _ ⟨?_,.inr ⟨h.size,iv z (cc-(s.len+v.len)),rfl,?_,?_,r⟩⟩ (aU.push _ _ _) ?_⟩
  ·simp;omega
  ·simp
  ·rw[nI,hz]
  ·rintro S ⟨o,d⟩;cases d;exact .inr (ql _)
end
structure bX (h:Heap) (a:Addr) (e:TypeId) (cs:aW):Prop where
 off:a.off=0
 spot:a.spot=none
 fy:h[a.block]?=some (.cells cs.toArray e (0,0))
section
variable {h h':Heap} {a:Addr} {e:TypeId} {cs:aW} {p:aB}
theorem bX.addr(c:bX h a e cs):a=⟨a.block,0,none⟩:=by
 obtain⟨b,o,s⟩:=a;have:=c.off;have:=c.spot
 simp_all
theorem bX.ai(b:bX h a e cs)(c:aU p h h')(d:p a.block):bX h' a e cs:=⟨b.off,b.spot,c.block d b.fy⟩
theorem bX.lt(b:bX h a e cs):a.block<h.size:=lt_of_block b.fy
theorem bX.cell(b:bX h a e cs){j:Nat}{v:Value}(c:cs[j]?=some v):cellOf h (a.add j)=some v:=by
 rw[b.addr,add_eq,CN b.fy];simpa using c
theorem bX.cell0(c:bX h a e cs){v:Value}(b:cs[0]?=some v):cellOf h a=some v:=c.cell (j:=0) b
theorem bX.cells(c:bX h a e cs)(j:Nat)(vs:aW)(d:(cs.drop j).take vs.length=vs):aj h (a.add j) 0 vs:=by
 rw[c.addr,add_eq,wy];have b:vs.length<=(cs.drop j).length:=by
  have:=congrArg List.length d;rw[zd]at this;omega
 rcases Nat.lt_or_ge cs.length j with hj|hj
 ·rw[za]at b;have:vs=[]:=qZ (by omega);subst this;trivial
 ·refine AY (e:=e) (fr:=(0,0)) (pre:=cs.take j) (post:=(cs.drop j).drop vs.length) ?_ (by simp;omega);have:cs.take j++vs++(cs.drop j).drop vs.length=cs:=by
   conv=>lhs;rw[qp];arg 2;arg 1;rw[<-d]
   rw[qI,qI]
  rw[this];exact c.fy
theorem bX.aL(c:bX h a e cs)(vs:aW)(b:cs.take vs.length=vs):aj h a 0 vs:=c.cells 0 vs b
end
section
variable {C:Ctx} {t:Nat} {i:TI} {h:Heap}
theorem Am(d:C.Ok)(e:C.T.get t=some i){K:Addr->Heap->Prop}(f:∀a h',a.block=h.size->bX h' a t i.zero->aU (fun _=>True) h h'->h'.size=h.size+1->K a h'):
  aK C.P (qK t true (.tuple #[])) h K:=by
 obtain⟨z,c,b⟩:=rJ d.toOk e;unfold aK qK;refine ag.bind (ag.always c ?_);refine ag.bind (ag.bind (ag.bind (ag.nS (ag.pure' (ag.pure' (ag.pure' ?_))))));refine⟨⟨h.size,0,none⟩,rfl,f _ _ rfl ⟨rfl,rfl,?_⟩ (aU.push _ _ _) (by simp)⟩;rw[<-b];simp
theorem Ug{v:Value}{P:Program}{K:Addr->Heap->Prop}(b:∀a h',a.block=h.size->bX h' a t v.cells.toList->aU (fun _=>True) h h'->h'.size=h.size+1->K a h'):
  aK P (qM t v) h K:=by
 unfold aK qM;refine ag.bind (ag.bind (ag.bind (ag.nS (ag.pure' (ag.pure' (ag.pure' ?_))))));refine⟨⟨h.size,0,none⟩,rfl,b _ _ rfl ⟨rfl,rfl,?_⟩ (aU.push _ _ _) (by simp)⟩;simp
theorem run_store(o:C.Ok){a:Addr}{e:TypeId}{b:aW}(c:bX h a e b)(n:C.T.get t=some i)(off:Nat){v:Value}(vs:aW)(m:v.cells=vs.toArray)(f:i.size=vs.length)
  (d:vs.all (·.oneCell')=true) (g:off+vs.length<=b.length) {K:Unit->Heap->Prop}
  (l:∀h',bX h' a e (b.take off++vs++b.drop (off+vs.length))->aU (·≠a.block) h h'->h'.size=h.size->K () h'):
  ag C.P (qf t (.pointer (some (a.add off))) v) h K:=by
 have k:=c.addr;unfold qf;refine ag.bind (ag.pure' ?_);unfold storeVar;refine ag.bind (ag.always (dQ o.toOk n) ?_);rw[m,f];simp only[wY,ne_eq,not_true,if_false];rw[k,add_eq,wy];refine fA (e:=e) (pre:=b.take off) (old:=(b.drop off).take vs.length) (post:=b.drop (off+vs.length)) ?_ ?_ ?_ ?_ ?_
 ·have:b.take off++(b.drop off).take vs.length++b.drop (off+vs.length)=b:=by
   rw[<-List.drop_drop,qp,qI,qI]
  rw[this];exact c.fy
 ·simp;omega
 ·simp;omega
 ·intro x j;have:=qN.1 d x j;exact this
 ·refine l _ ⟨c.off,c.spot,?_⟩ (aU.ji c.fy (by simp)) (by simp[ji]);rw[iF c.fy,if_pos rfl]
theorem CO(l:C.Ok){a:Addr}{e:TypeId}{d:aW}(k:bX h a e d)(m:C.T.get t=some i){v:Value}(vs:aW)(g:v.cells=vs.toArray)(c:i.size=vs.length)
  (b:vs.all (·.oneCell')=true) (f:vs.length<=d.length) {K:Unit->Heap->Prop}
  (j:∀h',bX h' a e (vs++d.drop vs.length)->aU (·≠a.block) h h'->h'.size=h.size->K () h'):
  ag C.P (qf t (.pointer (some a)) v) h K:=
 run_store l k m 0 vs g c b (by omega) (fun h' x y z=>j h' (by simpa using x) y z)
end
section
variable {C:Ctx} {t e k:Nat} {z:aW} {by_:Nat} {α:Type} {h:Heap} {p:aB} {s v:Sl} {f:α->aW} {l l2:List α}
theorem Fb{a:α}(b:f a=z):∀n,iv z n=(qg n a).flatMap f
 |0=>rfl
 |n+1=>by rw[iv,List.replicate_succ,zl,b,Fb b n]
theorem ak(x:Int)(c:-9223372036854775808<=x:=by omega)(b:x<=9223372036854775807:=by omega):qc xt x=x:=by
 show(if(true&&decide (x%2^64>=2^63))=true then x%2^64-2^64 else x%2^64)=x;by_cases a:x%2^64>=2^63
 ·rw[if_pos (by rw[zW];exact decide_eq_true a)];omega
 ·rw[if_neg (by rw[zW];exact fun h=>a (of_decide_eq_true h))];omega
theorem run_make(y:C.Ok)(w:bW C.toBE t e k z by_)(u:0<by_/\by_<=128)(l:α)(A:f l=z)(d:z.length=k){G M:IntKind}{n c:Int}(m b:Nat)(D:n=m)(F:c=b)(r:m<=b)(q:b<=2^32)
  {K:Sl->Heap->Prop} (J:∀j h',Own h' e j k f (qg m l)->j.ptr=some ⟨h.size,0,none⟩->j.cap=b->aU (fun _=>True) h h'->h'.size=h.size+1->K j h'):
  az C.P (qF t (.int G n) (.int M c)) (.one (.sc .slc)) h K:=by
 subst D;subst F;obtain⟨o,B,x2,x3,I,H,E⟩:=w.info y;unfold az qF;refine ag.bind (ag.always (aM (w.under y)) ?_);refine ag.bind (ag.pure' ?_);refine ag.bind (ag.pure' ?_);refine ag.bind (ag.always (dc B) ?_);have L:qc xt (m:Int)=m:=ak _;have N:qc xt (b:Int)=b:=ak _;have O:¬((o.bytes:Int)*(b:Int)>2^48):=by
  rw[x3];have:by_*b<=128*2^32:=wh u.2 q;have:((by_:Int)*(b:Int))<=((128*2^32:Nat):Int):=by exact_mod_cast this
  omega
 simp only[L,N];rw[if_neg (by simp;omega)];refine ag.bind (ag.IJ ?_);refine ag.bind (ag.always (w.size y) ?_);have p:aF C.P (zeroValue e) I:=(dc B).bind (by rw[H];exact .pure);have fin:∀g:Array Value,(b*k≠0->g=z.toArray)->ag C.P (do
   let a<-newRow e ((vX (b*k)).map (g[·%g.size]!))
   pure (Value.slice (some a) m b)) h (fun v h'=>∃x:(Rt.one (.sc .slc)).den,v=(Rt.one (.sc .slc)).enc x/\K x h'):=by
  intro g s;have i:((vX (b*k)).map (g[·%g.size]!))=(iv z b).toArray:=by
   by_cases h0:b*k=0
   ·rw[h0];have:iv z b=[]:=qZ (by rw[nI,d,h0]);rw[this];simp
   ·rw[s h0];exact PO z b _ (by rw[d])
  rw[i];refine ag.bind (ag.bind (ag.nS (ag.pure' (ag.pure' ?_))));refine⟨⟨some ⟨h.size,0,none⟩,m,b⟩,rfl,J _ _ ⟨by simp,.inr ⟨h.size,iv z (b-m),rfl,?_,?_,r⟩⟩ rfl rfl (aU.push _ _ _) (by simp)⟩
  ·have:iv z b=(qg m l).flatMap f++iv z (b-m):=by
    rw[Fb A,Fb A,<-zh,List.replicate_append_replicate];congr 2;omega
   rw[this];simp
  ·rw[nI,d]
 simp only[qo];by_cases h0:b*k=0
 ·rw[if_pos h0];exact ag.bind (ag.pure' (fin _ (fun h=>absurd h0 h)))
 ·rw[if_neg h0];refine ag.bind (ag.always p ?_);exact ag.bind (ag.pure' (fin _ (fun _=>E)))
theorem Mr(q:C.Ok)(p:bW C.toBE t e k z by_)(d:z.length=k){n:Nat}{parts:Array (Nat×Value)}(l:List α)(r:l.length=n)(D:n*k<=2^20)
  (b:wo (fun i=>some (i*k,k)) (iv z n).toArray parts.toList=some (l.flatMap f).toArray) {K:Sl->Heap->Prop}
  (B:∀o h',Own h' e o k f l->o.ptr=some ⟨h.size,0,none⟩->aU (fun _=>True) h h'->h'.size=h.size+1->K o h'):
  az C.P (qt t n parts) (.one (.sc .slc)) h K:=by
 obtain⟨u,y,x2,x3,A,w,s⟩:=p.info q;unfold az qt;refine ag.bind (ag.always (aM (p.under q)) ?_);refine ag.bind (ag.always (p.size q) ?_);rw[if_neg (by omega)];have j:aF C.P (zeroValue e) A:=(dc y).bind (by rw[w];exact .pure);have fin:∀c:Array Value,(n*k≠0->c=z.toArray)->ag C.P (do
   let some cells:=wo (fun i=>some (i*k,k)) ((vX (n*k)).map (c[·%c.size]!)) parts.toList
    |stuck "buildSlice: a part of the wrong size"
   pure (Value.slice (some (<-newRow e cells)) n n)) h (fun v h'=>∃x:(Rt.one (.sc .slc)).den,v=(Rt.one (.sc .slc)).enc x/\K x h'):=by
  intro c m;have g:((vX (n*k)).map (c[·%c.size]!))=(iv z n).toArray:=by
   by_cases h0:n*k=0
   ·rw[h0];have:iv z n=[]:=qZ (by rw[nI,d,h0]);rw[this];simp
   ·rw[m h0];exact PO z n _ (by rw[d])
  rw[g,b];refine ag.bind (ag.bind (ag.nS (ag.pure' (ag.pure' ?_))));refine⟨⟨some ⟨h.size,0,none⟩,n,n⟩,rfl,B _ _ ⟨r.symm,.inr ⟨h.size,[],rfl,by simp,by simp,ql _⟩⟩ rfl (aU.push _ _ _) (by simp)⟩
 by_cases h0:n*k=0
 ·rw[if_pos h0];exact ag.bind (ag.pure' (fin _ (fun h=>absurd h0 h)))
 ·rw[if_neg h0];refine ag.bind (ag.always j ?_);exact ag.bind (ag.pure' (fin _ (fun _=>s)))
theorem Own.set{i:TI}(G:C.Ok)(r:Own h e s k f l)(p:∀x,(f x).length=k)(F:C.T.get t=some i){x:Int}(n:Nat)(A:x=n)(q:n<l.length){m:Value}(y:α)(E:m.cells=(f y).toArray)(v:i.size=k)
  (g:(f y).all (·.oneCell')=true) {K:Heap->Prop} (B:∀h',Own h' e s k f (l.set n y)->aU (fun b=>¬s.on b) h h'->h'.size=h.size->K h'):
  ∃a:Addr,(s.ptr=some a/\0<=x/\x<((s.len:Nat):Int))/\ag C.P (qf t (.pointer (some (a.add (x.toNat*k)))) m) h fun _ h'=>K h':=by
 subst A;rcases r.head with⟨_,_,h3⟩|⟨b,rest,h1,h2,h3,h4⟩
 ·subst h3;simp at q
 ·refine⟨_,⟨h1,by omega,by rw[r.len];omega⟩,?_⟩;unfold qf;refine ag.bind (ag.pure' ?_);unfold storeVar;refine ag.bind (ag.always (dQ G.toOk F) ?_);rw[E,v];have u:=p y;simp only[wY,u,ne_eq,not_true,if_false];rw[add_eq,wy,qo];have d:l=l.take n++l[n]::l.drop (n+1):=by rw[<-List.drop_eq_getElem_cons q,qI]
  have o:l.set n y=l.take n++y::l.drop (n+1):=yF.trans (if_pos q);have j:((l.take n).flatMap f).length=n*k:=by rw[dR p,zd,yo (by omega)]
  refine fA (e:=e) (pre:=(l.take n).flatMap f) (old:=f l[n]) (post:=(l.drop (n+1)).flatMap f++rest) ?_ ?_ ?_ ?_ ?_
  ·have:l.flatMap f++rest=(l.take n).flatMap f++f l[n]++((l.drop (n+1)).flatMap f++rest):=by
    have w:=congrArg (List.flatMap f) d;rw[zh,zl]at w;rw[w];simp
   rw[<-this];exact h2
  ·rw[p,p]
  ·rw[j];omega
  ·intro c z;have:=qN.1 g c z;exact this
  ·refine B _ ⟨by rw[zA];exact r.len,.inr ⟨b,rest,h1,?_,h3,h4⟩⟩ (aU.ji h2 (fun D=>D ⟨0,h1⟩)) (by simp[ji]);rw[iF h2,if_pos rfl,o];simp
end
def grow(c:Nat->Nat)(n i:Nat):Nat->Nat:=fun b=>if b<n then c b else i
theorem gc{c:Nat->Nat}{n i b:Nat}(h:b<n):grow c n i b=c b:=if_pos h
theorem ra{c:Nat->Nat}{n i b:Nat}(h:n<=b:=by omega):grow c n i b=i:=if_neg (by omega)
structure dF {α:Type} (h:Heap) (c:Nat->Nat) (i:Nat) (e:TypeId) (s:Sl) (k:Nat) (f:α->aW) (l:List α):Prop where
 own:Own h e s k f l
 bs:∀b,s.on b->c b=i
structure jW (h:Heap) (c:Nat->Nat) (i:Nat) (a:Addr) (e:TypeId) (cs:aW):Prop where
 box:bX h a e cs
 bs:c a.block=i
structure lX (h0 h:Heap) (c:Nat->Nat):Prop where
 ai:aU (fun b=>b<h0.size) h0 h
 bs:∀b,b<h0.size->c b=0
section
variable {α:Type} {h h' h0:Heap} {c:Nat->Nat} {i j n m:Nat} {e:TypeId} {s:Sl} {k:Nat} {f:α->aW} {l:List α} {a:Addr} {cs:aW}
theorem dF.keep(a:dF h c j e s k f l)(n:aU (fun b=>c b≠i) h h')(g:j≠i):dF h' (grow c h.size m) j e s k f l:=
 ⟨a.own.ai n fun b d=>by rw[a.bs b d];exact g,fun b d=>by rw[gc (a.own.lt d)];exact a.bs b d⟩
theorem jW.keep(d:jW h c j a e cs)(g:aU (fun b=>c b≠i) h h')(f:j≠i):jW h' (grow c h.size m) j a e cs:=
 ⟨d.box.ai g (by rw[d.bs];exact f),by rw[gc d.box.lt];exact d.bs⟩
theorem lX.keep(a:lX h0 h c)(e:aU (fun b=>c b≠i) h h')(f:i≠0):lX h0 h' (grow c h.size m):=
 ⟨a.ai.then e fun b d _=>by rw[a.bs b d];exact f.symm,fun b d=>by rw[gc (qY d a.ai.1)];exact a.bs b d⟩
theorem lX.refl(h:Heap):lX h h (fun _=>0):=⟨aU.refl _ _,fun _ _=>rfl⟩
theorem dF.seq(a:dF h c j e s k f l)(d:∀x,(f x).length=k):Seq h (fun b=>c b=j) s k f l:=a.own.seq d a.bs
theorem dF.Vb(a:dF h c j e s k f l)(g:∀x,(f x).length=k):Seq h (fun b=>b<h.size) s k f l:=a.own.seq g fun _ d=>a.own.lt d
theorem dF.nil(h:Heap)(c:Nat->Nat)(i:Nat)(e:TypeId)(k:Nat)(f:α->aW):dF h c i e ⟨none,0,0⟩ k f []:=⟨Own.nil h e k f,fun b d=>by obtain⟨o,a⟩:=d;cases a⟩
theorem aU.bs(a:aU (fun _=>True) h h')(c:Nat->Nat)(i:Nat):aU (fun b=>c b≠i) h h':=a.mono fun _ _ _=>trivial
end
section
variable {α:Type} {C:Ctx} {h h' h0:Heap} {c:Nat->Nat} {i:Nat} {e t t2:Nat} {s v:Sl} {k by_:Nat} {f:α->aW} {l l2:List α} {a:Addr} {cs z:aW} {p:aB} {ti:TI}
theorem tQ(e:C.Ok)(_:lX h0 h c)(i:Nat)(f:C.T.get t=some ti){K:Addr->Heap->Prop}(d:∀a h',jW h' (grow c h.size i) i a t ti.zero->aU (fun b=>c b≠i) h h'->K a h'):
  aK C.P (qK t true (.tuple #[])) h K:=
 Am e f fun a h' x y z _=>d a h' ⟨y,by rw[ra]⟩ (z.bs c i)
theorem PP(P:Program)(_:lX h0 h c)(i:Nat){v:Value}{K:Addr->Heap->Prop}(d:∀a h',jW h' (grow c h.size i) i a t v.cells.toList->aU (fun b=>c b≠i) h h'->K a h'):
  aK P (qM t v) h K:=
 Ug fun a h' x y z _=>d a h' ⟨y,by rw[ra]⟩ (z.bs c i)
theorem jW.store(p:C.Ok)(g:jW h c i a e cs)(o:C.T.get t=some ti)(off:Nat){v:Value}(vs:aW)(n:v.cells=vs.toArray)(k:ti.size=vs.length)
  (d:vs.all (·.oneCell')=true) (f:off+vs.length<=cs.length) {K:Unit->Heap->Prop}
  (m:∀h',jW h' (grow c h.size i) i a e (cs.take off++vs++cs.drop (off+vs.length))->aU (fun b=>c b≠i) h h'->K () h'):
  ag C.P (qf t (.pointer (some (a.add off))) v) h K:=
 run_store p g.box o off vs n k d f fun h' x y z=>m h' ⟨x,by rw[gc g.box.lt];exact g.bs⟩ (y.mono fun b _ j l=>j (by rw[l];exact g.bs))
theorem jW.kv(m:C.Ok)(l:jW h c i a e cs)(n:C.T.get t=some ti){v:Value}(vs:aW)(j:v.cells=vs.toArray)(f:ti.size=vs.length)
  (d:vs.all (·.oneCell')=true) (g:vs.length<=cs.length) {K:Unit->Heap->Prop}
  (k:∀h',jW h' (grow c h.size i) i a e (vs++cs.drop vs.length)->aU (fun b=>c b≠i) h h'->K () h'):
  ag C.P (qf t (.pointer (some a)) v) h K:=
 l.store m n 0 vs j f d (by omega) (fun h' x y=>k h' (by simpa using x) y)
theorem An(E:C.Ok)(_:lX h0 h c)(i:Nat)(f:α->aW)(D:bW C.toBE t e k z by_)(l:0<by_/\by_<=128)(d:α)(u:f d=z)(g:z.length=k){v B:IntKind}{n q:Int}(m:Nat)(r:n=m)(s:q=m)(j:m<=2^32)
  {K:Sl->Heap->Prop} (A:∀a h',dF h' (grow c h.size i) i e a k f (qg m d)->aU (fun b=>c b≠i) h h'->K a h'):
  az C.P (qF t (.int v n) (.int B q)) (.one (.sc .slc)) h K:=
 run_make E D l d u g m m r s (ql _) j fun a h' x y _ z _=>A a h' ⟨x,fun b w=>by obtain⟨o,p⟩:=w;rw[y]at p;cases p;rw[ra (ql _)]⟩ (z.bs c i)
theorem IP(u:C.Ok)(_:lX h0 h c)(i:Nat)(f:α->aW)(s:bW C.toBE t e k z by_)(g:z.length=k){n:Nat}{parts:Array (Nat×Value)}(l:List α)(p:l.length=n)(j:n*k<=2^20)
  (a:wo (fun i=>some (i*k,k)) (iv z n).toArray parts.toList=some (l.flatMap f).toArray) {K:Sl->Heap->Prop}
  (r:∀d h',dF h' (grow c h.size i) i e d k f l->aU (fun b=>c b≠i) h h'->K d h'):
  az C.P (qt t n parts) (.one (.sc .slc)) h K:=
 Mr u s g l p j a fun d h' x y z _=>r d h' ⟨x,fun b q=>by obtain⟨o,m⟩:=q;rw[y]at m;cases m;rw[ra (ql _)]⟩ (z.bs c i)
theorem dF.append(F:C.Ok)(d:dF h c i e s k f l)(E:bW C.toBE t e k z by_)(j:∃i D,C.T.get t2=some i/\i.cU=.slice D)(q:z.length=k)(n:0<by_/\by_<=128)(r:∀x,(f x).length=k)
  (B:Seq h p v k f l2) (a:∀x,∀c∈f x,c.oneCell'=true) (o:l.length+l2.length<=2^32) {ty:Nat} {K:Sl->Heap->Prop}
  (A:∀g h',dF h' (grow c h.size i) i e g k f (l++l2)->aU (fun b=>c b≠i) h h'->K g h'):
  az C.P (qw #[t,t2] ty #[.slice s.ptr s.len s.cap,.slice v.ptr v.len v.cap]) (.one (.sc .slc)) h K:=
 Va F E j q n r d.own B a o fun g h' x y w=>A g h' ⟨x,fun b u=>by
  rcases w b u with w|w
  ·rw[gc (d.own.lt w)];exact d.bs b w
  ·exact ra w⟩ (y.mono fun b _ m j=>m (d.bs b j))
theorem dF.set(E:C.Ok)(j:dF h c i e s k f l)(v:∀x,(f x).length=k)(D:C.T.get t=some ti){x:Int}(n:Nat)(u:x=n)(q:n<l.length){g:Value}(y:α)(B:g.cells=(f y).toArray)(o:ti.size=k)
  (d:(f y).all (·.oneCell')=true) {K:Heap->Prop} (A:∀h',dF h' (grow c h.size i) i e s k f (l.set n y)->aU (fun b=>c b≠i) h h'->K h'):
  ∃a:Addr,(s.ptr=some a/\0<=x/\x<((s.len:Nat):Int))/\ag C.P (qf t (.pointer (some (a.add (x.toNat*k)))) g) h fun _ h'=>K h':=
 j.own.set E v D n u q y B o d fun h' z w _=>A h' ⟨z,fun b p=>by rw[gc (j.own.lt p)];exact j.bs b p⟩ (w.mono fun b _ m r=>m (j.bs b r))
end
section
variable {α:Type} {C:Ctx} {h h' h0:Heap} {c:Nat->Nat} {i j n m:Nat} {e t:Nat} {s v:Sl} {k by_:Nat} {f:α->aW} {l l2:List α} {z:aW} {p:aB}
theorem grow_grow{c:Nat->Nat}{n m i:Nat}(h:n<=m):grow (grow c n i) m i=grow c n i:=by
 funext b;unfold grow;split
 ·rfl
 ·rw[if_neg (by omega)]
theorem aU.step(a:aU (fun b=>c b≠i) h h'){d:Heap}(b:aU (fun b=>grow c h.size i b≠i) h' d):aU (fun b=>c b≠i) h d:=
 a.then b fun x f e=>by rw[gc f];exact e
theorem dF.push(H:C.Ok)(o:dF h c i e s k f l)(B:bW C.toBE t e k z by_)(E:z.length=k)(w:0<by_/\by_<=128)(F:∀x,(f x).length=k)
  (d:∀x,∀c∈f x,c.oneCell'=true) (x:α) {parts:Array (Nat×Value)} (a:wo (fun i=>some (i*k,k)) (iv z 1).toArray parts.toList=some ([x].flatMap f).toArray)
  (u:1*k<=2^20) (D:l.length+1<=2^32) {ty:Nat} {K:Sl->Heap->Prop}
  (L:∀n h',dF h' (grow c h.size i) i e n k f (l++[x])->aU (fun b=>c b≠i) h h'->K n h'):
  az C.P (qt t 1 parts) (.one (.sc .slc)) h fun v m=>az C.P (qw #[t,t] ty #[.slice s.ptr s.len s.cap,.slice v.ptr v.len v.cap]) (.one (.sc .slc)) m K:=by
 refine Mr H B E [x] rfl u a fun v m N M y _=>?_;have A:aU (fun b=>c b≠i) h m:=y.bs c i;have r:dF m (grow c h.size i) i e s k f l:=⟨o.own.ai y fun _ _=>trivial,fun b G=>by rw[gc (o.own.lt G)];exact o.bs b G⟩
 have j:h.size<=m.size:=y.1;obtain⟨O,Q,J,x2,_⟩:=B.ex;refine r.append H B ⟨O,e,J,x2⟩ E w F (N.seq (p:=fun _=>True) F fun _ _=>trivial) d D fun n I g q=>?_;rw[grow_grow j]at g;exact L n I g (A.step q)
structure afZ (h:Heap) (c:Nat->Nat) (top lo:Nat) (e:TypeId) (s:Sl) (k:Nat) (f:α->aW) (ll:List (List α)) (rs:List Sl):Prop where
 own:dF h c top e s 1 bJ rs
 len:rs.length=ll.length
 row:∀(i:Nat) r l,rs[i]?=some r->ll[i]?=some l->Seq h (fun b=>b<h.size/\lo<=c b/\c b<lo+ll.length) r k f l
theorem lY:∀x,∀c∈bJ x,c.oneCell'=true:=by intro x c a;simp only[bJ,qG]at a;subst a;rfl
end
structure aga {α:Type} (h:Heap) (r:Nat) (g:α->Value) (kvs:List (Int×α)):Prop where
 ex:∃es clock,h[r]?=some (.map es clock)/\es.toList.map (fun e=>(e.key,e.val))=kvs.map (fun p=>(Value.int .i64 p.1,g p.2))
section
variable {α:Type} {P:Program} {h h':Heap} {r:Nat} {g:α->Value} {kvs:List (Int×α)}
theorem PQ{a:TypeId}{k:IntKind}{x:Int}{b:Bool}(c:P.underlying a=some (.int k))(n:Nat):aF P (vD b (n+1) a (.int k x)) ():=by
 unfold vD;exact(aM c).bind .pure
end
theorem PR(x n:Int)(b:0<n):x%n=if x.tmod n<0 then x.tmod n+n else x.tmod n:=by
 have f:=Int.tmod_lt_of_pos x b;have d:-n<x.tmod n:=Int.lt_tmod_of_pos x b;have e:=Int.tmod_add_mul_tdiv x n;have a:0<=(if x.tmod n<0 then x.tmod n+n else x.tmod n)/\(if x.tmod n<0 then x.tmod n+n else x.tmod n)<n:=by split<;>omega
 have c:x=(if x.tmod n<0 then x.tmod n+n else x.tmod n)+n*(if x.tmod n<0 then x.tdiv n-1 else x.tdiv n):=by
  split
  ·rw[Int.mul_sub];omega
  ·omega
 conv=>lhs;rw[c]
 rw[Int.add_mul_emod_self_left];exact Int.emod_eq_of_lt a.1 a.2
theorem aI{α:Type}(l:List α)(k:Nat)(h:k<l.length:=by omega):l.take (k+1)=l.take k++[l[k]]:=List.take_succ_eq_append_getElem h
theorem jf:∀x,∀c∈aD x,c.oneCell'=true:=by intro x c a;simp only[aD,qG]at a;subst a;rfl
theorem gw:∀x,∀c∈aE x,c.oneCell'=true:=by intro x c a;simp only[aE,qG]at a;subst a;rfl
theorem up{h c d:Heap}(a:aU (fun b=>b<h.size) h c)(b:aU (fun b=>b<c.size) c d):aU (fun b=>b<h.size) h d:=
 a.then b fun _ e _=>qY e a.1
theorem any{h c:Heap}(a:aU (fun _=>True) h c):aU (fun b=>b<h.size) h c:=a.mono fun _ _ _=>trivial
theorem Seq.up{α:Type}{h h':Heap}{s:Sl}{k:Nat}{f:α->aW}{l:List α}(d:Seq h (fun b=>b<h.size) s k f l)(a:aU (fun b=>b<h.size) h h'):Seq h' (fun b=>b<h'.size) s k f l:=
 (d.ai a).mono fun _ c=>qY c a.1
theorem gT.up{α:Type}{h h':Heap}{s:Sl}{k:Nat}{f:α->aW}{l:List (List α)}{rs:List Sl}(d:gT h (fun b=>b<h.size) s k f l rs)(a:aU (fun b=>b<h.size) h h'):gT h' (fun b=>b<h'.size) s k f l rs:=
 (d.ai a).mono fun _ c=>qY c a.1
theorem Seq.drop{α:Type}{h:Heap}{p:aB}{s:Sl}{w:Nat}{f:α->aW}{l:List α}(c:Seq h p s w f l)(k:Nat)(m:s.len<=s.cap):
  Seq h p ⟨if s.cap=k then s.ptr else s.ptr.map (·.add (k*w)),s.len-k,s.cap-k⟩ w f (l.drop k):=by
 have e:=c.len;refine⟨by simp[e],fun i x a=>?_⟩;rw[List.getElem?_drop]at a;obtain⟨b,o,j,d,h3⟩:=c.elem _ x a;have g:=(qn.1 a).1;refine⟨b,o+k*w,?_,d,?_⟩
 ·dsimp only;rw[if_neg (by omega),j,Option.map_some,add_eq]
 ·rw[show o+k*w+i*w=o+(k+i)*w by rw[Nat.add_mul];omega];exact h3
theorem Seq.take{α:Type}{h:Heap}{p:aB}{s:Sl}{w:Nat}{f:α->aW}{l:List α}(b:Seq h p s w f l)(k:Nat)(c:k<=l.length):
  Seq h p ⟨s.ptr,k,s.cap⟩ w f (l.take k):=by
 refine⟨by simp;omega,fun i x a=>?_⟩;rw[List.getElem?_take]at a;split at a
 ·exact b.elem i x a
 ·cases a
theorem getD_lt{α:Type}{l:List α}{d:α}{i:Nat}(h:i<l.length:=by omega):l.getD i d=l[i]:=by rw[List.getD_eq_getElem?_getD,qd h];rfl
structure HP where
 p:Heap->aB->Prop
 loc:∀{h h':Heap} {q:aB},p h q->aU q h h'->p h' q
 mono:∀{h:Heap} {q q':aB},p h q->(∀b,q b->q' b)->p h q'
def emp:HP:=⟨fun _ _=>True,fun _ _=>trivial,fun _ _=>trivial⟩
def ar{α:Type}(e:TypeId)(s:Sl)(k:Nat)(f:α->aW)(l:List α):HP:=
 ⟨fun h q=>Own h e s k f l/\∀b,s.on b->q b,fun a d=>⟨a.1.ai d a.2,a.2⟩,fun a g=>⟨a.1,fun b c=>g b (a.2 b c)⟩⟩
def aq(a:Addr)(e:TypeId)(d:aW):HP:=
 ⟨fun h q=>bX h a e d/\q a.block,fun x b=>⟨x.1.ai b x.2,x.2⟩,fun x c=>⟨x.1,c _ x.2⟩⟩
def sV{α:Type}(s:Sl)(k:Nat)(f:α->aW)(l:List α):HP:=
 ⟨fun h q=>Seq h q s k f l,fun a b=>a.ai b,fun a c=>a.mono c⟩
def fS{α:Type}(e:TypeId)(s:Sl)(k:Nat)(f:α->aW)(m:List (List α)):HP:=
 ⟨fun h q=>∃(rs:List Sl) (j:aB),Own h e s 1 bJ rs/\(∀b,s.on b->q b/\¬j b)/\(∀b,j b->q b)/\rs.length=m.length/\∀(i:Nat) r l,rs[i]?=some r->m[i]?=some l->Seq h j r k f l,
  fun⟨rs,j,a,b,c,d,e⟩ hp=>⟨rs,j,a.ai hp fun x g=>(b x g).1,b,c,d,fun i r l o n=>(e i r l o n).ai (hp.mono fun x _ g=>c x g)⟩,
  fun⟨rs,j,a,b,c,d,e⟩ hq=>⟨rs,j,a,fun x g=>⟨hq x (b x g).1,(b x g).2⟩,fun x g=>hq x (c x g),d,e⟩⟩
structure aa (B:aB) (h0 h:Heap) (As:List HP):Prop where
 low:∀b,B b->b<h0.size
 ai:aU B h0 h
 ex:∃c:Nat->Nat,(∀b,B b->c b=0)/\∀(i:Nat) (A:HP),As[i]?=some A->A.p h (fun b=>b<h.size/\c b=i+1)
abbrev Sp(h0 h:Heap)(As:List HP):Prop:=aa (fun b=>b<h0.size) h0 h As
section
variable {B:aB} {h0 h h':Heap} {As Bs:List HP} {A A2 D:HP} {c:Nat->Nat} {i j:Nat}
theorem Sp.refl(h:Heap):Sp h h []:=⟨fun _ h=>h,aU.refl _ _,fun _=>0,fun _ _=>rfl,fun i A a=>by simp at a⟩
theorem aa.at(H:aa B h0 h As)(i:Nat)(e:As[i]?=some A):A.p h (fun b=>b<h.size):=by
 obtain⟨c,_,d⟩:=H.ex;exact A.mono (d i A e) fun _ a=>a.1
theorem aa.fin(H:aa B h0 h As)(i:Nat)(f:As[i]?=some A):A.p h (fun b=>¬B b/\b<h.size):=by
 obtain⟨c,g,e⟩:=H.ex;exact A.mono (e i A f) fun b d=>⟨fun a=>by have:=g b a;omega,d.1⟩
theorem Sp.fresh(H:Sp h0 h As)(i:Nat)(c:As[i]?=some A):A.p h (fun b=>h0.size<=b/\b<h.size):=
 A.mono (aa.fin H i c) fun b a=>⟨by omega,a.2⟩
theorem aa.comp(H:aa B h0 h As)(R:Sp h h' Bs):aa B h0 h' (As++Bs):=by
 obtain⟨j,k,p,o,q⟩:=H;obtain⟨_,e,g,l,m⟩:=R;have c:=k.1;refine⟨j,k.then e fun b a _=>qY a c,fun b=>if b<h.size then p b else if g b=0 then 0 else As.length+g b,fun b a=>?_,fun i A d=>?_⟩
 ·dsimp only;rw[if_pos (qY (j b a) c)];exact o b a
 ·by_cases n:i<As.length
  ·rw[qm n]at d;refine A.mono (A.loc (q i A d) (e.mono fun b _ a=>a.1)) fun b a=>⟨qY a.1 e.1,?_⟩
   dsimp only;rw[if_pos a.1];exact a.2
  ·rw[qj (by omega)]at d;refine A.mono (m _ A d) fun b a=>⟨a.1,?_⟩
   have:¬b<h.size:=fun f=>by have:=l b f;omega
   dsimp only;rw[if_neg this,if_neg (by omega)];omega
theorem aa.up(H:aa B h0 h As)(R:aU (fun b=>b<h.size) h h'):aa B h0 h' As:=by
 have:=H.comp (Bs:=[]) ⟨fun _ h=>h,R,fun _=>0,fun _ _=>rfl,fun i A a=>by simp at a⟩;simpa using this
theorem Sp.one(R:aU (fun b=>b<h.size) h h')(d:A.p h' (fun b=>h.size<=b/\b<h'.size)):Sp h h' [A]:=by
 refine⟨fun _ h=>h,R,fun b=>if b<h.size then 0 else 1,fun b a=>if_pos a,fun i A2 c=>?_⟩;cases i with
 |succ i=>simp at c
 |zero=>
  simp at c;subst c;exact A.mono d fun b a=>⟨a.2,by dsimp only;rw[if_neg (by omega)]⟩
theorem Sp.zip(R:aU (fun b=>b<h.size) h h'):Sp h h' []:=aa.up (Sp.refl h) R
theorem aa.enter(q:aB)(c:Nat->Nat)(e:∀b,q b->b<h.size)(a:∀(i:Nat) (A:HP),As[i]?=some A->A.p h (fun b=>q b/\c b=i+1)):aa (fun b=>b<h.size/\¬q b) h h As:=by
 classical
 refine⟨fun b d=>d.1,aU.refl _ _,fun b=>if q b then c b else 0,fun b d=>if_neg d.2,fun i A f=>A.mono (a i A f) fun b d=>⟨e b d.1,?_⟩⟩;dsimp only;rw[if_pos d.1];exact d.2
theorem aa.Xm(q:aB)(e:∀b,q b->b<h.size)(a:A.p h q):aa (fun b=>b<h.size/\¬q b) h h [A]:=
 .enter q (fun _=>1) e fun i A2 c=>by
  cases i with
  |succ i=>simp at c
  |zero=>simp at c;subst c;exact A.mono a fun b d=>⟨d,rfl⟩
theorem aa.CP(l:∀b,B b->b<h0.size)(f:aU B h0 h)(z:∀b,B b->c b=0)(a:∀(i:Nat) (A:HP),As[i]?=some A->A.p h (fun b=>b<h.size/\c b=i+1))
  (k:aU (fun b=>¬(b<h.size/\c b=i+1)) h h') (n:D.p h' (fun b=>b<h'.size/\((b<h.size/\c b=i+1)∨h.size<=b))):aa B h0 h' (As.set i D):=by
 refine⟨l,f.then k fun b _ d m=>by have:=z b d;omega,grow c h.size (i+1),fun b d=>?_,fun j A e=>?_⟩
 ·rw[gc (qY (l b d) f.1)];exact z b d
 ·rw[qX]at e;split at e
  ·rename_i g;subst g;split at e
   ·injection e with e
    subst e;refine D.mono n fun b d=>⟨d.1,?_⟩
    rcases d.2 with h1|h1
    ·rw[gc h1.1];exact h1.2
    ·exact ra h1
   ·cases e
  ·rename_i g;refine A.mono (A.loc (a j A e) (k.mono fun b _ d m=>by omega)) fun b d=>⟨qY d.1 k.1,?_⟩
   rw[gc d.1];exact d.2
theorem aa.step(H:aa B h0 h As)(i:Nat)(j:As[i]?=some A)(g:∀q:aB,A.p h q->(∀b,q b->b<h.size)->aU (fun b=>¬q b) h h'/\D.p h' (fun b=>b<h'.size/\(q b∨h.size<=b))):aa B h0 h' (As.set i D):=by
 obtain⟨k,p,c,z,a⟩:=H;obtain⟨d,f⟩:=g _ (a i A j) fun b e=>e.1;exact aa.CP k p z a d f
theorem aa.fO(H:aa B h0 h As)(i:Nat)(f:As[i]?=some A)(e:∀q:aB,A.p h q->D.p h q):aa B h0 h (As.set i D):=
 H.step i f fun q d a=>⟨aU.refl _ _,D.mono (e q d) fun b c=>⟨a b c,.inl c⟩⟩
theorem aa.merge(H:aa B h0 h As)(i j:Nat)(o:i≠j)(r:As[i]?=some A)(s:As[j]?=some A2)
  (u:∀m l:aB,(∀b,m b->¬l b)->A.p h m->A2.p h l->D.p h (fun b=>m b∨l b)):aa B h0 h ((As.set i D).set j emp):=by
 obtain⟨t,p,c,z,a⟩:=H;refine⟨t,p,fun b=>if c b=j+1 then i+1 else c b,fun b e=>?_,fun k n d=>?_⟩
 ·have:=z b e;dsimp only;rw[if_neg (by omega)];exact this
 ·rw[qX]at d;split at d
  ·split at d
   ·cases d;trivial
   ·cases d
  ·rename_i q;rw[qX]at d;split at d
   ·rename_i g;subst g;split at d
    ·injection d with d
     subst d;refine D.mono (u _ _ (fun b f v=>by omega) (a i A r) (a j A2 s)) fun b e=>?_;rcases e with f|f
     ·exact⟨f.1,by dsimp only;rw[if_neg (by omega)];exact f.2⟩
     ·exact⟨f.1,by dsimp only;rw[if_pos f.2]⟩
    ·cases d
   ·rename_i g;refine n.mono (a k n d) fun b e=>⟨e.1,?_⟩
    dsimp only;rw[if_neg (by omega)];exact e.2
theorem aa.pick(H:aa B h0 h As)(f:Nat->Nat)(l:∀i j,f i=f j->i=j)(m:∀(i:Nat) (A2:HP),Bs[i]?=some A2->As[f i]?=some A2):aa B h0 h Bs:=by
 obtain⟨n,p,c,z,a⟩:=H
 classical
 refine⟨n,p,fun b=>if e:∃i,c b=f i+1 then e.choose+1 else 0,fun b e=>?_,fun i A2 g=>?_⟩
 ·have:=z b e;dsimp only;rw[dif_neg];rintro⟨i,g⟩;omega
 ·refine A2.mono (a _ _ (m i A2 g)) fun b e=>⟨e.1,?_⟩
  have d:∃i,c b=f i+1:=⟨i,e.2⟩
  dsimp only;rw[dif_pos d];have o:=d.choose_spec;have k:=l d.choose i (by omega);rw[k]
theorem aa.take(H:aa B h0 h As)(n:Nat)(a:∀(i:Nat) (A2:HP),Bs[i]?=some A2->As[n+i]?=some A2):aa B h0 h Bs:=H.pick (fun i=>n+i) (fun _ _ h=>by omega) a
end
section
variable {B:aB} {α:Type} {C:Ctx} {h0 h h':Heap} {As:List HP} {i e t t2:Nat} {s v:Sl} {k by_:Nat} {f:α->aW} {l l2:List α} {a:Addr} {cs z:aW} {p:aB} {ti:TI}
theorem aa.own(H:aa B h0 h As)(i:Nat)(a:As[i]?=some (ar e s k f l)):Own h e s k f l:=(H.at i a).1
theorem aa.seq(H:aa B h0 h As)(i:Nat)(a:As[i]?=some (ar e s k f l))(c:∀x,(f x).length=k):Seq h (fun b=>b<h.size) s k f l:=(H.at i a).1.seq c (H.at i a).2
theorem aa.rd(H:aa B h0 h As)(i:Nat)(a:As[i]?=some (sV s k f l)):Seq h (fun b=>b<h.size) s k f l:=H.at i a
theorem aa.box(H:aa B h0 h As)(i:Nat)(b:As[i]?=some (aq a e cs)):bX h a e cs:=(H.at i b).1
theorem aa.nU(H:aa B h0 h As)(i:Nat)(r:As[i]?=some (ar e s k f l)){β:Type}{m n:Nat}{g:β->aW}{p:List β}(o:aU (fun b=>¬s.on b) h h')(q:Own h' m s n g p):aa B h0 h' (As.set i (ar m s n g p)):=
 H.step i r fun _ d c=>⟨o.mono fun b _ a j=>a (d.2 b j),q,fun b a=>⟨qY (c b (d.2 b a)) o.1,.inl (d.2 b a)⟩⟩
theorem aa.BG(H:aa B h0 h As)(i:Nat)(m:As[i]?=some (aq a e cs)){c:aW}(j:aU (fun b=>b≠a.block) h h')(k:bX h' a e c):aa B h0 h' (As.set i (aq a e c)):=
 H.step i m fun q f d=>⟨j.mono fun b _ l g=>l (by rw[g];exact f.2),k,⟨qY (d _ f.2) j.1,.inl f.2⟩⟩
theorem aa.freeze(H:aa B h0 h As)(i:Nat)(c:As[i]?=some (ar e s k f l))(b:∀x,(f x).length=k):aa B h0 h (As.set i (sV s k f l)):=H.fO i c fun _ a=>a.1.seq b a.2
theorem aa.set(u:C.Ok)(H:aa B h0 h As)(i:Nat)(g:As[i]?=some (ar e s k f l))(o:∀x,(f x).length=k)(p:C.T.get t=some ti){x:Int}(n:Nat)(m:x=n)(j:n<l.length){c:Value}(y:α)(r:c.cells=(f y).toArray)(d:ti.size=k)
  (b:(f y).all (·.oneCell')=true) {K:Heap->Prop} (q:∀h',aa B h0 h' (As.set i (ar e s k f (l.set n y)))->K h'):
  ∃a:Addr,(s.ptr=some a/\0<=x/\x<((s.len:Nat):Int))/\ag C.P (qf t (.pointer (some (a.add (x.toNat*k)))) c) h fun _ h'=>K h':=
 (H.own i g).set u o p n m j y r d b fun h' z w _=>q h' (H.nU i g w z)
theorem aa.push(O:C.Ok)(H:aa B h0 h As)(i:Nat)(I:As[i]?=some (ar e s k f l))(L:bW C.toBE t e k z by_)(E:z.length=k)(q:0<by_/\by_<=128)(F:∀x,(f x).length=k)
  (m:∀x,∀c∈f x,c.oneCell'=true) (x:α) {parts:Array (Nat×Value)} (g:wo (fun i=>some (i*k,k)) (iv z 1).toArray parts.toList=some ([x].flatMap f).toArray)
  (p:1*k<=2^20) (r:l.length+1<=2^32) {ty:Nat} {K:Sl->Heap->Prop}
  (G:∀o h',aa B h0 h' (As.set i (ar e o k f (l++[x])))->K o h'):
  az C.P (qt t 1 parts) (.one (.sc .slc)) h fun v Q=>az C.P (qw #[t,t] ty #[.slice s.ptr s.len s.cap,.slice v.ptr v.len v.cap]) (.one (.sc .slc)) Q K:=by
 obtain⟨J,M,c,N,a⟩:=H;have w:=a i _ I;have A:dF h c (i+1) e s k f l:=⟨w.1,fun b j=>(w.2 b j).2⟩
 refine A.push O L E q F m x g p r fun o h' d u=>G o h' ?_;refine aa.CP J M N a (u.mono fun b j y D=>y ⟨j,D⟩) ⟨d.own,fun b j=>⟨d.own.lt j,?_⟩⟩;have:=d.bs b j;by_cases n:b<h.size
 ·rw[gc n]at this;exact .inl ⟨n,this⟩
 ·exact .inr (by omega)
theorem aa.append(R:C.Ok)(H:aa B h0 h As)(i:Nat)(L:As[i]?=some (ar e s k f l))(N:bW C.toBE t e k z by_)(A:∃i J,C.T.get t2=some i/\i.cU=.slice J)(E:z.length=k)(o:0<by_/\by_<=128)(F:∀x,(f x).length=k)
  (I:Seq h p v k f l2) (j:∀x,∀c∈f x,c.oneCell'=true) (q:l.length+l2.length<=2^32) {ty:Nat} {K:Sl->Heap->Prop}
  (G:∀n h',aa B h0 h' (As.set i (ar e n k f (l++l2)))->K n h'):
  az C.P (qw #[t,t2] ty #[.slice s.ptr s.len s.cap,.slice v.ptr v.len v.cap]) (.one (.sc .slc)) h K:=by
 obtain⟨M,O,c,Q,a⟩:=H;have u:=a i _ L;have y:dF h c (i+1) e s k f l:=⟨u.1,fun b g=>(u.2 b g).2⟩
 refine y.append R N A E o F I j q fun n h' d r=>G n h' ?_;refine aa.CP M O Q a (r.mono fun b g w D=>w ⟨g,D⟩) ⟨d.own,fun b g=>⟨d.own.lt g,?_⟩⟩;have:=d.bs b g;by_cases m:b<h.size
 ·rw[gc m]at this;exact .inl ⟨m,this⟩
 ·exact .inr (by omega)
theorem Ms{h h':Heap}{n:Nat}(i:n=h.size)(d:Own h' e s k f l)(g:s.ptr=some ⟨n,0,none⟩)(c:aU (fun _=>True) h h'):Sp h h' [ar e s k f l]:=
 .one (any c) ⟨d,fun b a=>⟨by obtain⟨o,a⟩:=a;rw[g]at a;cases a;omega,d.lt a⟩⟩
theorem aa.make(D:C.Ok)(H:aa B h0 h As)(f:α->aW)(v:bW C.toBE t e k z by_)(j:0<by_/\by_<=128)(c:α)(q:f c=z)(d:z.length=k){r u:IntKind}{n l:Int}(m b:Nat)(o:n=m)(p:l=b)(i:m<=b)(g:b<=2^32)
  {K:Sl->Heap->Prop} (s:∀a h',a.len=m->a.cap=b->aa B h0 h' (As++[ar e a k f (qg m c)])->K a h'):
  az C.P (qF t (.int r n) (.int u l)) (.one (.sc .slc)) h K:=
 run_make D v j c q d m b o p i g fun a h' x y w A _=>s a h' (by rw[x.len];simp) w (H.comp (Ms rfl x y A))
theorem aa.lit(p:C.Ok)(H:aa B h0 h As)(f:α->aW)(m:bW C.toBE t e k z by_)(c:z.length=k){n:Nat}{parts:Array (Nat×Value)}(l:List α)(g:l.length=n)(d:n*k<=2^20)
  (a:wo (fun i=>some (i*k,k)) (iv z n).toArray parts.toList=some (l.flatMap f).toArray) {K:Sl->Heap->Prop}
  (j:∀b h',aa B h0 h' (As++[ar e b k f l])->K b h'):
  az C.P (qt t n parts) (.one (.sc .slc)) h K:=
 Mr p m c l g d a fun b h' x y o _=>j b h' (H.comp (Ms rfl x y o))
theorem Mt{h h':Heap}(d:a.block=h.size)(c:bX h' a e cs)(b:aU (fun _=>True) h h'):Sp h h' [aq a e cs]:=
 .one (any b) ⟨c,by omega,c.lt⟩
theorem aa.alloc(c:C.Ok)(H:aa B h0 h As)(d:C.T.get t=some ti){K:Addr->Heap->Prop}(e:∀a h',aa B h0 h' (As++[aq a t ti.zero])->K a h'):
  aK C.P (qK t true (.tuple #[])) h K:=
 Am c d fun a h' x y b _=>e a h' (H.comp (Mt x y b))
theorem aa.boxed(H:aa B h0 h As){P:Program}{v:Value}{K:Addr->Heap->Prop}(c:∀a h',aa B h0 h' (As++[aq a t v.cells.toList])->K a h'):
  aK P (qM t v) h K:=
 Ug fun a h' x y b _=>c a h' (H.comp (Mt x y b))
theorem aa.store(l:C.Ok)(H:aa B h0 h As)(i:Nat)(f:As[i]?=some (aq a e cs))(k:C.T.get t=some ti)(off:Nat){v:Value}(vs:aW)(g:v.cells=vs.toArray)(d:ti.size=vs.length)
  (b:vs.all (·.oneCell')=true) (c:off+vs.length<=cs.length) {K:Unit->Heap->Prop}
  (j:∀h',aa B h0 h' (As.set i (aq a e (cs.take off++vs++cs.drop (off+vs.length))))->K () h'):
  ag C.P (qf t (.pointer (some (a.add off))) v) h K:=
 run_store l (H.box i f) k off vs g d b c fun h' x y _=>j h' (H.BG i f y x)
theorem aa.kv(k:C.Ok)(H:aa B h0 h As)(i:Nat)(l:As[i]?=some (aq a e cs))(j:C.T.get t=some ti){v:Value}(vs:aW)(f:v.cells=vs.toArray)(c:ti.size=vs.length)
  (b:vs.all (·.oneCell')=true) (d:vs.length<=cs.length) {K:Unit->Heap->Prop}
  (g:∀h',aa B h0 h' (As.set i (aq a e (vs++cs.drop vs.length)))->K () h'):
  ag C.P (qf t (.pointer (some a)) v) h K:=
 H.store k i l j 0 vs f c b (by omega) (fun h' x=>g h' (by simpa using x))
theorem aa.nil(H:aa B h0 h As)(e k:Nat)(f:α->aW):aa B h0 h (As++[ar e ⟨none,0,0⟩ k f []]):=
 H.comp (.one (aU.refl _ _) ⟨Own.nil h e k f,fun b a=>by obtain⟨o,a⟩:=a;cases a⟩)
theorem aa.Kb(H:aa B h0 h As)(e k:Nat)(f:α->aW):aa B h0 h (As++[fS e ⟨none,0,0⟩ k f []]):=
 H.comp (.one (aU.refl _ _) ⟨[],fun _=>False,Own.nil h e 1 bJ,fun b a=>(by obtain⟨o,a⟩:=a;cases a),fun _ a=>a.elim,rfl,fun i r l h=>by simp at h⟩)
theorem aa.uw(hC:C.Ok)(H:aa B h0 h As)(i j:Nat)(A:i≠j){J:List (List α)}{r:Sl}{x:List α}(U:As[i]?=some (fS e s k f J))(hj:As[j]?=some (sV r k f x))(he:bW C.toBE t e 1 [.slice none 0 0] 24)
  (ab:J.length+1<=2^32) {ty:Nat} {K:Sl->Heap->Prop} (hk:∀O h',aa B h0 h' ((As.set j emp).set i (fS e O k f (J++[x])))->K O h'):
  az C.P (qt t 1 #[(0,.slice r.ptr r.len r.cap)]) (.one (.sc .slc)) h fun v w=>az C.P (qw #[t,t] ty #[.slice s.ptr s.len s.cap,.slice v.ptr v.len v.cap]) (.one (.sc .slc)) w K:=by
 have H2:=H.merge i j A U hj (D:=⟨fun h q=>∃(rs:List Sl) (g:aB),Own h e s 1 bJ rs/\(∀b,s.on b->q b/\¬g b)/\(∀b,g b->q b)/\rs.length=J.length/\(∀(i:Nat) r l,rs[i]?=some r->J[i]?=some l->Seq h g r k f l)/\Seq h g r k f x,
  fun⟨rs,g,a,b,c,d,e,f⟩ hp=>⟨rs,g,a.ai hp fun x n=>(b x n).1,b,c,d,fun i r l w z=>(e i r l w z).ai (hp.mono fun x _ n=>c x n),f.ai (hp.mono fun x _ n=>c x n)⟩,
  fun⟨rs,g,a,b,c,d,e,f⟩ hq=>⟨rs,g,a,fun x n=>⟨hq x (b x n).1,(b x n).2⟩,fun x n=>hq x (c x n),d,e,f⟩⟩)
  (fun g Z hd hA hB=>by
   obtain⟨rs,q3,a,b,c,d,e'⟩:=hA;refine⟨rs,fun b=>q3 b∨Z b,a,fun x n=>⟨.inl (b x n).1,fun L=>L.elim (b x n).2 (hd x (b x n).1)⟩,fun x n=>n.elim (fun h=>.inl (c x h)) .inr,d,fun i r l w z=>(e' i r l w z).mono fun _ h=>.inl h,Seq.mono hB fun _ h=>.inr h⟩)
 have u:i<As.length:=(qn.1 U).1;obtain⟨lo,pp,c,zz,a⟩:=H2;have ha:=a i _ (by rw[List.getElem?_set_ne (Ne.symm A),List.getElem?_set_self u]);obtain⟨rs,g,a1,a2,a3,a4,a5,X⟩:=ha;let S:Nat->Nat:=fun b=> @ite _ (g b) (Classical.propDecidable _) (As.length+2) (c b);have F:∀b,g b->b<h.size/\c b=i+1:=a3;have W:dF h S (i+1) e s 1 bJ rs:=⟨a1,fun b m=>by
  have:=a2 b m;show @ite _ (g b) (Classical.propDecidable _) _ _=_;rw[if_neg this.2];exact this.1.2⟩
 refine W.push hC he rfl (by decide) (fun _=>rfl) lY r rfl (by decide) (by omega) fun O h' y G=>hk O h' ?_;rw[vo _ _ (Ne.symm A)];rw[<-List.set_set (l:=As) (i:=i),vo _ _ A];have M:∀b,g b->S b≠i+1:=fun b m=>by
  show @ite _ (g b) (Classical.propDecidable _) _ _≠_;rw[if_pos m];omega
 refine aa.CP lo pp zz a (G.mono fun b m V Y=>V ⟨m,?_⟩) ⟨rs++[r],fun b=>g b/\b<h.size,y.own,fun b m=>?_,fun b m=>⟨qY m.2 G.1,.inl ⟨m.2,(F b m.1).2⟩⟩,by simp[a4],fun R r' l' w z=>?_⟩
 ·by_cases E:g b
  ·exact(F b E).2
  ·have p:@ite _ (g b) (Classical.propDecidable _) (As.length+2) (c b)=i+1:=Y;rw[if_neg E]at p;exact p
 ·have o:=y.bs b m;by_cases u:b<h.size
  ·rw[gc u]at o;have N:¬g b:=fun E=>M b E o;have p:@ite _ (g b) (Classical.propDecidable _) (As.length+2) (c b)=i+1:=o;rw[if_neg N]at p;exact⟨⟨y.own.lt m,.inl ⟨u,p⟩⟩,fun L=>N L.1⟩
  ·exact⟨⟨y.own.lt m,.inr (by omega)⟩,fun L=>u L.2⟩
 ·have I:∀{T:Sl} {l:List α},Seq h g T k f l->Seq h' (fun b=>g b/\b<h.size) T k f l:=fun hs=>
   (hs.mono (q:=fun b=>g b/\b<h.size) fun b m=>⟨m,(F b m).1⟩).ai (G.mono fun b _ m=>M b m.1)
  by_cases Q:R<rs.length
  ·rw[qm Q]at w;rw[qm (by omega)]at z;exact I (a5 R r' l' w z)
  ·have:R=rs.length:=by
    have:=(qn.1 w).1;simp at this;omega
   subst this;simp at w;rw[a4]at z;simp at z;subst w;subst z;exact I X
theorem aa.rows(H:aa B h0 h As)(i:Nat){g:List (List α)}(m:As[i]?=some (fS e s k f g)):∃rs,gT h (fun b=>b<h.size) s k f g rs:=by
 obtain⟨rs,p,a,b,c,d,e⟩:=H.at i m;exact⟨rs,a.seq (fun _=>rfl) fun x n=>(b x n).1,d,fun i r l o j=>(e i r l o j).mono c⟩
end
theorem ZY(vs:aW):∀(pre old post:aW),old.length=vs.length->((vs.zipIdx 0).foldl (fun(cs:Array Value) (p:Value×Nat)=>cs.setIfInBounds (pre.length+p.2) p.1) (pre++old++post).toArray)=(pre++vs++post).toArray:=by
 have b:∀(vs pre old post:aW) (k:Nat),old.length=vs.length->pre.length=pre.length->∀n,n+k=pre.length->((vs.zipIdx k).foldl (fun(cs:Array Value) (p:Value×Nat)=>cs.setIfInBounds (n+p.2) p.1) (pre++old++post).toArray)=(pre++vs++post).toArray:=by
  intro vs
  induction vs with
  |nil=>intro pre old post k a _ n _;rw[qZ a];rfl
  |cons v vs ih=>
   intro pre old post k a _ n c;cases old with
   |nil=>simp at a
   |cons u old=>
    rw[List.zipIdx_cons,List.foldl_cons];have e:(pre++(u::old)++post).toArray.setIfInBounds (n+k) v=((pre++[v])++old++post).toArray:=by
     rw[c];apply ym;simp
    dsimp only;rw[e,ih (pre++[v]) old post (k+1) (by simpa using a) rfl n (by simp;omega)];simp
 intro pre old post h;exact b vs pre old post 0 h rfl pre.length (by omega)
theorem PS{a:Nat->Option (Nat×Nat)}{i:Nat}{v:Value}{vs pre old post:aW}{rest:List (Nat×Value)}(d:v.cells=vs.toArray)(c:a i=some (pre.length,vs.length))(b:old.length=vs.length):
  wo a (pre++old++post).toArray ((i,v)::rest)=wo a (pre++vs++post).toArray rest:=by
 conv=>lhs;unfold wo
 simp only[c,d];rw[if_neg (by simp;omega)];congr 1;have:=ZY vs pre old post b;simpa using this
section
variable {C:Ctx} {t:Nat} {i:TI} {h:Heap}
theorem uK(k:C.Ok)(o:C.T.get t=some i){m:List (Nat×TypeId)}(g:i.cU=.struct m){c:List (Nat×Nat)}(d:placesOf C.T m=some c){vs:List (Nat×Value)}{cells:Array Value}
  (a:wo (fun n=>c[n]?) i.zero.toArray vs=some cells):aF C.P (Instr.build t vs.toArray) (.agg cells):=by
 obtain⟨z,q,j⟩:=rJ k.toOk o;have b:i.zero.toArray=z.cells:=by rw[<-j]
 have l:=k.cU o;rw[g]at l;obtain⟨p,r,rfl⟩:=oH l;refine q.bind ((aM r).bind ?_);have e:aF C.P (p.mapM fun f=>(do pure (f.offset,<-sizeOf f.type):Sem (Nat×Nat))) c.toArray:=by
  rw[Array.mapM_eq_mapM_toList];intro w;have:=nh k.toOk d w;rw[map_eq_pure_bind,Sem.run_bind,this];rfl
 refine e.bind ?_;have h:wo (fun n=>c.toArray[n]?) z.cells vs.toArray.toList=some cells:=by
  rw[<-b];simpa using a
 rw[h];exact .pure
end
theorem take_set{α:Type}(l:List α)(n:Nat)(x:α)(h:n<l.length):l.take n++[x]++l.drop (n+1)=l.set n x:=by
 rw[yF,if_pos h];simp
section
variable {B:aB} {C:Ctx} {h0 h h':Heap} {As:List HP} {e t:Nat} {a:Addr} {cs:aW} {ti:TI}
theorem aa.storeAt(k:C.Ok)(H:aa B h0 h As)(i:Nat)(l:As[i]?=some (aq a e cs))(j:C.T.get t=some ti){off:Nat}{v:Value}(f:v.cells=#[v])(d:ti.size=1)
  (b:v.oneCell'=true) (c:off<cs.length) {K:Unit->Heap->Prop}
  (g:∀h',aa B h0 h' (As.set i (aq a e (cs.set off v)))->K () h'):
  ag C.P (qf t (.pointer (some (a.add off))) v) h K:=
 H.store k i l j off [v] f d (by simp[b]) (by simp;omega) fun h' x=>g h' (by rw[<-take_set _ _ _ c];simpa using x)
theorem aa.storeAll(k:C.Ok)(H:aa B h0 h As)(i:Nat)(l:As[i]?=some (aq a e cs))(j:C.T.get t=some ti){v:Value}(vs:aW)(f:v.cells=vs.toArray)(c:ti.size=vs.length)
  (b:vs.all (·.oneCell')=true) (d:vs.length=cs.length) {K:Unit->Heap->Prop}
  (g:∀h',aa B h0 h' (As.set i (aq a e vs))->K () h'):
  ag C.P (qf t (.pointer (some a)) v) h K:=
 H.kv k i l j vs f c b (by omega) fun h' x=>g h' (by rw[zb (by omega),List.append_nil]at x;exact x)
end
theorem tR(n:Nat)(a:n<=9223372036854775807:=by omega):qc xt (n:Int)=n:=ak _
abbrev Rd{α:Type}(h:Heap)(s:Sl)(k:Nat)(f:α->aW)(l:List α):Prop:=Seq h (fun b=>b<h.size) s k f l
abbrev gx{α:Type}(h:Heap)(s:Sl)(k:Nat)(f:α->aW)(a:List (List α)):Prop:=∃rs,gT h (fun b=>b<h.size) s k f a rs
section
variable {α:Type} {B:aB} {h0 h h':Heap} {As:List HP} {s:Sl} {k e:Nat} {f:α->aW} {l:List α} {ll:List (List α)}
theorem gx.up(a:gx h s k f ll)(c:aU (fun b=>b<h.size) h h'):gx h' s k f ll:=by
 obtain⟨rs,a⟩:=a;exact⟨rs,gT.up a c⟩
theorem gx.len(a:gx h s k f ll):s.len=ll.length:=by obtain⟨rs,a⟩:=a;exact a.PM
theorem gx.get(b:gx h s k f ll){i:Int}(n:Nat)(g:i=n)(c:n<ll.length){K:Sl->Prop}(d:∀r,Rd h r k f ll[n]->K r):
  ∃a:Addr,(s.ptr=some a/\0<=i/\i<((s.len:Nat):Int))/\∃x:Sl,cellOf h (a.add (i.toNat*1))=some (.slice x.ptr x.len x.cap)/\K x:=by
 obtain⟨rs,b⟩:=b;exact b.get n g c fun r e _=>d r e
theorem Seq.isSome{p:aB}(c:Seq h p s k f l)(a:l≠[]):s.ptr.isNone=false:=by
 cases l with
 |nil=>exact absurd rfl a
 |cons x t=>obtain⟨b,o,d,_⟩:=c.elem 0 x (by simp);rw[d];rfl
theorem Seq.isNil{p:aB}(b:Seq h p s k f l)(a:s.ptr.isNone=true):l=[]:=by
 cases l with
 |nil=>rfl
 |cons x t=>rw[b.isSome (by simp)]at a;cases a
theorem aa.Ie(H:aa B h0 h As)(i:Nat)(a:As[i]?=some (fS e s k f ll)):gx h s k f ll:=H.rows i a
end
section
variable {B:aB} {h0 h h':Heap} {As Bs:List HP} {A D:HP}
theorem aa.del(H:aa B h0 h As)(i:Nat):aa B h0 h (As.eraseIdx i):=
 H.pick (fun j=>if j<i then j else j+1) (fun a b d=>by split at d<;>split at d<;>omega) fun j A e=>by
  rw[List.getElem?_eraseIdx]at e;split at e
  ·rename_i c;rw[if_pos c];exact e
  ·rename_i c;rw[if_neg c];exact e
theorem aa.call(H:aa B h0 h As)(i:Nat)(y:As[i]?=some A)(q:aB)(L:∀q':aB,A.p h q'->∀b,q b->q' b)(R:aa (fun b=>b<h.size/\¬q b) h h' (D::Bs)):aa B h0 h' (As.set i D++Bs):=by
 classical
 obtain⟨E,G,j,z,F⟩:=H;obtain⟨_,t,g,J,u⟩:=R;have s:=G.1;have w:=(qn.1 y).1;have l:∀b,q b->b<h.size/\j b=i+1:=L _ (F i A y);have x:∀b,B b->b<h.size/\¬q b:=fun b a=>⟨qY (E b a) s,fun m=>by have:=z b a;have:=l b m;omega⟩
 let c:Nat->Nat:=fun b=>if b<h.size/\¬q b then(if j b=i+1 then 0 else j b)else if g b=0 then 0 else if g b=1 then i+1 else As.length+g b-1
 have e:∀b,b<h.size/\¬q b->j b≠i+1->c b=j b:=fun b a I=>by show ite _ _ _=_;rw[if_pos a,if_neg I]
 have f:∀b,g b≠0->c b=if g b=1 then i+1 else As.length+g b-1:=fun b a=>by
  have:¬(b<h.size/\¬q b):=fun m=>a (J b m);show ite _ _ _=_;rw[if_neg this,if_neg a]
 refine⟨E,G.then t fun b _ a=>x b a,c,fun b a=>?_,fun k r d=>?_⟩
 ·have:=z b a;rw[e b (x b a) (by omega)];exact this
 ·by_cases v:k<As.length
  ·rw[qm (by simpa using v),qX]at d;split at d
   ·rename_i n;subst n;injection d with d
    subst d;refine D.mono (u 0 D rfl) fun b a=>⟨a.1,?_⟩
    rw[f b (by omega),if_pos a.2]
   ·rename_i n;have o:∀b,b<h.size/\j b=k+1->b<h.size/\¬q b:=fun b a=>⟨a.1,fun m=>by have:=l b m;omega⟩
    refine r.mono (r.loc (F k r d) (t.mono fun b _ a=>o b a)) fun b a=>⟨qY a.1 t.1,?_⟩
    rw[e b (o b a) (by omega)];exact a.2
  ·rw[qj (by simpa using v)]at d;rw[zA]at d;have K:=u (k-As.length+1) r (by simpa using d);refine r.mono K fun b a=>⟨a.1,?_⟩
   rw[f b (by omega),if_neg (by omega)];omega
end
section
variable {B:aB} {α:Type} {h0 h h':Heap} {As Bs:List HP} {A D:HP} {e k:Nat} {s:Sl} {f:α->aW} {l:List α}
theorem aa.off(H:aa B h0 h As)(i j:Nat)(g:i≠j)(n:As[i]?=some (ar e s k f l))(o:As[j]?=some A):A.p h (fun b=>b<h.size/\¬s.on b):=by
 obtain⟨_,_,c,_,a⟩:=H;refine A.mono (a j A o) fun b m=>⟨m.1,fun d=>?_⟩
 have:=(a i _ n).2 b d;omega
theorem aa.base(H:aa B h0 h As)(i:Nat)(j:As[i]?=some (ar e s k f l)){b:Nat}(g:B b):¬s.on b:=fun d=>by
 obtain⟨_,_,c,z,a⟩:=H;have:=(a i _ j).2 b d;have:=z b g;omega
theorem aa.adZ(H:aa B h0 h (As++[D]))(i:Nat)(k:i<As.length):aa B h0 h (As.set i D):=
 H.pick (fun j=>if j<As.length then(if j=i then As.length else j)else j+1) (fun a b c=>by split at c<;>split at c<;>(try split at c)<;>(try split at c)<;>omega) fun j A f=>by
  have e:j<As.length:=by have:=(qn.1 f).1;simpa using this
  rw[if_pos e];rw[qX]at f;split at f
  ·rename_i d;subst d;rw[if_pos rfl,qj (ql _),Nat.sub_self];exact f
  ·rename_i d;rw[if_neg (fun g=>d g.symm),qm e];exact f
theorem aa.abU(H:aa B h0 h As)(i j:Nat){A2:HP}(m:As[i]?=some A)(n:As[j]?=some A2):aa B h0 h ((As.set i A2).set j A):=by
 have k:=(qn.1 m).1;have g:=(qn.1 n).1;refine H.pick (fun x=>if x=j then i else if x=i then j else x) (fun a b c=>by split at c<;>split at c<;>(try split at c)<;>(try split at c)<;>omega) fun x o d=>?_;rw[qX,qX]at d;by_cases f:j=x
 ·subst f;simp[g]at d;subst d;simpa using m
 ·by_cases l:i=x
  ·subst l;simp[f,k]at d;subst d;rw[if_neg (fun e=>f e.symm),if_pos rfl];exact n
  ·simp[f,l]at d;rw[if_neg (fun e=>f e.symm),if_neg (fun e=>l e.symm)];exact d
end
def bR{α:Type}(e k:Nat)(f:α->aW)(rs:List Sl)(a:List (List α)):List HP:=List.zipWith (fun r l=>ar e r k f l) rs a
section
variable {α:Type} {e k:Nat} {f:α->aW} {rs:List Sl} {ll:List (List α)}
theorem Sx(h:rs.length=ll.length):(bR e k f rs ll).length=ll.length:=by simp[bR,h]
theorem jX(h:rs.length=ll.length)(i:Nat)(b:i<ll.length):(bR e k f rs ll)[i]?=some (ar e (rs[i]'(by omega)) k f ll[i]):=by
 have a:i<rs.length:=by omega
 simp[bR,wv,qd b,qd a]
theorem uL(h:rs.length=ll.length)(r:Sl)(l:List α):bR e k f (rs++[r]) (ll++[l])=bR e k f rs ll++[ar e r k f l]:=by
 unfold bR;rw[List.zipWith_append h];rfl
theorem lC(h:rs.length=ll.length)(i:Nat)(r:Sl)(l:List α):(bR e k f rs ll).set i (ar e r k f l)=bR e k f (rs.set i r) (ll.set i l):=by
 apply List.ext_getElem?;intro j;simp only[bR,qX,wv,List.length_zipWith];by_cases a:i=j
 ·subst a;by_cases b:i<ll.length
  ·have:i<rs.length:=by omega
   simp[b,this];omega
  ·have:¬i<rs.length:=by omega
   simp[b];omega
 ·simp[a]
theorem PT(h:rs.length=ll.length)(i:Nat)(a:i<ll.length)(l:List α):(bR e k f rs ll).set i (ar e (rs[i]'(by omega)) k f l)=bR e k f rs (ll.set i l):=by
 rw[lC h,List.set_getElem_self]
theorem aa.PU{B:aB}{h0 h:Heap}{s:Sl}{b:Nat}(H:aa B h0 h (ar b s 1 bJ rs::bR e k f rs ll))(c:rs.length=ll.length)(j:∀x,(f x).length=k):gx h s k f ll:=by
 refine⟨rs,H.seq 0 rfl (fun _=>rfl),c,fun i r l g a=>?_⟩;have d:i<ll.length:=(qn.1 a).1;have m:=jX (e:=e) (k:=k) (f:=f) c i d;have h3:=H.seq (i+1) (by simpa using m) j;have b:rs[i]'(by omega)=r:=by rw[qd (by omega)]at g;simpa using g
 have n:ll[i]=l:=by rw[qd d]at a;simpa using a
 rw[b,n]at h3;exact h3
end
section
variable {α:Type} {h:Heap} {p:aB} {s:Sl} {f:α->aW} {l:List α}
theorem Seq.Ps{X:Type}{g:X->Value}(e:Seq h p s 1 f l){i:Int}(n:Nat)(q:i=n)(j:n<l.length)(x:X)(k:f l[n]=[g x]){K:Addr->X->Prop}(m:∀a:Addr,cellOf h (a.add (i.toNat*1))=some (g x)->K a x):
  ∃a:Addr,(s.ptr=some a/\0<=i/\i<((s.len:Nat):Int))/\∃x:X,cellOf h (a.add (i.toNat*1))=some (g x)/\K a x:=by
 subst q;obtain⟨b,o,r,_,h3⟩:=e.elem n l[n] (qd j);rw[k]at h3;have c:=h3.1;rw[add_eq,yu]at c;have d:cellOf h ((⟨b,o,none⟩:Addr).add ((n:Int).toNat*1))=some (g x):=by rw[add_eq];simpa using c
 exact⟨_,⟨r,by omega,by rw[e.len];omega⟩,x,d,m _ d⟩
end
theorem Seq.oJ{h:Heap}{p:aB}{s:Sl}{rs:List Sl}(e:Seq h p s 1 bJ rs){i:Int}(n:Nat)(k:i=n)(f:n<rs.length){K:Addr->Sl->Prop}
  (j:∀a:Addr,cellOf h (a.add (i.toNat*1))=some (.slice rs[n].ptr rs[n].len rs[n].cap)->p (a.add (i.toNat*1)).block->K a rs[n]):
  ∃a:Addr,(s.ptr=some a/\0<=i/\i<((s.len:Nat):Int))/\∃x:Sl,cellOf h (a.add (i.toNat*1))=some (.slice x.ptr x.len x.cap)/\K a x:=by
 subst k;obtain⟨b,o,l,g,h3⟩:=e.elem n rs[n] (qd f);have c:=h3.1;rw[add_eq,yu]at c;have d:cellOf h ((⟨b,o,none⟩:Addr).add ((n:Int).toNat*1))=some (.slice rs[n].ptr rs[n].len rs[n].cap):=by rw[add_eq];simpa using c
 exact⟨_,⟨l,by omega,by rw[e.len];omega⟩,rs[n],d,j _ d (by rw[add_eq];exact g)⟩
section
variable {B:aB} {α:Type} {h0 h:Heap} {As:List HP} {e k:Nat} {s:Sl} {f:α->aW} {l:List α}
theorem Own.cut(a:Own h e s k f l)(c:∀x,(f x).length=k)(j:Nat)(g:j<=l.length):Own h e ⟨s.ptr,j,s.cap⟩ k f (l.take j):=by
 have d:=a.len;refine⟨by simp;omega,?_⟩;rcases a.head with⟨h1,h2,h3⟩|⟨b,rest,h1,h2,h3,h4⟩
 ·subst h3;exact .inl ⟨h1,h2,by simp⟩
 ·refine .inr ⟨b,(l.drop j).flatMap f++rest,h1,?_,?_,by dsimp only;omega⟩
  ·rw[<-qp,<-zh,qI];exact h2
  ·rw[qx,dR c,za,h3,<-Nat.add_mul];dsimp only;congr 1;omega
end
section
variable {B:aB} {α:Type} {C:Ctx} {h0 h:Heap} {As:List HP} {e t k:Nat} {s:Sl} {f:α->aW} {l:List α} {ti:TI}
end
section
variable {C:Ctx} {t t2 ty e k:Nat} {z:aW} {by_:Nat} {α:Type} {h h0:Heap} {p B:aB} {s v:Sl} {f:α->aW} {l l2:List α} {As:List HP}
theorem Own.Kc(F:C.Ok)(E:bW C.toBE t e k z by_)(o:∀x,(f x).length=k)(j:Own h e s k f l)(D:Seq h p v k f l2)(g:∀x,∀c∈f x,c.oneCell'=true){K:Int->Heap->Prop}
  (A:∀n h',Own h' e s k f (l2.take l.length++l.drop l2.length)->aU (fun b=>¬s.on b) h h'->K n h'):
  az C.P (wX #[t,t2] ty #[.slice s.ptr s.len s.cap,.slice v.ptr v.len v.cap]) (.one (.sc (.int .i64))) h K:=by
 unfold az wX;simp only[zZ,yQ,qy];refine ag.bind (ag.always (aM (E.under F)) ?_);refine ag.bind (ag.pure' ?_);refine ag.bind (ag.always (E.size F) ?_);have a:=j.len;have d:=D.len;obtain⟨m,i⟩:∃m,m=Nat.min v.len s.len:=⟨_,rfl⟩
 rw[<-i];have B:m<=l2.length:=by rw[i,<-d];exact Nat.min_le_left _ _
 have y:m<=l.length:=by rw[i,<-a];exact Nat.min_le_right _ _
 have J:m=min l2.length l.length:=by rw[i,a,d]
 have q:=D.take m B;have H:l2.take l.length++l.drop l2.length=l2.take m++l.drop m:=by
  rcases Nat.le_total l2.length l.length with hh|hh
  ·rw[List.take_of_length_le hh,show m=l2.length by omega,List.take_length]
  ·rw[show m=l.length by omega,zb hh,List.drop_length]
 rw[H]at A;have r:wB k m (.slice v.ptr v.len v.cap)=wB k m (.slice v.ptr m v.cap):=by cases v.ptr<;>rfl
 rw[r];refine ag.bind (hO (v:=⟨v.ptr,m,v.cap⟩) o q ?_);rcases j.head with⟨h1,h2,h3⟩|⟨b,rest,h1,h2,h3,h4⟩
 ·rw[h1];subst h3;have:m=0:=by simpa using y
  subst this;refine ag.pure' ⟨_,rfl,A _ h ?_ (aU.refl _ _)⟩;simpa using j
 ·rw[h1];refine ag.bind ?_;have u:l.flatMap f++rest=(l.take m).flatMap f++((l.drop m).flatMap f++rest):=by
   rw[<-qp,<-zh,qI]
  rw[u]at h2;refine fA (e:=e) (pre:=[]) (old:=(l.take m).flatMap f) (post:=(l.drop m).flatMap f++rest) (by simpa using h2) (by rw[dR o,dR o,zd,zd];congr 1;omega) rfl ?_ ?_
  ·intro c I;obtain⟨x,_,w⟩:=zm.1 I;exact g x c w
  ·refine ag.pure' ⟨_,rfl,A _ _ ⟨by rw[a,qx,zd,za];omega,.inr ⟨b,rest,h1,?_,h3,h4⟩⟩ (aU.ji h2 (fun G=>G ⟨0,h1⟩))⟩;rw[iF h2,if_pos rfl,zh];simp
theorem aa.Kc(o:C.Ok)(H:aa B h0 h As)(i:Nat)(b:As[i]?=some (ar e s k f l))(j:bW C.toBE t e k z by_)(m:∀x,(f x).length=k)(d:Seq h p v k f l2)(a:∀x,∀c∈f x,c.oneCell'=true){K:Int->Heap->Prop}
  (g:∀n h',aa B h0 h' (As.set i (ar e s k f (l2.take l.length++l.drop l2.length)))->K n h'):
  az C.P (wX #[t,t2] ty #[.slice s.ptr s.len s.cap,.slice v.ptr v.len v.cap]) (.one (.sc (.int .i64))) h K:=
 (H.own i b).Kc o j m d a fun n h' x y=>g n h' (H.nU i b y x)
end
def Mu(d:Sl)(w i:Nat):Sl:=⟨if d.cap=i*w then d.ptr else d.ptr.map (·.add (i*w*1)),(i+1)*w-i*w,d.cap-i*w⟩
def Fc{α:Type}(l:List α)(w i:Nat):List α:=(l.drop (i*w)).take w
theorem Seq.piece{α:Type}{h:Heap}{p:aB}{s:Sl}{f:α->aW}{l:List α}(c:Seq h p s 1 f l)(d:s.len<=s.cap)(w i:Nat)(j:(i+1)*w<=l.length):Seq h p (Mu s w i) 1 f (Fc l w i):=by
 have g:=c.drop (i*w) d;have e:(i+1)*w=i*w+w:=zJ i w;have b:=g.take w (by rw[za];omega);have a:(i+1)*w-i*w=w:=by omega
 unfold Mu Fc;rw[a];exact b
theorem acR{α:Type}{l:List α}{w i:Nat}(a:(i+1)*w<=l.length):(Fc l w i).length=w:=by
 have e:(i+1)*w=i*w+w:=zJ i w;simp only[Fc,zd,za];omega
end Go.Vc
