/- Lemmas for the proof of the law; no condition. -/
import Derived.Test.YtnjommcknbionaaGreatDoorPlD
set_option linter.unusedVariables false
set_option linter.unusedSimpArgs false
open List renaming ext_getElem -> yI, foldl_append -> zT, foldl_nil -> wj, getD_eq_getElem?_getD -> qg, getElem?_append_left -> ql, getElem?_append_right -> qh, getElem?_eq_getElem -> qd, getElem?_eq_none -> qX, getElem?_map -> qN, getElem?_set -> qW, getElem?_take -> yv, getElem_drop -> wz, getElem_mem -> qn, getElem_of_mem -> qQ, length_append -> qp, length_drop -> qR, length_map -> qC, length_range -> zm, length_take -> qO, mem_append -> qE, mem_map -> qH, mem_of_mem_take -> yl, mem_singleton -> qB, range -> qz, replicate -> qi, take_append_drop -> qy, take_of_length_le -> qj, take_succ_eq_append_getElem -> zp, take_zero -> vx
open Bool renaming or_eq_true -> zV
open Go.Builtin renaming clear_ -> y0, zeroCells -> wT
open UInt8 renaming lt_iff_toNat_lt -> zD, xor_zero -> zR, zero_xor -> wG
open Nat renaming le_refl -> qt, lt_succ_iff_lt_or_eq -> yn, sub_self -> q5
open Int renaming toNat_natCast -> qo
namespace Wl
open Go
def cY(o b t:Int):Int:=(128*o+16*b+t)%4294967296
def di(m:aC)(r:cJ):Bool:=eX r&&(decide (r.p=m.p)&&m.aF.any fun x=>decide (x.object=r.object)&&(decide (r.block<(x.tries.length:Int))&&decide (r.seed=cY r.object r.block (x.tries.getD r.block.toNat 0))))
def kw(a b:cJ):Bool:=decide (a.object<b.object∨(a.object=b.object/\(a.block<b.block∨(a.block=b.block/\a.id<=b.id))))
def jt(a b:cJ):Bool:=decide (a.object=b.object/\a.block=b.block/\a.id=b.id)
def pS:cJ:=⟨0,0,0,(0,0,0),0,[]⟩
def tj(l:List cJ)(k:Nat):Bool:=decide (k=0)||!jt (l.getD k pS) (l.getD (k-1) pS)
def rx(l:List cJ):List cJ:=((qz l.length).filter (tj l)).map fun i=>l.getD i pS
def cM(m:aC)(c:aQ):Option cJ:=match bR c with|some r=>if di m r then some r else none|none=>none
def gU(m:aC)(l:cu):List cJ:=rx ((l.filterMap (cM m)).mergeSort kw)
theorem Rl:Ord kw:=⟨fun a b c e d=>by
 unfold kw at*;rw[decide_eq_true_eq]at*;omega,fun a b=>by
 unfold kw;rw[zV,decide_eq_true_eq,decide_eq_true_eq];omega⟩
theorem ML(m:aC)(l:cu)(i:Nat)(a:i<l.length):(l.take (i+1)).filterMap (cM m)=(l.take i).filterMap (cM m)++(cM m l[i]).toList:=by
 have:l.take (i+1)=l.take i++[l[i]]:=by rw[List.take_add_one,qd a];rfl
 rw[this,List.filterMap_append];cases hg:cM m l[i]with
 |none=>simp[hg]
 |some r=>simp[hg]
end Wl
namespace Go.Vc
open Go
section
variable {B:ap} {α:Type} {C:Ctx} {h0 h:Heap} {As:List HP} {e t k by_:Nat} {s:Sl} {f:α->aM} {l:List α} {z:aM}
theorem uo(z:aM)(n:Nat):(wT z.toArray n).toList.length=n*z.length:=by
 simp[wT]
theorem Hb{z:aM}(d:∀v∈z,v.oneCell'=true)(n:Nat):∀v∈(wT z.toArray n).toList,v.oneCell'=true:=by
 intro v c;simp only[wT,Array.toList_map,qH,Array.mem_toList_iff,Array.mem_range]at c;obtain⟨i,a,rfl⟩:=c;simp only[List.size_toArray]at a⊢;have h0:0<z.length:=by
  rcases Nat.eq_zero_or_pos z.length with h|h
  ·rw[h]at a;simp at a
  ·exact h
 have b:=Nat.mod_lt i h0;rw[getElem!_pos z.toArray _ (by simpa using b)];exact d _ (by simp)
theorem Own.xp(A:C.Ok)(i:Own h e s k f l)(w:bP C.torQ t e k z by_)(u:∀x,(f x).length=k)(B:z.length=k)(d:∀v∈z,v.oneCell'=true)(j:Nat)(y:j<=l.length){ty:Nat}{K:Heap->Prop}
  (r:∀h',Own h' e ⟨s.ptr,j,s.cap⟩ k f (l.take j)->aH (fun b=>¬s.on b) h h'->K h'):
  ae C.P (y0 #[t] ty #[.slice (if s.cap=j then s.ptr else s.ptr.map (·.add (j*k))) (s.len-j) (s.cap-j)]) h fun _ h'=>K h':=by
 have O:=i.len;have c:=i.cut u j y;unfold y0;refine ae.bind (ae.always (aE (w.under A)) ?_);by_cases n:j=l.length
 ·have G:s.len-j=0:=by omega
  rw[G];generalize (if s.cap=j then s.ptr else s.ptr.map (·.add (j*k)))=q;cases q with
  |none=>exact ae.pure' (r h c (aH.refl _ _))
  |some a=>exact ae.pure' (r h c (aH.refl _ _))
 ·rcases i.head with⟨h1,h2,h3⟩|⟨b,rest,h1,h2,h3,h4⟩
  ·subst h3;simp at y n;omega
  ·have g:s.cap≠j:=by omega
   rw[if_neg g,h1];obtain⟨m,H⟩:∃m,s.len-j=m+1:=⟨s.len-j-1,by omega⟩
   rw[H];obtain⟨U,T,N,R,D,S,E,Q⟩:=w.ex;obtain⟨I,M,L⟩:=mN A.toOk D;refine ae.bind (ae.always M ?_);have o:I.cells=z.toArray:=by apply Array.ext';rw[L,E]
   rw[o];refine ae.bind ?_;have J:((⟨b,0,none⟩:Addr).add (j*k))=⟨b,j*k,none⟩:=by simp[add_eq]
   show ae C.P (storeCells ((⟨b,0,none⟩:Addr).add (j*k)) (wT z.toArray (m+1)).toList) h _;rw[J];have p:(l.drop j).length=m+1:=by simp;omega
   refine cN (e:=e) (pre:=(l.take j).flatMap f) (old:=(l.drop j).flatMap f) (post:=rest) ?_ ?_ ?_ (Hb d _) ?_
   ·rw[<-List.flatMap_append,qy];exact h2
   ·rw[cD u,p,uo,B]
   ·rw[cD u,qO,Nat.min_eq_left (by omega)];omega
   ·refine ae.pure' (r _ ⟨by simp;omega,.inr ⟨b,(wT z.toArray (m+1)).toList++rest,h1,?_,?_,by dsimp only;omega⟩⟩ ?_)
    ·rw[eG h2,if_pos rfl];simp
    ·rw[qp,uo,B,h3,<-Nat.add_mul];dsimp only;congr 1;omega
    ·exact aH.fG h2 fun F=>F ⟨0,h1⟩
theorem aa.xp(p:C.Ok)(H:aa B h0 h As)(i:Nat)(m:As[i]?=some (ao e s k f l))(n:bP C.torQ t e k z by_)(w:∀x,(f x).length=k)(r:z.length=k)(a:∀v∈z,v.oneCell'=true)(j:Nat)(o:j<=l.length){ty:Nat}{K:Heap->Prop}
  (u:∀h',aa B h0 h' (As.set i (ao e ⟨s.ptr,j,s.cap⟩ k f (l.take j)))->K h'):
  ae C.P (y0 #[t] ty #[.slice (if s.cap=j then s.ptr else s.ptr.map (·.add (j*k))) (s.len-j) (s.cap-j)]) h fun _ h'=>K h':=
 (H.own i m).xp p n w r a j o fun h' x y=>u h' (H.step i m fun q g _=>⟨y.mono fun b _ c d=>c (g.2 b d),x,fun b c=>⟨x.lt c,.inl (g.2 b c)⟩⟩)
end
end Go.Vc
namespace Wl
open Go
theorem HO:∀x y:aQ,(Op.bytesLess x y||x==y)=!Op.bytesLess y x
 |[],[]=>rfl
 |[],_::_=>rfl
 |_::_,[]=>by simp[Op.bytesLess]
 |a::x,b::y=>by
  have f:=HO x y;have e:a<b∨a=b∨b<a:=by
   rcases Nat.lt_trichotomy a.toNat b.toNat with h|h|h
   ·exact .inl (zD.2 h)
   ·exact .inr (.inl (UInt8.toNat_inj.1 h))
   ·exact .inr (.inr (zD.2 h))
  rcases e with h|rfl|h
  ·have c:¬b<a:=fun h'=>by have:=zD.1 h;have:=zD.1 h';omega
   have d:b≠a:=fun h'=>by subst h';exact c h
   simp[Op.bytesLess,h,c,d]
  ·have c:¬a<a:=fun h'=>by have:=zD.1 h';omega
   simp only[Op.bytesLess,c,decide_false,Bool.false_or,beq_self_eq_true,Bool.true_and];rw[<-f];congr 1;simp
  ·have c:¬a<b:=fun h'=>by have:=zD.1 h;have:=zD.1 h';omega
   have d:a≠b:=fun h'=>by subst h';exact c h
   simp[Op.bytesLess,h,c,d]
theorem AP:∀x y z:aQ,Op.bytesLess x y=true->Op.bytesLess y z=true->Op.bytesLess x z=true
 |x,[],_,h1,_=>by cases x<;>simp[Op.bytesLess]at h1
 |_,b::y,[],_,h2=>by simp[Op.bytesLess]at h2
 |[],_::_,_::_,_,_=>rfl
 |a::x,b::y,c::z,h1,h2=>by
  simp only[Op.bytesLess,zV,decide_eq_true_eq,Bool.and_eq_true,beq_iff_eq]at h1 h2⊢;rcases h1 with h1|⟨rfl,h1⟩
  ·rcases h2 with h2|⟨rfl,h2⟩
   ·exact .inl (zD.2 (by have:=zD.1 h1;have:=zD.1 h2;omega))
   ·exact .inl h1
  ·rcases h2 with h2|⟨rfl,h2⟩
   ·exact .inl h2
   ·exact .inr ⟨rfl,AP x y z h1 h2⟩
theorem ON(x:aQ):Op.bytesLess x x=false:=by
 have:=HO x x;cases h:Op.bytesLess x x with
 |false=>rfl
 |true=>rw[h]at this;simp at this
def gA(a b:ByteArray):Bool:=!dw b a
theorem Du(a b:ByteArray):gA a b=true↔dw a b=true∨a.toList=b.toList:=by
 unfold gA dw;rw[<-HO,zV,beq_iff_eq]
theorem xq(a b c:ByteArray)(e:gA a b=true)(d:gA b c=true):gA a c=true:=by
 rw[Du]at e d⊢;unfold dw at*;rcases e with e|e
 ·rcases d with d|d
  ·exact .inl (AP _ _ _ e d)
  ·rw[<-d];exact .inl e
 ·rw[e];exact d
theorem xr(a b:ByteArray):(gA a b||gA b a)=true:=by
 unfold gA;cases h:dw b a with
 |false=>rfl
 |true=>
  have:dw a b=false:=by
   cases h2:dw a b with
   |false=>rfl
   |true=>
    have:=AP _ _ _ h h2;rw[ON]at this;cases this
  rw[this];rfl
def lB(a b:ca):Bool:=gA a.name b.name
def fy(m:aC)(x:ca):aC:={m with seq:=m.seq+1,next:=m.next+1,aF:=(m.aF++[x]).mergeSort lB}
open Classical
theorem iF(a:UInt8):a^^^a=0:=UInt8.xor_self
theorem AQ(a b:UInt8):(a^^^b)^^^b=a:=by rw[UInt8.xor_assoc,iF,zR]
theorem ce{c:UInt8}{a t:Row}(h:a.length=t.length)(j:Nat):aJ (cV c a t) j=aJ t j^^^Gf.mul c (aJ a j):=by
 simp only[aJ,cV,qg,List.getElem?_zipWith];by_cases b:j<a.length
 ·rw[qd b,qd (by omega)];rfl
 ·rw[qX (by omega),qX (by omega)];simp[Gf.mul_zero]
theorem pT(c:UInt8)(a:Row)(j:Nat):aJ (scaleB c a) j=Gf.mul c (aJ a j):=by
 simp only[aJ,scaleB,qg,qN];cases a[j]? with
 |none=>simp[Gf.mul_zero]
 |some x=>rfl
def aZ(n:Nat):Row:=qi n 0
theorem cE(n j:Nat):aJ (aZ n) j=0:=by
 simp only[aJ,aZ,qg,List.getElem?_replicate];split<;>rfl
theorem fq{n:Nat}{a b:Row}(e:a.length=n)(f:b.length=n)(h:∀j,j<n->aJ a j=aJ b j):a=b:=by
 apply yI (by omega);intro j d c;have:=h j (by omega);simpa[aJ,qg,qd d,qd c]using this
inductive Span (n:Nat) (m:aT):Row->Prop
 |zero:Span n m (aZ n)
 |add (c:UInt8) (r v:Row):r∈m->Span n m v->Span n m (cV c r v)
section
variable {n:Nat} {m m':aT}
theorem Span.len(a:aW n m){v:Row}(h:Span n m v):v.length=n:=by
 induction h with
 |zero=>simp[aZ]
 |add c r v hr _ ih=>rw[bG (by rw[a r hr,ih])];exact ih
theorem Span.comb(a:aW n m){u v:Row}(f:Span n m u)(b:Span n m v)(c:UInt8):Span n m (cV c u v):=by
 induction f with
 |zero=>
  have:cV c (aZ n) v=v:=fq (n:=n) (by rw[bG (by simp[aZ,b.len a])];exact b.len a) (b.len a) fun j _=>by
   rw[ce (by simp[aZ,b.len a]),cE,Gf.mul_zero,zR]
  rw[this];exact b
 |add d r w hr hw ih=>
  have e:=b.len a;have l2:=hw.len a;have g:=a r hr;have:cV c (cV d r w) v=cV (Gf.mul c d) r (cV c w v):=fq (n:=n) (by rw[bG (by rw[bG];omega)];exact e) (by rw[bG (by rw[bG];omega),bG];exact e) fun j _=>by
   rw[ce (by rw[bG];omega),ce (by omega),ce (by rw[bG];omega),ce (by omega),Gf.gO,Gf.mul_assoc]
   ac_rfl
  rw[this];exact .add _ _ _ hr ih
theorem Span.row(b:aW n m){r:Row}(a:r∈m):Span n m r:=by
 have:=Span.add 1 r _ a (.zero (n:=n) (m:=m));have e:cV 1 r (aZ n)=r:=fq (n:=n) (by rw[bG (by simp[aZ,b r a])];simp[aZ]) (b r a) fun j _=>by
  rw[ce (by simp[aZ,b r a]),cE,Gf.one_mul,wG]
 rwa [e]at this
theorem Span.sub(a:aW n m)(h:∀r∈m',Span n m r){v:Row}(b:Span n m' v):Span n m v:=by
 induction b with
 |zero=>exact .zero
 |add c r v hr _ ih=>exact(h r hr).comb a ih c
theorem Span.mono(h:∀r∈m',r∈m){v:Row}(a:Span n m' v):Span n m v:=by
 induction a with
 |zero=>exact .zero
 |add c r v hr _ ih=>exact .add c r v (h r hr) ih
theorem Span.SQ(d:aW n m)(φ:Row->UInt8)(f:φ (aZ n)=0)(g:∀c a t,a.length=n->t.length=n->φ (cV c a t)=φ t^^^Gf.mul c (φ a))(e:∀r∈m,φ r=0){v:Row}(b:Span n m v):φ v=0:=by
 induction b with
 |zero=>exact f
 |add c r v hr' b ih=>rw[g c r v (d r hr') (b.len d),ih,e r hr',Gf.mul_zero,zR]
end
def ry(S:Row->Prop)(j:Nat):Prop:=∃v,S v/\(∀i,i<j->aJ v i=0)/\aJ v j≠0
noncomputable def leads(S:Row->Prop)(n:Nat):Nat:=(qz n).countP fun j=>decide (ry S j)
structure Way (n:Nat) (m:aT) (c top:Nat) (rows:aT):Prop where
 even:aW n rows
 len:rows.length=m.length
 tle:top<=rows.length
 span:∀v,Span n rows v↔Span n m v
 cnt:top=leads (Span n m) c
 piv:∃p:Nat->Nat,(∀i,i<top->p i<c)/\(∀i,i<top->∀k,k<rows.length->aJ (az rows k) (p i)=if k=i then 1 else 0)/\(∀i,i<top->∀j,j<p i->aJ (az rows i) j=0)/\(∀i j,i<j->j<top->p i<p j)
 low:∀k,top<=k->k<rows.length->∀j,j<c->aJ (az rows k) j=0
theorem mem_row{m:aT}{i:Nat}(h:i<m.length):az m i∈m:=by rw[bE h];exact qn h
theorem ff{m:aT}{r:Row}(h:r∈m):∃i,i<m.length/\r=az m i:=by
 obtain⟨i,a,rfl⟩:=qQ h;exact⟨i,a,(bE a).symm⟩
theorem Fl{m:aT}{i j:Nat}{r:Row}(a:i<m.length):az (m.set i r) j=if i=j then r else az m j:=by
 simp only[az,qg,qW];by_cases h:i=j
 ·subst h;simp[a]
 ·simp[h]
theorem oQ{m:aT}{i j k:Nat}(d:i<m.length)(c:j<m.length):az (ge m i j) k=if k=j then az m i else if k=i then az m j else az m k:=by
 rw[ge,Fl (by simpa using c),Fl d];by_cases b:j=k
 ·rw[if_pos b,if_pos b.symm]
 ·rw[if_neg b,if_neg (show¬k=j from fun h=>b h.symm)];by_cases a:i=k
  ·rw[if_pos a,if_pos a.symm]
  ·rw[if_neg a,if_neg (show¬k=i from fun h=>a h.symm)]
theorem tk{m:aT}{t c k:Nat}(a:t<m.length):az (gG t c m) k=if t=k then scaleB (Gf.inv (aJ (az m t) c)) (az m t)else az m k:=by
 rw[gG,Fl a]
section
variable {n:Nat} {m:aT}
theorem OO(l:aW n m){i j:Nat}(b:i<m.length)(a:j<m.length)(v:Row):Span n (ge m i j) v↔Span n m v:=by
 refine⟨Span.mono fun r d=>?_,Span.mono fun r d=>?_⟩
 ·obtain⟨k,c,rfl⟩:=ff d;rw[iE]at c;rw[oQ b a];split
  ·exact mem_row b
  ·split
   ·exact mem_row a
   ·exact mem_row c
 ·obtain⟨k,c,rfl⟩:=ff d;have e:∀x,x<m.length->az (ge m i j) x∈ge m i j:=fun x h=>mem_row (by rw[iE];exact h);by_cases f:k=i
  ·subst f;have:=e j a;rw[oQ b a,if_pos rfl]at this;exact this
  ·by_cases g:k=j
   ·subst g;have:=e i b;rw[oQ b a]at this;by_cases h3:i=k
    ·exact absurd h3.symm f
    ·rw[if_neg h3,if_pos rfl]at this;exact this
   ·have:=e k c;rw[oQ b a,if_neg g,if_neg f]at this;exact this
theorem OP(g:aW n m){t c:Nat}(b:t<m.length)(i:aJ (az m t) c≠0)(v:Row):Span n (gG t c m) v↔Span n m v:=by
 have a:=pQ g (c:=c) b;have f:=bW g b;have q:∀(x:UInt8) (r:Row),r.length=n->scaleB x r=cV x r (aZ n):=fun x r d=>fq (n:=n) (by rw[pP,d]) (by rw[bG (by simp[aZ,d])];simp[aZ]) fun j _=>by
  rw[pT,ce (by simp[aZ,d]),cE,wG]
 refine⟨Span.sub g fun r d=>?_,Span.sub a fun r d=>?_⟩
 ·obtain⟨k,h,rfl⟩:=ff d;rw[kL]at h;rw[tk b];split
  ·rw[q _ _ f];exact .add _ _ _ (mem_row b) .zero
  ·exact Span.row g (mem_row h)
 ·obtain⟨k,h,rfl⟩:=ff d;have e:∀x,x<m.length->Span n (gG t c m) (az (gG t c m) x):=fun x s=>Span.row a (mem_row (by rw[kL];exact s));by_cases o:t=k
  ·subst o;have:=e t b;rw[tk b,if_pos rfl]at this;have l:=this.comb a .zero (aJ (az m t) c);have p:cV (aJ (az m t) c) (scaleB (Gf.inv (aJ (az m t) c)) (az m t)) (aZ n)=az m t:=fq (n:=n) (by rw[bG (by simp[aZ,pP,f])];simp[aZ]) f fun j _=>by
    rw[ce (by simp[aZ,pP,f]),cE,wG,pT,<-Gf.mul_assoc,Gf.Fk i,Gf.one_mul]
   rw[p]at l;exact l
  ·have:=e k h;rw[tk b,if_neg o]at this;exact this
theorem OQ(d:aW n m){t c:Nat}(f:t<m.length)(v:Row):Span n (dn t c m m.length) v↔Span n m v:=by
 have b:=pR d (c:=c) (k:=m.length) f;have s:=bW d f;refine⟨Span.sub d fun r i=>?_,Span.sub b fun r i=>?_⟩
 ·obtain⟨k,a,rfl⟩:=ff i;rw[kM]at a;rw[mA a];split
  ·exact .add _ _ _ (mem_row f) (Span.row d (mem_row a))
  ·exact Span.row d (mem_row a)
 ·obtain⟨k,a,rfl⟩:=ff i;have e:∀x,x<m.length->Span n (dn t c m m.length) (az (dn t c m m.length) x):=fun x q=>Span.row b (mem_row (by rw[kM];exact q));have h:=e t f;rw[mA f,if_neg (by simp)]at h;by_cases o:k=t
  ·subst o;exact h
  ·have l:=e k a;rw[mA a,if_pos ⟨a,o⟩]at l;have h3:=h.comb b l (aJ (az m k) c);have g:=bW d a;have p:cV (aJ (az m k) c) (az m t) (cV (aJ (az m k) c) (az m t) (az m k))=az m k:=fq (n:=n) (by rw[bG (by rw[bG];omega),bG];exact g) g fun j _=>by
    rw[ce (by rw[bG];omega),ce (by omega),AQ]
   rw[p]at h3;exact h3
def bw(f g:Nat->UInt8):Nat->UInt8
 |0=>0
 |k+1=>bw f g k^^^Gf.mul (f k) (g k)
theorem fg(f g:Nat->UInt8):∀k,(∀i,i<k->f i=0)->bw f g k=0
 |0,_=>rfl
 |k+1,h=>by rw[bw,fg f g k fun i a=>h i (by omega),h k (by omega),Gf.zero_mul];rfl
theorem Fm(f g:Nat->UInt8)(x:Nat):∀k,x<k->(∀i,i<k->f i=if x=i then 1 else 0)->bw f g k=g x
 |0,hx,_=>by omega
 |k+1,hx,h=>by
  rw[bw];by_cases a:x=k
  ·subst a;rw[fg f g x fun i b=>by rw[h i (by omega),if_neg (by omega)],h x (by omega),if_pos rfl,Gf.one_mul,wG]
  ·rw[Fm f g x k (by omega) fun i b=>h i (by omega),h k (by omega),if_neg a,Gf.zero_mul,zR]
theorem AR(b a g:Nat->UInt8)(c:UInt8):∀k,bw (fun i=>b i^^^Gf.mul c (a i)) g k=bw b g k^^^Gf.mul c (bw a g k)
 |0=>by simp[bw,Gf.mul_zero]
 |k+1=>by
  rw[bw,bw,bw,AR b a g c k,Gf.gO,Gf.LN,Gf.mul_assoc]
  ac_rfl
theorem Dv(S:Row->Prop)(c:Nat):leads S (c+1)=leads S c+if ry S c then 1 else 0:=by
 simp only[leads,List.range_succ,List.countP_append,List.countP_cons,List.countP_nil];by_cases h:ry S c<;>simp[h]
theorem OR(c:aW n m):Way n m 0 0 m:=⟨c,rfl,by omega,fun _=>Iff.rfl,by simp[leads],⟨fun _=>0,fun i a=>by omega,fun i a=>by omega,fun i a=>by omega,fun i j _ b=>by omega⟩,fun k _ _ j b=>by omega⟩
theorem Rm(hm:aW n m){c b:Nat}{rows:aT}(w:Way n m c b rows)(hc:c<n):Way n m (c+1) (gf (b,rows) c).1 (gf (b,rows) c).2:=by
 obtain⟨G,Z,al,W,L,⟨p,P,p2,p3,p4⟩,f⟩:=w;have hS:∀v,Span n rows v↔Span n m v:=W;have S:Span n rows=Span n m:=funext fun v=>propext (hS v);unfold gf;dsimp only;cases hb:fS rows b c with
 |none=>
  have R:=KC hb;dsimp only;have ax:¬ry (Span n m) c:=by
   rw[<-S];rintro⟨v,hv,hz,ay⟩;apply ay;have hφ:=Span.SQ G (fun v=>aJ v c^^^bw (fun i=>aJ v (p i)) (fun i=>aJ (az rows i) c) b) (by
     simp only[cE];rw[fg _ _ _ fun i _=>rfl];rfl) (fun x a t ha ht=>by
     simp only[ce (show a.length=t.length by omega)];rw[AR,Gf.gO];ac_rfl) (fun r hr=>by
     obtain⟨k,F,rfl⟩:=ff hr;by_cases O:k<b
     ·rw[Fm _ _ k b O fun i E=>by rw[p2 i E k F]];exact iF _
     ·rw[R k (by omega) F,fg _ _ _ fun i E=>by rw[p2 i E k F,if_neg (by omega)]];rfl) hv
   rw[fg _ _ _ fun i E=>hz _ (P i E),zR]at hφ;exact hφ
  refine⟨G,Z,al,W,by rw[Dv,if_neg ax,L];rfl,⟨p,fun i E=>by have:=P i E;omega,p2,p3,p4⟩,fun k A y j d=>?_⟩;rcases yn.1 d with h|rfl
  ·exact f k A y j h
  ·exact R k A y
 |some at_=>
  have hh:=mR hb;obtain⟨h1,T,h3⟩:=hh;dsimp only;have q:b<rows.length:=by omega
  obtain⟨g,z⟩:∃g,g=ge rows b at_:=⟨_,rfl⟩
  have l1:g.length=rows.length:=by rw[z,iE]
  have U:aW n g:=by rw[z];exact xi G q T
  have q1:∀k,az g k=if k=at_ then az rows b else if k=b then az rows at_ else az rows k:=fun k=>by rw[z,oQ q T]
  have X:az g b=az rows at_:=by
   rw[q1];by_cases h:b=at_
   ·rw[if_pos h,h]
   ·rw[if_neg h,if_pos rfl]
  have J:aJ (az g b) c≠0:=by rw[X];exact h3
  obtain⟨s,B⟩:∃s,s=gG b c g:=⟨_,rfl⟩
  have l2:s.length=rows.length:=by rw[B,kL,l1]
  have D:aW n s:=by rw[B];exact pQ U (by omega)
  have q2:∀k,az s k=if b=k then scaleB (Gf.inv (aJ (az g b) c)) (az g b)else az g k:=fun k=>by rw[B,tk (by omega)]
  have ad:∀j,aJ (az g b) j=0->aJ (az s b) j=0:=fun j d=>by rw[q2,if_pos rfl,pT,d,Gf.mul_zero]
  have l:aJ (az s b) c=1:=by rw[q2,if_pos rfl,pT,Gf.mul_comm,Gf.Fk J]
  obtain⟨M,o⟩:∃M,M=dn b c s rows.length:=⟨_,rfl⟩
  have l3:M.length=rows.length:=by rw[o,kM,l2]
  have q3:∀k,k<rows.length->∀j,aJ (az M k) j=if k=b then aJ (az s b) j else aJ (az g k) j^^^Gf.mul (aJ (az g k) c) (aJ (az s b) j):=fun k F j=>by
   rw[o,mA (by omega)];by_cases h:k=b
   ·rw[if_neg (by omega),if_pos h,h]
   ·have e:=q2 k;rw[if_neg (fun hh=>h hh.symm)]at e;rw[if_pos ⟨F,h⟩,if_neg h,ce (by rw[bW D,bW D]),e]
  have Y:∀j,j<c->aJ (az s b) j=0:=fun j d=>ad j (by rw[X];exact f at_ h1 T j d);have keep:∀k,k<rows.length->∀j,j<c->aJ (az M k) j=if k=b then 0 else aJ (az g k) j:=fun k F j d=>by
   rw[q3 k F,Y j d,Gf.mul_zero,zR]
  have K:∀k,k<b->az g k=az rows k:=fun k F=>by rw[q1,if_neg (by omega),if_neg (by omega)]
  have I:∀k,b<=k->k<rows.length->∀j,j<c->aJ (az g k) j=0:=fun k A y j d=>by
   rw[q1];split
   ·exact f b (qt _) q j d
   ·split
    ·exact f at_ h1 T j d
    ·exact f k A y j d
  have u:∀v,Span n M v↔Span n m v:=fun v=>by
   rw[o,show rows.length=s.length by omega,OQ D (by omega),B,OP U (by omega) J,z,OO G q T,hS]
  have N:ry (Span n m) c:=⟨az M b,(u _).1 (Span.row (by rw[o];exact pR D (by omega)) (mem_row (by omega))),fun j d=>by rw[keep b q j d,if_pos rfl],by rw[q3 b q,if_pos rfl,l];decide⟩
  have V:dn b c (gG b c (ge rows b at_)) rows.length=M:=by rw[o,B,z]
  rw[V];refine⟨by rw[o];exact pR D (by omega),by omega,by omega,u,by rw[Dv,if_pos N,L],⟨fun i=>if i<b then p i else c,fun i E=>?_,fun i E k F=>?_,fun i E j d=>?_,fun i j am d=>?_⟩,fun k A y j d=>?_⟩
  ·dsimp only;split
   ·have:=P i (by assumption);omega
   ·omega
  ·dsimp only;by_cases hit:i<b
   ·rw[if_pos hit,keep k (by omega) _ (P i hit)];by_cases O:k<b
    ·rw[if_neg (by omega),K k O];exact p2 i hit k (by omega)
    ·rw[if_neg (show¬k=i by omega)];split
     ·rfl
     ·exact I k (by omega) (by omega) _ (P i hit)
   ·have Q:i=b:=by omega
    subst Q;rw[if_neg hit,q3 k (by omega)];by_cases H:k=i
    ·rw[if_pos H,if_pos H];exact l
    ·rw[if_neg H,if_neg H,l,Gf.mul_one];exact iF _
  ·dsimp only at d;by_cases hit:i<b
   ·rw[if_pos hit]at d;have:=P i hit;rw[keep i (by omega) j (by omega),if_neg (by omega),K i hit];exact p3 i hit j d
   ·have Q:i=b:=by omega
    subst Q;rw[if_neg hit]at d;rw[keep i (by omega) j d,if_pos rfl]
  ·dsimp only;rw[if_pos (show i<b by omega)];split
   ·exact p4 i j am (by assumption)
   ·exact P i (by omega)
  ·rcases yn.1 d with h|rfl
   ·rw[keep k (by omega) j h,if_neg (by omega)];exact I k (by omega) (by omega) j h
   ·rw[q3 k (by omega),if_neg (by omega),l,Gf.mul_one];exact iF _
theorem AS(a:aW n m):∀c,c<=n->Way n m c (bu m c).1 (bu m c).2
 |0,_=>OR a
 |c+1,h=>by rw[bu];exact Rm a (AS a c (by omega)) (by omega)
theorem iM:∀c,bu [] c=(0,[])
 |0=>rfl
 |c+1=>by rw[bu,iM c];rfl
theorem lC(a:aW n m):cR m=leads (Span n m) n:=by
 rw[<-(AS a n (qt _)).cnt,cR];cases m with
 |nil=>rw[iM,iM]
 |cons x t=>rw[fe,bE (by simp)];rw[show((x::t)[0]).length=n from a _ (by simp)]
end
section
variable {n:Nat} {m m':aT}
theorem MM{S b:Row->Prop}(h:∀v,S v->b v)(n:Nat):leads S n<=leads b n:=by
 refine List.countP_mono_left fun j _ a=>?_;simp only[decide_eq_true_eq]at a⊢;obtain⟨v,d,c⟩:=a;exact⟨v,h v d,c⟩
theorem IG(a:aW n m):cR m<=n:=by
 rw[lC a];have:=List.countP_le_length (p:=fun j=>decide (ry (Span n m) j)) (l:=qz n);simpa[leads]using this
theorem OS(b:aW n m)(a:aW n m')(h:∀r∈m,r∈m'):cR m<=cR m':=by
 rw[lC b,lC a];exact MM (fun v=>Span.mono h) n
theorem count_one{P Q:Nat->Bool}(l:List Nat)(d:l.Nodup)(h:∀a∈l,P a=true->Q a=true)(e:∀a∈l,∀b∈l,Q a=true->P a=false->Q b=true->P b=false->a=b):l.countP Q<=l.countP P+1:=by
 induction l with
 |nil=>simp
 |cons x t ih=>
  rw[List.nodup_cons]at d;have f:=ih d.2 (fun a c=>h a (by simp[c])) (fun a c b i=>e a (by simp[c]) b (by simp[i]));simp only[List.countP_cons];cases hQ:Q x with
  |false=>
   have:(if P x=true then 1 else 0)>=0:=by omega
   simp;omega
  |true=>
   cases hP:P x with
   |true=>simp;omega
   |false=>
    have:t.countP Q<=t.countP P:=by
     refine List.countP_mono_left fun a c g=>?_;cases hpa:P a with
     |true=>rfl
     |false=>
      have:=e x (by simp) a (by simp[c]) hQ hP g hpa;subst this;exact absurd c d.1
    simp;omega
theorem Gj(g:aW n m){r:Row}(b:r.length=n){v:Row}(o:Span n (m++[r]) v):∃(c:UInt8) (u:Row),Span n m u/\v=cV c r u:=by
 have k:aW n (m++[r]):=fun x i=>by
  rcases qE.1 i with h|h
  ·exact g x h
  ·rw[qB.1 h];exact b
 induction o with
 |zero=>exact⟨0,aZ n,.zero,(fq (n:=n) (by rw[bG (by simp[aZ,b])];simp[aZ]) (by simp[aZ]) fun j _=>by rw[ce (by simp[aZ,b]),cE,Gf.zero_mul];rfl).symm⟩
 |add d x w i hw ih=>
  obtain⟨c,u,f,rfl⟩:=ih;have a:=f.len g;rcases qE.1 i with h|h
  ·have l:=g x h;refine⟨c,cV d x u,.add d x u h f,fq (n:=n) (by rw[bG (by rw[bG];omega),bG];exact a) (by rw[bG (by rw[bG];omega),bG];exact a) fun j _=>?_⟩;rw[ce (by rw[bG];omega),ce (by omega),ce (by rw[bG];omega),ce (by omega)]
   ac_rfl
  ·have e:=qB.1 h;subst e;refine⟨c^^^d,u,f,fq (n:=n) (by rw[bG (by rw[bG];omega),bG];exact a) (by rw[bG];exact a) fun j _=>?_⟩;rw[ce (by rw[bG];omega),ce (by omega),ce (by omega),Gf.LN]
   ac_rfl
theorem OT(b:aW n m){r:Row}(a:r.length=n):aW n (m++[r]):=fun x c=>by
 rcases qE.1 c with h|h
 ·exact b x h
 ·rw[qB.1 h];exact a
theorem OU(e:aW n m){r:Row}(E:r.length=n):cR m<=cR (m++[r])/\cR (m++[r])<=cR m+1:=by
 have k:=OT e E;refine⟨OS e k fun x G=>by simp[G],?_⟩;rw[lC e,lC k];refine count_one _ List.nodup_range (fun a _ H=>?_) (fun a _ b _ A o B q=>?_)
 ·simp only[decide_eq_true_eq]at H⊢;obtain⟨v,K,I⟩:=H;exact⟨v,Span.mono (fun x G=>by simp[G]) K,I⟩
 ·simp only[decide_eq_true_eq,decide_eq_false_iff_not]at A o B q;have l:∀a b,ry (Span n (m++[r])) a->¬ry (Span n m) a->ry (Span n (m++[r])) b->¬ry (Span n m) b->¬a<b:=by
   rintro a b ⟨v,N,M,D⟩ o ⟨w,O,h,p⟩ q t;obtain⟨c,u,J,rfl⟩:=Gj e E N;obtain⟨d,s,g,rfl⟩:=Gj e E O;have P:=J.len e;have l2:=g.len e;have L:d≠0:=by
    rintro rfl;apply q;refine⟨s,g,fun i F=>?_,?_⟩
    ·have:=h i F;rw[ce (by omega),Gf.zero_mul,zR]at this;exact this
    ·rw[ce (by omega),Gf.zero_mul,zR]at p;exact p
   apply o;refine⟨cV (Gf.mul c (Gf.inv d)) s u,g.comb e J _,?_⟩;have f:∀j,aJ (cV (Gf.mul c (Gf.inv d)) s u) j=aJ (cV c r u) j^^^Gf.mul (Gf.mul c (Gf.inv d)) (aJ (cV d r s) j):=fun j=>by
    rw[ce (by omega),ce (by omega),ce (by omega),Gf.gO,<-Gf.mul_assoc (Gf.mul c (Gf.inv d)) d,Gf.mul_assoc c (Gf.inv d) d,Gf.mul_comm (Gf.inv d) d,Gf.Fk L,Gf.mul_one];have:∀x y z:UInt8,x^^^y=x^^^z^^^(y^^^z):=fun x y z=>by
     have:x^^^z^^^(y^^^z)=x^^^y^^^(z^^^z):=by ac_rfl
     rw[this,iF,zR]
    exact this _ _ _
   refine⟨fun i F=>?_,?_⟩
   ·rw[f,M i F,h i (by omega),Gf.mul_zero];rfl
   ·rw[f,h a t,Gf.mul_zero,zR];exact D
  have K:=l a b A o B q;have I:=l b a B q A o;omega
theorem oR(m:aT)(h:aW n m):cR m<=m.length:=by
 have a:∀k,k<=m.length->cR (m.take k)<=k:=by
  intro k
  induction k with
  |zero=>intro _;simp[cR,fe,az,bu]
  |succ k ih=>
   intro f;have b:aW n (m.take k):=fun x c=>h x (yl c);have e:=ih (by omega);rw[zp (by omega)];have d:=(OU b (h _ (qn (show k<m.length by omega)))).2;omega
 have:=a m.length (qt _)
 rwa [qj (qt _)]at this
end
def HQ(p:Int×Int×Int)(seed:Int)(a:aB):Nat:=cR (dY p seed a)
def fz(p:Int×Int×Int)(seed:Int)(a:aB):Bool:=bC p&&((HQ p seed a:Int)==ck p)
def dU(p:Int×Int×Int):aB:=upto (max 0 (min p.1 16)).toNat
theorem Cl{p:Int×Int×Int}(h:bC p=true):ck p=p.1+p.2.1:=by rw[ck,if_pos h]
theorem xt(p:Int×Int×Int)(seed:Int)(b:aB):aW (ck p).toNat (dY p seed b):=by
 intro r a;unfold dY at a;split at a
 ·rename_i c;have:=(bS p).1 c;rcases qE.1 a with h|h
  ·obtain⟨x,_,rfl⟩:=qH.1 h;rw[IB,Cl c];omega
  ·obtain⟨x,_,rfl⟩:=qH.1 h;exact Ri _ _ _
 ·cases a
theorem Rn(p:Int×Int×Int)(seed:Int)(a:aB):(dY p seed a).length<=4+a.length:=by
 unfold dY;split
 ·rename_i b;have:=(bS p).1 b;have c:=List.length_filter_le bD a;simp only[qp,bK,qC,zm];omega
 ·simp
def dG(a b:aT):aT:=List.zipWith (·++·) a b
def hO(n:Nat)(m:aT):aT:=m.map (List.take n)
theorem Cm{r:Row}{n j:Nat}(h:j<n):aJ (r.take n) j=aJ r j:=by
 simp only[aJ,qg,yv];rw[if_pos h]
theorem IH(r:Row)(n j:Nat):aJ (r.drop n) j=aJ r (n+j):=by
 simp only[aJ,qg,List.getElem?_drop]
theorem oy(n:Nat)(m:aT)(i:Nat):az (hO n m) i=(az m i).take n:=by
 simp only[az,hO,qg,qN];cases m[i]? with
 |none=>simp
 |some r=>rfl
theorem Fo(n:Nat)(m:aT):(hO n m).length=m.length:=by simp[hO]
theorem MN{n a bp:Nat}(m:aT)(h:bp<n):fS (hO n m) a bp=fS m a bp:=by
 unfold fS;rw[Fo];congr 1;funext i;rw[oy,Cm h]
theorem Fp(n:Nat)(m:aT)(i:Nat)(r:Row):hO n (m.set i r)=(hO n m).set i (r.take n):=by simp[hO,List.map_set]
theorem Ro(n:Nat)(m:aT)(i j:Nat):hO n (ge m i j)=ge (hO n m) i j:=by
 rw[ge,Fp,Fp,ge,oy,oy]
theorem OV(n:Nat)(c:UInt8)(r:Row):(scaleB c r).take n=scaleB c (r.take n):=by simp[scaleB,List.map_take]
theorem TY(n:Nat)(c:UInt8)(a t:Row):(cV c a t).take n=cV c (a.take n) (t.take n):=by simp[cV,List.take_zipWith]
theorem Rp{n bp:Nat}(h:bp<n)(t:Nat)(m:aT):hO n (gG t bp m)=gG t bp (hO n m):=by
 rw[gG,Fp,OV,gG,oy,Cm h]
theorem Rq{n bp:Nat}(h:bp<n)(t k:Nat)(m:aT):hO n (dn t bp m k)=dn t bp (hO n m) k:=by
 apply List.ext_getElem?;intro i;simp only[hO,dn,qN,List.getElem?_mapIdx];cases m[i]? with
 |none=>rfl
 |some r=>
  simp only[Option.map_some];congr 1;have:=oy n m t;rw[hO]at this;rw[this,Cm h];split
  ·exact TY _ _ _ _
  ·rfl
theorem Rr{n bp:Nat}(h:bp<n)(s:Nat×aT):((gf s bp).1,hO n (gf s bp).2)=gf (s.1,hO n s.2) bp:=by
 unfold gf;dsimp only;rw[MN _ h];cases fS s.2 s.1 bp with
 |none=>rfl
 |some i=>dsimp only;rw[Rq h,Rp h,Ro,Fo]
theorem Dw(n:Nat)(m:aT):∀c,c<=n->((bu m c).1,hO n (bu m c).2)=bu (hO n m) c
 |0,_=>rfl
 |c+1,h=>by
  have a:=Dw n m c (by omega);rw[bu,bu,Rr (show c<n by omega),a]
theorem jS{a b:aT}(h:a.length=b.length):(dG a b).length=a.length:=by simp[dG,h]
theorem AT{a b:aT}(h:a.length=b.length){i:Nat}(c:i<a.length):az (dG a b) i=az a i++az b i:=by
 rw[bE (by rw[jS h];exact c),bE c,bE (by omega)];simp[dG]
theorem kO{n w:Nat}{a b:aT}(h:a.length=b.length)(f:aW n a)(d:aW w b):aW (n+w) (dG a b):=fun r e=>by
 obtain⟨i,c,rfl⟩:=ff e;rw[jS h]at c;rw[AT h c,qp,bW f c,bW d]
theorem TZ{n:Nat}{a b:aT}(h:a.length=b.length)(d:aW n a):hO n (dG a b)=a:=by
 apply yI (by rw[Fo,jS h]);intro i e c;have:=oy n (dG a b) i;rw[bE e,AT h c,List.take_left' (bW d c),bE c]at this;exact this
theorem Rs{n:Nat}{a:aT}(b:aW n a):(bu a n).1=cR a:=by
 rw[cR];cases a with
 |nil=>rw[iM,iM]
 |cons x t=>rw[fe,bE (by simp)];rw[show((x::t)[0]).length=n from b _ (by simp)]
theorem II{n:Nat}{a b:aT}(h:a.length=b.length)(c:aW n a):(bu (dG a b) n).1=cR a:=by
 have:=congrArg Prod.fst (Dw n (dG a b) n (qt _));rw[TZ h c]at this;rw[<-Rs c];exact this
def mB(w:Nat)(r:Row)(X:aT):Nat->Row
 |0=>aZ w
 |k+1=>cV (aJ r k) (az X k) (mB w r X k)
theorem ia{n w:Nat}{X:aT}(a:aW w X)(c:X.length=n)(r:Row):∀k,k<=n->(mB w r X k).length=w
 |0,_=>by simp[mB,aZ]
 |k+1,h=>by
  have b:=ia a c r k (by omega);rw[mB,bG (by rw[bW a,b])];exact b
theorem jA{n w:Nat}{X:aT}(a:aW w X)(b:X.length=n)(r:Row)(j:Nat):∀k,k<=n->aJ (mB w r X k) j=bw (fun i=>aJ r i) (fun i=>aJ (az X i) j) k
 |0,_=>by rw[mB,cE];rfl
 |k+1,h=>by
  have c:=jA a b r j k (by omega);rw[mB,ce (by rw[bW a,ia a b r k (by omega)]),c];rfl
def ky(n w:Nat)(a b X:aT):Prop:=X.length=n/\aW w X/\∀i,i<a.length->mB w (az a i) X n=az b i
theorem Ru{m a:aT}(d:m.length=a.length)(h:∀i,i<m.length->az m i=az a i):m=a:=by
 apply yI d;intro i b c;have:=h i b
 rwa [bE b,bE c]at this
def oS(n:Nat)(X:aT)(k:Nat)(v:Row):UInt8:=aJ v (n+k)^^^bw (fun i=>aJ v i) (fun i=>aJ (az X i) k) n
theorem gh{f f' g a:Nat->UInt8}:∀k,(∀i,i<k->f i=f' i)->(∀i,i<k->g i=a i)->bw f g k=bw f' a k
 |0,_,_=>rfl
 |k+1,h1,h2=>by rw[bw,bw,gh k (fun i b=>h1 i (by omega)) (fun i b=>h2 i (by omega)),h1 k (by omega),h2 k (by omega)]
theorem LQ(n:Nat)(X:aT)(k:Nat)(c:UInt8)(a t:Row)(h:a.length=t.length:=by omega):oS n X k (cV c a t)=oS n X k t^^^Gf.mul c (oS n X k a):=by
 unfold oS;rw[ce h];have:bw (fun i=>aJ (cV c a t) i) (fun i=>aJ (az X i) k) n=bw (fun i=>aJ t i^^^Gf.mul c (aJ a i)) (fun i=>aJ (az X i) k) n:=gh n (fun i _=>ce h i) fun _ _=>rfl;rw[this,AR,Gf.gO];ac_rfl
theorem LR{a b:Row}{n:Nat}(c:a.length=n)(k:Nat):aJ (a++b) (n+k)=aJ b k:=by
 simp only[aJ,qg];rw[qh (by omega),c,Nat.add_sub_cancel_left]
theorem IJ{a b:Row}{n j:Nat}(d:a.length=n)(c:j<n):aJ (a++b) j=aJ a j:=by
 simp only[aJ,qg];rw[ql (by omega)]
theorem lD{a b:UInt8}:a^^^b=0↔a=b:=by
 constructor
 ·intro h;have:=congrArg (·^^^b) h;simp only[wG]at this
  rwa [AQ]at this
 ·rintro rfl;exact iF _
theorem Dx{n w:Nat}{a b X:aT}(h:a.length=b.length)(f:aW n a)(o:aW w b)(g:X.length=n)(l:aW w X):ky n w a b X↔∀k,k<w->∀v,Span (n+w) (dG a b) v->oS n X k v=0:=by
 have e:=kO h f o;constructor
 ·intro x k p v s;refine Span.SQ e (oS n X k) ?_ (fun c a t z y=>LQ n X k c a t) (fun r q=>?_) s
  ·unfold oS;rw[cE,fg _ _ n fun i _=>cE _ _];rfl
  ·obtain⟨i,d,rfl⟩:=ff q;rw[jS h]at d;rw[AT h d];unfold oS;rw[LR (bW f d),<-x.2.2 i d,jA l g _ k n (qt _),lD];exact gh n (fun j m=>(IJ (bW f d) m).symm) fun _ _=>rfl
 ·intro u;refine⟨g,l,fun i d=>fq (n:=w) (ia l g _ n (qt _)) (bW o) fun k p=>?_⟩;have:=u k p _ (Span.row e (mem_row (show i<(dG a b).length by rw[jS h];exact d)));rw[AT h d]at this;unfold oS at this;rw[LR (bW f d),lD]at this;rw[this,jA l g _ k n (qt _)];exact gh n (fun j m=>(IJ (bW f d) m).symm) fun _ _=>rfl
theorem Ve{n:Nat}{p:Nat->Nat}(d:∀i,i<n->p i<n)(b:∀i j,i<j->j<n->p i<p j):∀i,i<n->p i=i:=by
 have c:∀i,i<n->i<=p i:=by
  intro i
  induction i with
  |zero=>intro _;omega
  |succ i ih=>intro a;have:=ih (by omega);have:=b i (i+1) (by omega) a;omega
 have up:∀k i,i+k+1=n->p i<=i:=by
  intro k
  induction k with
  |zero=>intro i a;have:=d i (by omega);omega
  |succ k ih=>intro i a;have:=ih (i+1) (by omega);have:=b i (i+1) (by omega) (by omega);omega
 intro i a;have:=c i a;have:=up (n-1-i) i (by omega);omega
def iN(n:Nat)(a b:aT):aT:=(((bu (dG a b) n).2).take n).map (List.drop n)
def HR(n:Nat)(a b:aT):Prop:=∀r∈((bu (dG a b) n).2).drop n,r=aZ r.length
section
variable {n w:Nat} {a b:aT}
theorem AU(h:a.length=b.length)(f:aW n a)(g:aW w b)(j:cR a=n):(iN n a b).length=n/\aW w (iN n a b):=by
 have c:=kO h f g;have e:=gp c n;have h3:=oR a f;refine⟨by rw[iN,qC,qO,e.2,jS h];omega,fun r d=>?_⟩;obtain⟨x,i,rfl⟩:=qH.1 d;rw[qR,e.1 x (yl i)];omega
theorem LS(h:a.length=b.length)(e:aW n a)(d:cR a=n){i:Nat}(c:i<n):az (iN n a b) i=(az (bu (dG a b) n).2 i).drop n:=by
 simp only[az,iN,qg,qN,yv];rw[if_pos c]
 cases(bu (dG a b) n).2[i]? with
 |none=>simp
 |some r=>rfl
theorem IK(h:a.length=b.length)(d:aW n a)(r:aW w b)(o:cR a=n):
  (∀v,Span (n+w) (bu (dG a b) n).2 v↔Span (n+w) (dG a b) v)/\(bu (dG a b) n).2.length=a.length/\(∀i,i<n->∀k,k<a.length->aJ (az (bu (dG a b) n).2 k) i=if k=i then 1 else 0):=by
 have c:=kO h d r;have W:=AS c n (by omega);have l:(bu (dG a b) n).1=n:=by rw[II h d,o]
 obtain⟨p,g,f,q,e⟩:=W.piv;rw[l]at g f q e;have hid:=Ve g e;have m:(bu (dG a b) n).2.length=a.length:=by rw[W.len,jS h]
 refine⟨W.span,m,fun i j k s=>?_⟩;have:=f i j k (by omega)
 rwa [hid i j]at this
theorem IL{X:aT}{r:Row}{i k:Nat}(c:i<n)(a:∀j,j<n->aJ r j=if i=j then 1 else 0):oS n X k r=aJ r (n+k)^^^aJ (az X i) k:=by
 unfold oS;rw[Fm _ _ i n c fun j b=>a j b]
theorem LU{X:aT}{r:Row}{k:Nat}(a:∀j,j<n->aJ r j=0):oS n X k r=aJ r (n+k):=by
 unfold oS;rw[fg _ _ n a,zR]
theorem tl(h:a.length=b.length)(l:aW n a)(p:aW w b)(t:cR a=n){X:aT}(g:ky n w a b X):X=iN n a b/\HR n a b:=by
 have q:=kO h l p;have u:=gp q n;obtain⟨m,D,s⟩:=IK h l p t;have A:=oR a l;have z:=(Dx h l p g.1 g.2.1).1 g;obtain⟨y,s2⟩:=AU h l p t;constructor
 ·refine Ru (by rw[g.1,y]) fun i d=>fq (n:=w) (bW g.2.1 d) (bW s2 (by rw[y];rw[g.1]at d;exact d)) fun k B=>?_;rw[g.1]at d;have h3:=z k B _ ((m _).1 (Span.row u.1 (mem_row (show i<(bu (dG a b) n).2.length by omega))));rw[IL d fun j o=>s j o i (by omega)]at h3;rw[LS h l t d,IH];exact(lD.1 h3).symm
 ·intro r v;obtain⟨i,d,rfl⟩:=qQ v;rw[qR]at d;rw[wz];have f:n+i<(bu (dG a b) n).2.length:=by omega
  have e:=bE f;have c:=bW u.1 f;rw[<-e,c];refine fq (n:=n+w) c (by simp[aZ]) fun j o=>?_;rw[cE];by_cases x:j<n
  ·rw[s j x (n+i) (by omega),if_neg (by omega)]
  ·obtain⟨k,rfl⟩:∃k,j=n+k:=⟨j-n,by omega⟩
   have h3:=z k (by omega) _ ((m _).1 (Span.row u.1 (mem_row f)))
   rwa [LU fun j o=>by rw[s j o (n+i) (by omega),if_neg (by omega)]]at h3
theorem MO(h:a.length=b.length)(e:aW n a)(g:aW w b)(p:cR a=n)(D:HR n a b):ky n w a b (iN n a b):=by
 have l:=kO h e g;have u:=gp l n;obtain⟨o,E,s⟩:=IK h e g p;have y:=oR a e;obtain⟨z,s2⟩:=AU h e g p;refine(Dx h e g z s2).2 fun k F v A=>?_;refine Span.SQ u.1 (oS n (iN n a b) k) ?_ (fun c x t G u=>LQ n _ k c x t) (fun r q=>?_) ((o v).2 A)
 ·unfold oS;rw[cE,fg _ _ n fun i _=>cE _ _];rfl
 ·obtain⟨i,B,rfl⟩:=ff q;by_cases f:i<n
  ·rw[IL f fun j m=>s j m i (by omega),LS h e p f,IH];exact iF _
  ·rw[LU fun j m=>by rw[s j m i (by omega),if_neg (by omega)]];have:az (bu (dG a b) n).2 i∈(bu (dG a b) n).2.drop n:=by
    rw[bE B];obtain⟨d,rfl⟩:∃d,i=n+d:=⟨i-n,by omega⟩
    rw[<-wz (h:=by rw[qR];omega)];exact qn _
   rw[D _ this,cE]
theorem KE(h:a.length=b.length)(g:aW n a)(f:aW w b)(i:a.length=n):HR n a b:=by
 have c:=kO h g f;have e:=gp c n;intro r d;rw[List.drop_of_length_le (by rw[e.2,jS h];omega)]at d;cases d
end
def IM(l:aB):Prop:=∀a b,a<l.length->b<l.length->iy l a=iy l b->a=b
theorem AV{l:aB}{i:Nat}(h:i<l.length):iy l i=l[i]:=by rw[iy,qg,qd h];rfl
theorem Rv{l:aB}{i j k:Nat}(d:i<l.length)(c:j<l.length):iy (mQ l i j) k=if k=j then iy l i else if k=i then iy l j else iy l k:=by
 simp only[iy,mQ,qg,qW,List.length_set];by_cases a:j=k
 ·subst a;simp[c]
 ·by_cases b:i=k
  ·subst b;simp[a,d];omega
  ·simp[a,b];omega
theorem swap_inj{l:aB}{i j:Nat}(p:i<l.length)(m:j<l.length)(h:IM l):IM (mQ l i j):=by
 intro a b n o g;rw[Iz]at n o;have c:∀k,k<l.length->∃σ,σ<l.length/\iy (mQ l i j) k=iy l σ/\(σ=if k=j then i else if k=i then j else k):=fun k v=>by
  rw[Rv p m];by_cases f:k=j
  ·rw[if_pos f,if_pos f];exact⟨i,p,rfl,rfl⟩
  ·rw[if_neg f,if_neg f];by_cases e:k=i
   ·rw[if_pos e,if_pos e];exact⟨j,m,rfl,rfl⟩
   ·rw[if_neg e,if_neg e];exact⟨k,v,rfl,rfl⟩
 obtain⟨s,u,w,r⟩:=c a n;obtain⟨t,q,e2,d⟩:=c b o;rw[w,e2]at g;have:=h s t u q g;subst this;rw[r]at d;split at d<;>split at d<;>(try split at d)<;>(try split at d)<;>omega
theorem OW{l:aB}(h:IM l):l.Nodup:=by
 rw[List.nodup_iff_pairwise_ne,List.pairwise_iff_getElem];intro i j b a d c;have:=h i j b a (by rw[AV b,AV a];exact c);omega
theorem Rw(n:Nat):IM (upto n):=by
 intro a b d e c;rw[fd]at d e;rw[AV (by rw[fd];exact d),AV (by rw[fd];exact e)]at c;simp[upto]at c;omega
theorem IN(n:Nat)(s:Int):∀k,k<=n->n<=64->IM (eW n s (upto n) k).2
 |0,_,_=>Rw n
 |k+1,hk,hn=>by
  have a:=oM n s (upto n) k;rw[fd]at a;have:=oL (eW n s (upto n) k).1 ((n-k:Nat):Int);exact swap_inj (by omega) (by omega) (IN n s k (by omega) hn)
theorem MP(s:Int)(n k:Nat)(b:k<=n)(a:n<=64):(AJ s n k).Nodup:=by
 have h:=(OW (IN n s k b a)).sublist (List.take_sublist k _);exact(List.mergeSort_perm _ _).nodup_iff.2 h
theorem MQ{n:Nat}(b:1<=n)(a:n<=20)(seed id:Int):(dM n seed id).Nodup:=MP _ _ _ (oN _ n b a) (by omega)
theorem LV{r:Row}{i j:Nat}{x:UInt8}(a:i<r.length):aJ (r.set i x) j=if j=i then x else aJ r j:=by
 simp only[aJ,qg,qW];by_cases h:i=j
 ·subst h;simp[a]
 ·simp[h];intro e;exact absurd e.symm h
theorem Gk(n:Nat)(l:aB)(c:Int):eS n (l++[c])=(eS n l).set c.toNat 1:=by rw[eS,zT];rfl
theorem tm{n:Nat}:∀(l:aB) (_:∀x∈l,0<=x/\x<(n:Int)) (j:Nat),aJ (eS n l) j=if(j:Int)∈l then 1 else 0:=by
 intro l;have d:∀k,k<=l.length->(∀x∈l,0<=x/\x<(n:Int))->∀j:Nat,aJ (eS n (l.take k)) j=if(j:Int)∈l.take k then 1 else 0:=by
  intro k
  induction k with
  |zero=>intro _ _ j;simp[eS];exact cE n j
  |succ k ih=>
   intro f b j;have g:=b _ (qn (show k<l.length by omega));rw[zp (by omega),Gk,LV (by rw[mz];omega),ih (by omega) b];have a:(j:Int)∈l.take k++[l[k]]↔(j:Int)∈l.take k∨(j:Int)=l[k]:=by rw[qE,qB]
   by_cases h:j=l[k].toNat
   ·rw[if_pos h,if_pos (a.2 (.inr (by omega)))]
   ·rw[if_neg h];by_cases c:(j:Int)∈l.take k
    ·rw[if_pos c,if_pos (a.2 (.inl c))]
    ·rw[if_neg c,if_neg (fun e=>(a.1 e).elim c fun h3=>h (by omega))]
 intro b j;have:=d l.length (qt _) b j
 rwa [qj (qt _)]at this
theorem Cn{f f' g:Nat->UInt8}{c:Nat}(a:f c=0)(b:∀i,f' i=if i=c then 1 else f i):∀k,bw f' g k=bw f g k^^^if c<k then g c else 0
 |0=>by simp[bw]
 |k+1=>by
  rw[bw,bw,Cn a b k,b k];by_cases d:k=c
  ·subst d;rw[if_pos rfl,if_neg (by omega),if_pos (by omega),Gf.one_mul,a,Gf.zero_mul]
  ·rw[if_neg d];by_cases h:c<k
   ·rw[if_pos h,if_pos (by omega)];ac_rfl
   ·rw[if_neg h,if_neg (by omega)];simp
def eI(w:Nat)(X:aT)(l:aB):Row:=l.foldl (fun s c=>cV 1 (az X c.toNat) s) (aZ w)
theorem Co(w:Nat)(X:aT)(l:aB)(c:Int):eI w X (l++[c])=cV 1 (az X c.toNat) (eI w X l):=by rw[eI,zT];rfl
theorem oT{n w:Nat}{X:aT}(b:aW w X)(c:X.length=n){l:aB}(a:∀x∈l,0<=x/\x<(n:Int)):∀k,k<=l.length->(eI w X (l.take k)).length=w:=by
 intro k
 induction k with
 |zero=>intro _;simp[eI,aZ]
 |succ k ih=>
  intro d;have e:=a _ (qn (show k<l.length by omega));rw[zp (by omega),Co,bG (by rw[bW b,ih (by omega)])];exact ih (by omega)
theorem Ua{n w:Nat}{X:aT}(b:aW w X)(c:X.length=n){l:aB}(a:∀x∈l,0<=x/\x<(n:Int)):(eI w X l).length=w:=by
 have:=oT b c a l.length (qt _)
 rwa [qj (qt _)]at this
theorem Ub{n w:Nat}{X:aT}(a:aW w X)(b:X.length=n){l:aB}(d:∀x∈l,0<=x/\x<(n:Int))(o:l.Nodup):eI w X l=mB w (eS n l) X n:=by
 have h:∀k,k<=l.length->eI w X (l.take k)=mB w (eS n (l.take k)) X n:=by
  intro k
  induction k with
  |zero=>
   intro _;refine fq (n:=w) (by simp[eI,aZ]) (ia a b _ n (qt _)) fun j _=>?_;rw[jA a b _ j n (qt _),fg _ _ n fun i _=>by simp only[vx,eS,wj];exact cE n i];simp only[vx,eI,wj];exact cE w j
  |succ k ih=>
   intro r;have q:=d _ (qn (show k<l.length by omega));have p:=oT a b d k (by omega);rw[zp (by omega),Co,Gk,ih (by omega)];refine fq (n:=w) ?_ (ia a b _ n (qt _)) fun j _=>?_
   ·rw[bG (by rw[bW a,ia a b _ n (qt _)])];exact ia a b _ n (qt _)
   ·rw[ce (by rw[bW a,ia a b _ n (qt _)]),jA a b _ j n (qt _),jA a b _ j n (qt _)];have g:l[k]∉l.take k:=fun m=>by
     have e:l=l.take k++l[k]::l.drop (k+1):=by rw[<-List.drop_eq_getElem_cons (by omega),qy]
     rw[e,List.nodup_append]at o;exact o.2.2 _ m _ List.mem_cons_self rfl
    have h0:aJ (eS n (l.take k)) l[k].toNat=0:=by
     rw[tm _ (fun x q=>d x (yl q)),if_neg];intro m;apply g;have:((l[k].toNat:Nat):Int)=l[k]:=by omega
     rwa [this]at m
    rw[Cn (f:=fun i=>aJ (eS n (l.take k)) i) (c:=l[k].toNat) h0 (fun i=>LV (by rw[mz];omega)) n,if_pos (by omega),Gf.one_mul]
 have:=h l.length (qt _)
 rwa [qj (qt _)]at this
open Go Go.Vc
def gB(K H w:Nat)(d:Row):aT:=qi H (aZ w)++(qz K).map (xc d w)
def dz(p:Int×Int×Int)(seed:Int)(d:Row):aT:=iN (ck p).toNat (dY p seed (dU p)) (gB p.1.toNat p.2.1.toNat p.2.2.toNat d)
structure bx (p:Int×Int×Int) (seed:Int) (d:Row) (K H w n:Nat):Prop where
 may:bC p=true
 full:fz p seed (dU p)=true
 k:p.1=K
 h:p.2.1=H
 s:p.2.2=w
 n:n=K+H
 k1:1<=K
 k2:K<=16
 h1:1<=H
 h2:H<=4
 w1:1<=w
 w2:w<=24
 len:d.length=K*w
theorem SR{p:Int×Int×Int}{seed:Int}{d:Row}(a:bC p=true)(e:fz p seed (dU p)=true)(b:(d.length:Int)=p.1*p.2.2):∃K H w n,bx p seed d K H w n:=by
 have:=(bS p).1 a;refine⟨p.1.toNat,p.2.1.toNat,p.2.2.toNat,p.1.toNat+p.2.1.toNat,a,e,by omega,by omega,by omega,rfl,by omega,by omega,by omega,by omega,by omega,by omega,?_⟩;have c:p.1=(p.1.toNat:Int):=by omega
 have e2:p.2.2=(p.2.2.toNat:Int):=by omega
 rw[c,e2,<-Int.natCast_mul]at b;exact Int.ofNat.inj b
section
variable {p:Int×Int×Int} {seed:Int} {d:Row} {K H w n:Nat}
theorem bx.eZ(B:bx p seed d K H w n):ck p=n:=by rw[Cl B.may,B.k,B.h,B.n];rfl
theorem bx.lE(B:bx p seed d K H w n):(ck p).toNat=n:=by rw[B.eZ];rfl
theorem MR(a:p.1=(K:Int))(h:K<=16):dU p=upto K:=by
 rw[dU];congr 1;omega
theorem KF(h:K<=16):(upto K).filter bD=upto K:=by
 rw[List.filter_eq_self];intro x b;simp[upto]at b;obtain⟨a,c,rfl⟩:=b;simp[bD];omega
theorem bx.Is(B:bx p seed d K H w n):dY p seed (dU p)=bK K H++(qz K).map fun i:Nat=>lr n seed (i:Int):=by
 rw[dY,if_pos B.may,MR B.k B.k2,KF B.k2,B.k,B.h,B.lE,qo,qo,upto,List.map_map];rfl
theorem bx.xu(B:bx p seed d K H w n):(dY p seed (dU p)).length=n:=by
 rw[B.Is,qp,qC,zm,bK,qC,zm,B.n];omega
theorem bx.AW(B:bx p seed d K H w n):aW n (dY p seed (dU p)):=by
 have:=xt p seed (dU p)
 rwa [B.lE]at this
theorem bx.MS(B:bx p seed d K H w n):cR (dY p seed (dU p))=n:=by
 have h:=B.full;rw[fz,B.may,B.eZ,HQ]at h;simp at h;exact Int.ofNat.inj h
theorem xv(K H w:Nat)(d:Row):(gB K H w d).length=K+H:=by simp[gB];omega
theorem nZ(c:d.length=K*w):aW w (gB K H w d):=fun r b=>by
 rcases qE.1 b with h|h
 ·rw[(List.mem_replicate.1 h).2];simp[aZ]
 ·obtain⟨i,a,rfl⟩:=qH.1 h;rw[List.mem_range]at a;exact TU (by rw[c];exact Nat.mul_le_mul_right w a)
theorem OX{i:Nat}(a:i<H):az (gB K H w d) i=aZ w:=by
 rw[az,gB,qg,ql (by simpa using a)];simp[a]
theorem MT{i:Nat}(a:i<K):az (gB K H w d) (H+i)=xc d w i:=by
 rw[az,gB,qg,qh (by simp)];simp[a]
theorem bx.uq(B:bx p seed d K H w n):dz p seed d=iN n (dY p seed (dU p)) (gB K H w d):=by
 rw[dz,B.lE,B.k,B.h,B.s];rfl
theorem bx.lens(B:bx p seed d K H w n):(dY p seed (dU p)).length=(gB K H w d).length:=by rw[B.xu,xv,B.n]
theorem bx.ng(B:bx p seed d K H w n):(dz p seed d).length=n/\aW w (dz p seed d):=by
 rw[B.uq];exact AU B.lens B.AW (nZ B.len) B.MS
theorem bx.ky(B:bx p seed d K H w n):ky n w (dY p seed (dU p)) (gB K H w d) (dz p seed d):=by
 rw[B.uq];exact MO B.lens B.AW (nZ B.len) B.MS (KE B.lens B.AW (nZ B.len) B.xu)
theorem bx.Vf(B:bx p seed d K H w n){i:Nat}(a:i<H):az (dY p seed (dU p)) i=iL K H i:=by
 rw[B.Is,az,qg,ql (by simpa[bK]using a)];simp[bK,a]
theorem bx.Uc(B:bx p seed d K H w n){i:Nat}(a:i<K):az (dY p seed (dU p)) (H+i)=lr n seed (i:Int):=by
 rw[B.Is,az,qg,qh (by simp[bK])];simp[bK,a]
theorem bx.low(B:bx p seed d K H w n){i:Nat}(a:i<H):mB w (iL K H i) (dz p seed d) n=aZ w:=by
 have:=B.ky.2.2 i (by rw[B.xu,B.n];omega)
 rwa [B.Vf a,OX a]at this
theorem bx.high(B:bx p seed d K H w n){i:Nat}(a:i<K):mB w (lr n seed (i:Int)) (dz p seed d) n=xc d w i:=by
 have:=B.ky.2.2 (H+i) (by rw[B.xu,B.n];omega)
 rwa [B.Uc a,MT a]at this
theorem bx.n1(B:bx p seed d K H w n):1<=n:=by have:=B.n;have:=B.k1;omega
theorem bx.n2(B:bx p seed d K H w n):n<=20:=by have:=B.n;have:=B.k2;have:=B.h2;omega
theorem bx.sym(B:bx p seed d K H w n)(id:Int):eI w (dz p seed d) (dM n seed id)=mB w (lr n seed id) (dz p seed d) n:=
 Ub B.ng.2 B.ng.1 (fun _ a=>pO B.n1 B.n2 a) (MQ B.n1 B.n2 seed id)
theorem bx.Rx(B:bx p seed d K H w n){i:Nat}(a:i<K):eI w (dz p seed d) (dM n seed (i:Int))=xc d w i:=by rw[B.sym,B.high a]
theorem bx.OY(B:bx p seed d K H w n)(id:Int):(eI w (dz p seed d) (dM n seed id)).length=w:=
 Ua B.ng.2 B.ng.1 fun _ a=>pO B.n1 B.n2 a
end
end Wl
namespace Go.Vc
open Go
theorem KG{α:Type}{c k:Nat}{f:α->aM}:∀{rs:List Sl} {ll:List (List α)} (b:List Sl) (a:List (List α)),rs.length=ll.length->bv c k f (rs++b) (ll++a)=bv c k f rs ll++bv c k f b a:=by
 intro rs ll b a h;unfold bv;exact List.zipWith_append h
theorem aa.Ry{B:ap}{a h:Heap}{X:HP}:∀{L M:List HP},aa B a h (L++X::M)->aa B a h (L++M):=fun{L M} H=>by
 have:=H.del L.length
 rwa [List.eraseIdx_append_of_length_le (qt _),q5,List.eraseIdx_cons_zero]at this
section
variable {α:Type} {C:Ctx} {B:ap} {h0 h h':Heap} {As:List HP} {e e2 k t t2 by_:Nat} {s s2:Sl} {f:α->aM} {ll l2:List (List α)}
theorem aa.Ud(x:C.Ok)(H:aa B h0 h (io e s e2 k f ll::io e s2 e2 k f l2::As))(v:bP C.torQ t e 1 [.slice none 0 0] 24)(z:∃i e2,C.T.get t2=some i/\i.cj=.slice e2)(D:ll.length+l2.length<=2^32){ty:Nat}{K:Sl->Heap->Prop}
  (E:∀g h',aa B h0 h' (io e g e2 k f (ll++l2)::As)->K g h'):
  aw C.P (Builtin.append_ #[t,t2] ty #[.slice s.ptr s.len s.cap,.slice s2.ptr s2.len s2.cap]) (.one (.sc .slc)) h K:=by
 obtain⟨rs,o,q⟩:=H.AI;obtain⟨c,j⟩:∃c,c=bv e2 k f rs ll:=⟨_,rfl⟩
 rw[<-j]at q;have w:aa B h0 h (io e s2 e2 k f l2::(As++(ao e s 1 cx rs::c))):=q.front;obtain⟨a,n,p⟩:=w.AI;obtain⟨d,l⟩:∃d,d=bv e2 k f a l2:=⟨_,rfl⟩
 rw[<-l]at p;have r:=p.front;rw[List.append_assoc]at r;have I:=r.front;have u:aa B h0 h (ao e s 1 cx rs::(c++(ao e s2 1 cx a::(d++As)))):=by
  have A:(ao e s 1 cx rs::c++(ao e s2 1 cx a::d))++As=ao e s 1 cx rs::(c++(ao e s2 1 cx a::(d++As))):=by simp
  rw[<-A];exact I
 have y:Seq h (fun b=>b<h.size) s2 1 cx a:=u.seq (c.length+1) (by rw[List.getElem?_cons_succ,qh (qt _),q5];rfl) fun _=>rfl;refine u.append x 0 rfl v z rfl (by decide) (fun _=>rfl) y oF (by omega) fun g h' m=>E g h' ?_;have m:aa B h0 h' ((ao e g 1 cx (rs++a)::c)++(ao e s2 1 cx a::(d++As))):=m;have F:=aa.Ry m;refine aa.Dm (rs:=rs++a) (by simp[o,n]) ?_;rw[KG a l2 o,<-j,<-l];have G:(ao e g 1 cx (rs++a)::(c++d))++As=(ao e g 1 cx (rs++a)::c)++(d++As):=by simp
 rw[G];exact F
end
abbrev fh:=FloatKind.format .f64
theorem xw{P:Program}{a b c:Nat}(h:fh.add a b=some c):au P (Op.Complex.arith .add .f64 a b) c:=fun w=>by
 have h':(FloatKind.format .f64).add a b=some c:=h;unfold Op.Complex.arith Op.floatArith;simp only[h'];rfl
theorem xx{P:Program}{a b c:Nat}(h:fh.sub a b=some c):au P (Op.Complex.arith .sub .f64 a b) c:=fun w=>by
 have h':(FloatKind.format .f64).sub a b=some c:=h;unfold Op.Complex.arith Op.floatArith;simp only[h'];rfl
theorem pU{P:Program}{a b c:Nat}(h:fh.mul a b=some c):au P (Op.Complex.arith .mul .f64 a b) c:=fun w=>by
 have h':(FloatKind.format .f64).mul a b=some c:=h;unfold Op.Complex.arith Op.floatArith;simp only[h'];rfl
theorem rz{P:Program}{c:BinOp}(h:c=.add∨c=.sub∨c=.mul)(t:TypeId)(x y:Operand)(a b:Value):au P (eqGuard c t x y a b) ():=fun w=>by
 rcases h with rfl|rfl|rfl<;>rfl
theorem Ue{P:Program}{t:TypeId}{x y:Operand}{a b c d e f:Nat}(h:fh.add a c=some e)(g:fh.add b d=some f):fM P .add t x y (.complex .f64 a b) (.complex .f64 c d) (.complex .f64 e f):=
 (rz (.inl rfl) t x y _ _).bind (show au P (Op.complexOp .add .f64 a b c d) _ from(xw h).bind ((xw g).bind fun _=>rfl))
theorem Uf{P:Program}{t:TypeId}{x y:Operand}{a b c d e f:Nat}(h:fh.sub a c=some e)(g:fh.sub b d=some f):fM P .sub t x y (.complex .f64 a b) (.complex .f64 c d) (.complex .f64 e f):=
 (rz (.inr (.inl rfl)) t x y _ _).bind (show au P (Op.complexOp .sub .f64 a b c d) _ from(xx h).bind ((xx g).bind fun _=>rfl))
theorem Ug{P:Program}{t:TypeId}{x y:Operand}{a b c d e f h j k i:Nat}(q:fh.mul a c=some h)(m:fh.mul b d=some j)(h3:fh.sub h j=some e)(p:fh.mul a d=some k)(o:fh.mul b c=some i)(l:fh.add k i=some f):
  fM P .mul t x y (.complex .f64 a b) (.complex .f64 c d) (.complex .f64 e f):=by
 refine(rz (.inr (.inr rfl)) t x y _ _).bind ?_;have n:au P (Op.Complex.product a b c d) (e,f):=
  (pU q).bind ((pU m).bind ((xx h3).bind ((pU p).bind ((pU o).bind ((xw l).bind fun _=>rfl)))))
 show au P (Op.complexOp .mul .f64 a b c d) _;have g:∀x,au P (Op.Complex.conv .f64 x .f64) x:=fun x w=>by unfold Op.Complex.conv;rw[if_pos rfl];rfl
 unfold Op.complexOp;refine(g a).bind ((g b).bind ((g c).bind ((g d).bind ?_)));refine au.bind (v:=(e,f)) ?_ ?_
 ·exact n
 ·exact(g e).bind ((g f).bind fun _=>rfl)
end Go.Vc
