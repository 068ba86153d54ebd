/- Part of the proofs that the laws of this seat answer true whatever the input reads, and leave it as it was; no condition. -/
import Derived.Test.YtdhamoojccmbdaaGreatDoorPlD
import Derived.Test.YtdhamoojccmbdaaGreatDoorPlA
set_option linter.unusedVariables false
set_option linter.unusedSimpArgs false
open List renaming append_assoc -> qo, drop -> vK, drop_eq_getElem_cons -> qT, drop_of_length_le -> q9, ext_getElem -> we, ext_getElem? -> zH, filter_eq_self -> wg, flatMap_append -> zb, foldl_append -> wE, foldl_nil -> wI, getD_eq_getElem?_getD -> qe, getElem?_append_left -> qn, getElem?_append_right -> qj, getElem?_cons_succ -> qz, getElem?_drop -> wq, getElem?_eq_getElem -> qd, getElem?_eq_none -> ze, getElem?_map -> qN, getElem?_mapIdx -> yU, getElem?_replicate -> zX, getElem?_set -> qZ, getElem?_take -> vb, getElem?_zipWith -> wG, getElem_drop -> zR, getElem_mem -> qg, getElem_of_mem -> qF, length_append -> qu, length_drop -> qY, length_filter_le -> q7, length_map -> qw, length_range -> zt, length_set -> zE, length_take -> qX, map_map -> wK, mem_append -> qE, mem_cons_self -> q8, mem_map -> qx, mem_of_mem_take -> zK, mem_range -> qH, mem_replicate -> wM, mem_singleton -> qG, mergeSort_perm -> yk, nodup_cons -> yi, nodup_range -> vu, pairwise_iff_getElem -> zq, pairwise_mergeSort -> vh, range -> qC, range_succ -> zF, replicate -> qh, size_toArray -> wW, take_append_drop -> qD, take_of_length_le -> qi, take_succ_eq_append_getElem -> zp, take_zero -> vC, zipWith -> zj, zipWith_append -> yH
open Go.Builtin renaming append_ -> qq, clear_ -> yp, zeroCells -> yb
open Array renaming ext' -> yg, toList_map -> vt
open Nat renaming add_sub_cancel_left -> zk, le_refl -> ql, lt_succ_iff_lt_or_eq -> zn, lt_trichotomy -> yd, min_eq_left -> wJ, mod_lt -> yE, mul_le_mul_right -> zG, sub_self -> zf
open UInt8 renaming lt_iff_toNat_lt -> zN, toNat_inj -> yh, xor_zero -> zQ, zero_xor -> wc
open Bool renaming and_eq_true -> qy, false_or -> vx, or_eq_true -> wx, true_and -> zS
open Option renaming map_some -> qO
open Prod renaming fst -> qK
open Int renaming natCast_mul -> wz, toNat_natCast -> qp
namespace Wl
open Go
def cK(o b t:Int):Int:=(128*o+16*b+t)%4294967296
def dH(m:aG)(r:dj):Bool:=iK r&&(decide (r.p=m.p)&&m.objs.any fun x=>decide (x.object=r.object)&&(decide (r.block<(x.tries.length:Int))&&decide (r.seed=cK r.object r.block (x.tries.getD r.block.toNat 0))))
def Zu(a b:dj):Bool:=decide (a.object<b.object∨(a.object=b.object/\(a.block<b.block∨(a.block=b.block/\a.id<=b.id))))
def Dq(a b:dj):Bool:=decide (a.object=b.object/\a.block=b.block/\a.id=b.id)
def KN:dj:=⟨0,0,0,(0,0,0),0,[]⟩
def uj(l:List dj)(k:Nat):Bool:=decide (k=0)||!Dq (l.getD k KN) (l.getD (k-1) KN)
def vZ(l:List dj):List dj:=((qC l.length).filter (uj l)).map fun i=>l.getD i KN
def jp(m:aG)(c:List UInt8):Option dj:=match dL c with|some r=>if dH m r then some r else none|none=>none
def kR(m:aG)(l:List (List UInt8)):List dj:=vZ ((l.filterMap (jp m)).mergeSort Zu)
theorem Xo(m:aG)(l:List (List UInt8))(i:Nat)(a:i<l.length):(l.take (i+1)).filterMap (jp m)=(l.take i).filterMap (jp m)++(jp m l[i]).toList:=by
 have:l.take (i+1)=l.take i++[l[i]]:=by rw[List.take_add_one,qd a];rfl
 rw[this,List.filterMap_append];cases hg:jp m l[i]with
 |none=>simp[hg]
 |some r=>simp[hg]
end Wl
namespace Go.Vc
open Go
section
variable {B:aA} {α:Type} {C:Ctx} {h0 h:Heap} {As:List HP} {e t k by_:Nat} {s:Sl} {f:α->List Value} {l:List α} {z:List Value}
theorem Em(z:List Value)(n:Nat):(yb z.toArray n).toList.length=n*z.length:=by
 simp[yb]
theorem PL{z:List Value}(d:∀v∈z,v.oneCell'=true)(n:Nat):∀v∈(yb z.toArray n).toList,v.oneCell'=true:=by
 intro v c;simp only[yb,vt,qx,Array.mem_toList_iff,Array.mem_range]at c;obtain⟨i,a,rfl⟩:=c;simp only[wW]at a⊢;have h0:0<z.length:=by
  rcases Nat.eq_zero_or_pos z.length with h|h
  ·rw[h]at a;simp at a
  ·exact h
 have b:=yE i h0;rw[getElem!_pos z.toArray _ (by simpa using b)];exact d _ (by simp)
theorem Own.ou(B:C.Ok)(r:Own h e s k f l)(y:bN C.toBR t e k z by_)(u:∀x,(f x).length=k)(w:z.length=k)(d:∀v∈z,v.oneCell'=true)(j:Nat)(A:j<=l.length){ty:Nat}{K:Heap->Prop}
  (n:∀h',Own h' e ⟨s.ptr,j,s.cap⟩ k f (l.take j)->aU (fun b=>¬s.on b) h h'->K h'):
  ag C.P (yp #[t] ty #[.slice (if s.cap=j then s.ptr else s.ptr.map (·.add (j*k))) (s.len-j) (s.cap-j)]) h fun _ h'=>K h':=by
 have T:=r.len;have c:=r.cut u j A;unfold yp;refine ag.bind (ag.always (aN (y.under B)) ?_);by_cases g:j=l.length
 ·have G:s.len-j=0:=by omega
  rw[G];generalize (if s.cap=j then s.ptr else s.ptr.map (·.add (j*k)))=q;cases q with
  |none=>exact ag.pure' (n h c (aU.refl _ _))
  |some a=>exact ag.pure' (n h c (aU.refl _ _))
 ·rcases r.head with⟨h1,h2,h3⟩|⟨b,rest,h1,h2,h3,h4⟩
  ·subst h3;simp at A g;omega
  ·have p:s.cap≠j:=by omega
   rw[if_neg p,h1];obtain⟨m,D⟩:∃m,s.len-j=m+1:=⟨s.len-j-1,by omega⟩
   rw[D];obtain⟨U,Q,N,R,L,S,M,O⟩:=y.ex;obtain⟨H,F,E⟩:=rY B.toOk L;refine ag.bind (ag.always F ?_);have o:H.cells=z.toArray:=by apply yg;rw[E,M]
   rw[o];refine ag.bind ?_;have I:((⟨b,0,none⟩:Addr).add (j*k))=⟨b,j*k,none⟩:=by simp[add_eq]
   show ag C.P (storeCells ((⟨b,0,none⟩:Addr).add (j*k)) (yb z.toArray (m+1)).toList) h _;rw[I];have i:(l.drop j).length=m+1:=by simp;omega
   refine eN (e:=e) (pre:=(l.take j).flatMap f) (old:=(l.drop j).flatMap f) (post:=rest) ?_ ?_ ?_ (PL d _) ?_
   ·rw[<-zb,qD];exact h2
   ·rw[cX u,i,Em,w]
   ·rw[cX u,qX,wJ (by omega)];omega
   ·refine ag.pure' (n _ ⟨by simp;omega,.inr ⟨b,(yb z.toArray (m+1)).toList++rest,h1,?_,?_,by dsimp only;omega⟩⟩ ?_)
    ·rw[gV h2,if_pos rfl];simp
    ·rw[qu,Em,w,h3,<-Nat.add_mul];dsimp only;congr 1;omega
    ·exact aU.je h2 fun J=>J ⟨0,h1⟩
theorem aa.ou(u:C.Ok)(H:aa B h0 h As)(i:Nat)(g:As[i]?=some (an e s k f l))(o:bN C.toBR t e k z by_)(w:∀x,(f x).length=k)(n:z.length=k)(a:∀v∈z,v.oneCell'=true)(j:Nat)(r:j<=l.length){ty:Nat}{K:Heap->Prop}
  (p:∀h',aa B h0 h' (As.set i (an e ⟨s.ptr,j,s.cap⟩ k f (l.take j)))->K h'):
  ag C.P (yp #[t] ty #[.slice (if s.cap=j then s.ptr else s.ptr.map (·.add (j*k))) (s.len-j) (s.cap-j)]) h fun _ h'=>K h':=
 (H.own i g).ou u o w n a j r fun h' x y=>p h' (H.step i g fun q m _=>⟨y.mono fun b _ c d=>c (m.2 b d),x,fun b c=>⟨x.lt c,.inl (m.2 b c)⟩⟩)
end
end Go.Vc
namespace Wl
open Go
theorem QO:∀x y:List UInt8,(Op.bytesLess x y||x==y)=!Op.bytesLess y x
 |[],[]=>rfl
 |[],_::_=>rfl
 |_::_,[]=>by simp[Op.bytesLess]
 |a::x,b::y=>by
  have f:=QO x y;have e:a<b∨a=b∨b<a:=by
   rcases yd a.toNat b.toNat with h|h|h
   ·exact .inl (zN.2 h)
   ·exact .inr (.inl (yh.1 h))
   ·exact .inr (.inr (zN.2 h))
  rcases e with h|rfl|h
  ·have c:¬b<a:=fun h'=>by have:=zN.1 h;have:=zN.1 h';omega
   have d:b≠a:=fun h'=>by subst h';exact c h
   simp[Op.bytesLess,h,c,d]
  ·have c:¬a<a:=fun h'=>by have:=zN.1 h';omega
   simp only[Op.bytesLess,c,decide_false,vx,beq_self_eq_true,zS];rw[<-f];congr 1;simp
  ·have c:¬a<b:=fun h'=>by have:=zN.1 h;have:=zN.1 h';omega
   have d:a≠b:=fun h'=>by subst h';exact c h
   simp[Op.bytesLess,h,c,d]
theorem Ia:∀x y z:List UInt8,Op.bytesLess x y=true->Op.bytesLess y z=true->Op.bytesLess x z=true
 |x,[],_,h1,_=>by cases x<;>simp[Op.bytesLess]at h1
 |_,b::y,[],_,h2=>by simp[Op.bytesLess]at h2
 |[],_::_,_::_,_,_=>rfl
 |a::x,b::y,c::z,h1,h2=>by
  simp only[Op.bytesLess,wx,decide_eq_true_eq,qy,beq_iff_eq]at h1 h2⊢;rcases h1 with h1|⟨rfl,h1⟩
  ·rcases h2 with h2|⟨rfl,h2⟩
   ·exact .inl (zN.2 (by have:=zN.1 h1;have:=zN.1 h2;omega))
   ·exact .inl h1
  ·rcases h2 with h2|⟨rfl,h2⟩
   ·exact .inl h2
   ·exact .inr ⟨rfl,Ia x y z h1 h2⟩
theorem Zv(x:List UInt8):Op.bytesLess x x=false:=by
 have:=QO x x;cases h:Op.bytesLess x x with
 |false=>rfl
 |true=>rw[h]at this;simp at this
def jh(a b:ByteArray):Bool:=!ez b a
theorem KO(a b:ByteArray):jh a b=true↔ez a b=true∨a.toList=b.toList:=by
 unfold jh ez;rw[<-QO,wx,beq_iff_eq]
theorem FV(a b c:ByteArray)(d:jh a b=true)(e:jh b c=true):jh a c=true:=by
 rw[KO]at d e⊢;unfold ez at*;rcases d with d|d
 ·rcases e with e|e
  ·exact .inl (Ia _ _ _ d e)
  ·rw[<-e];exact .inl d
 ·rw[d];exact e
theorem FW(a b:ByteArray):(jh a b||jh b a)=true:=by
 unfold jh;cases h:ez b a with
 |false=>rfl
 |true=>
  have:ez a b=false:=by
   cases h2:ez a b with
   |false=>rfl
   |true=>
    have:=Ia _ _ _ h h2;rw[Zv]at this;cases this
  rw[this];rfl
def sf(a b:bW):Bool:=jh a.name b.name
def dg(m:aG)(x:bW):aG:={m with seq:=m.seq+1,next:=m.next+1,objs:=(m.objs++[x]).mergeSort sf}
open Classical
theorem kJ(a:UInt8):a^^^a=0:=UInt8.xor_self
theorem uK(a b:UInt8):(a^^^b)^^^b=a:=by rw[UInt8.xor_assoc,kJ,zQ]
theorem cF{c:UInt8}{a t:Row}(h:a.length=t.length)(j:Nat):aM (cW c a t) j=aM t j^^^Gf.mul c (aM a j):=by
 simp only[aM,cW,qe,wG];by_cases b:j<a.length
 ·rw[qd b,qd (by omega)];rfl
 ·rw[ze (by omega),ze (by omega)];simp[Gf.mul_zero]
theorem Ap(c:UInt8)(a:Row)(j:Nat):aM (scaleB c a) j=Gf.mul c (aM a j):=by
 simp only[aM,scaleB,qe,qN];cases a[j]? with
 |none=>simp[Gf.mul_zero]
 |some x=>rfl
def aK(n:Nat):Row:=qh n 0
theorem co(n j:Nat):aM (aK n) j=0:=by
 simp only[aM,aK,qe,zX];split<;>rfl
theorem fi{n:Nat}{a b:Row}(f:a.length=n)(e:b.length=n)(h:∀j,j<n->aM a j=aM b j):a=b:=by
 apply we (by omega);intro j c d;have:=h j (by omega);simpa[aM,qe,qd c,qd d]using this
inductive Span (n:Nat) (m:aR):Row->Prop
 |zero:Span n m (aK n)
 |add (c:UInt8) (r v:Row):r∈m->Span n m v->Span n m (cW c r v)
section
variable {n:Nat} {m m':aR}
theorem Span.len(a:be n m){v:Row}(h:Span n m v):v.length=n:=by
 induction h with
 |zero=>simp[aK]
 |add c r v hr _ ih=>rw[bY (by rw[a r hr,ih])];exact ih
theorem Span.comb(a:be n m){u v:Row}(e:Span n m u)(b:Span n m v)(c:UInt8):Span n m (cW c u v):=by
 induction e with
 |zero=>
  have:cW c (aK n) v=v:=fi (n:=n) (by rw[bY (by simp[aK,b.len a])];exact b.len a) (b.len a) fun j _=>by
   rw[cF (by simp[aK,b.len a]),co,Gf.mul_zero,zQ]
  rw[this];exact b
 |add d r w hr hw ih=>
  have l1:=b.len a;have l2:=hw.len a;have f:=a r hr;have:cW c (cW d r w) v=cW (Gf.mul c d) r (cW c w v):=fi (n:=n) (by rw[bY (by rw[bY (by omega)];omega)];exact l1) (by rw[bY (by rw[bY (by omega)];omega),bY (by omega)];exact l1) fun j _=>by
   rw[cF (by rw[bY (by omega)];omega),cF (by omega),cF (by rw[bY (by omega)];omega),cF (by omega),Gf.jz,Gf.mul_assoc]
   ac_rfl
  rw[this];exact .add _ _ _ hr ih
theorem Span.row(b:be n m){r:Row}(a:r∈m):Span n m r:=by
 have:=Span.add 1 r _ a (.zero (n:=n) (m:=m));have e:cW 1 r (aK n)=r:=fi (n:=n) (by rw[bY (by simp[aK,b r a])];simp[aK]) (b r a) fun j _=>by
  rw[cF (by simp[aK,b r a]),co,Gf.one_mul,wc]
 rwa [e]at this
theorem Span.sub(a:be n m)(h:∀r∈m',Span n m r){v:Row}(b:Span n m' v):Span n m v:=by
 induction b with
 |zero=>exact .zero
 |add c r v hr _ ih=>exact(h r hr).comb a ih c
theorem Span.mono(h:∀r∈m',r∈m){v:Row}(a:Span n m' v):Span n m v:=by
 induction a with
 |zero=>exact .zero
 |add c r v hr _ ih=>exact .add c r v (h r hr) ih
theorem Span.lin(d:be n m)(φ:Row->UInt8)(e:φ (aK n)=0)(g:∀c a t,a.length=n->t.length=n->φ (cW c a t)=φ t^^^Gf.mul c (φ a))(f:∀r∈m,φ r=0){v:Row}(b:Span n m v):φ v=0:=by
 induction b with
 |zero=>exact e
 |add c r v hr' b ih=>rw[g c r v (d r hr') (b.len d),ih,f r hr',Gf.mul_zero,zQ]
end
def AZ(S:Row->Prop)(j:Nat):Prop:=∃v,S v/\(∀i,i<j->aM v i=0)/\aM v j≠0
noncomputable def leads(S:Row->Prop)(n:Nat):Nat:=(qC n).countP fun j=>decide (AZ S j)
structure Way (n:Nat) (m:aR) (c top:Nat) (rows:aR):Prop where
 even:be n rows
 len:rows.length=m.length
 tle:top<=rows.length
 span:∀v,Span n rows v↔Span n m v
 cnt:top=leads (Span n m) c
 piv:∃p:Nat->Nat,(∀i,i<top->p i<c)/\(∀i,i<top->∀k,k<rows.length->aM (az rows k) (p i)=if k=i then 1 else 0)/\(∀i,i<top->∀j,j<p i->aM (az rows i) j=0)/\(∀i j,i<j->j<top->p i<p j)
 low:∀k,top<=k->k<rows.length->∀j,j<c->aM (az rows k) j=0
theorem mem_row{m:aR}{i:Nat}(h:i<m.length):az m i∈m:=by rw[bt h];exact qg h
theorem fj{m:aR}{r:Row}(h:r∈m):∃i,i<m.length/\r=az m i:=by
 obtain⟨i,a,rfl⟩:=qF h;exact⟨i,a,(bt a).symm⟩
theorem kt{m:aR}{i j:Nat}{r:Row}(a:i<m.length):az (m.set i r) j=if i=j then r else az m j:=by
 simp only[az,qe,qZ];by_cases h:i=j
 ·subst h;simp[a]
 ·simp[h]
theorem wd{m:aR}{i j k:Nat}(c:i<m.length)(d:j<m.length):az (iH m i j) k=if k=j then az m i else if k=i then az m j else az m k:=by
 rw[iH,kt (by simpa using d),kt c];by_cases a:j=k
 ·rw[if_pos a,if_pos a.symm]
 ·rw[if_neg a,if_neg (show¬k=j from fun h=>a h.symm)];by_cases b:i=k
  ·rw[if_pos b,if_pos b.symm]
  ·rw[if_neg b,if_neg (show¬k=i from fun h=>b h.symm)]
theorem Dr{m:aR}{t c k:Nat}(a:t<m.length):az (jo t c m) k=if t=k then scaleB (Gf.inv (aM (az m t) c)) (az m t)else az m k:=by
 rw[jo,kt a]
section
variable {n:Nat} {m:aR}
theorem Zw(l:be n m){i j:Nat}(a:i<m.length)(b:j<m.length)(v:Row):Span n (iH m i j) v↔Span n m v:=by
 refine⟨Span.mono fun r f=>?_,Span.mono fun r f=>?_⟩
 ·obtain⟨k,c,rfl⟩:=fj f;rw[kI]at c;rw[wd a b];split
  ·exact mem_row a
  ·split
   ·exact mem_row b
   ·exact mem_row c
 ·obtain⟨k,c,rfl⟩:=fj f;have e:∀x,x<m.length->az (iH m i j) x∈iH m i j:=fun x h=>mem_row (by rw[kI];exact h);by_cases d:k=i
  ·subst d;have:=e j b;rw[wd a b,if_pos rfl]at this;exact this
  ·by_cases g:k=j
   ·subst g;have:=e i a;rw[wd a b]at this;by_cases h3:i=k
    ·exact absurd h3.symm d
    ·rw[if_neg h3,if_pos rfl]at this;exact this
   ·have:=e k c;rw[wd a b,if_neg g,if_neg d]at this;exact this
theorem Zx(f:be n m){t c:Nat}(b:t<m.length)(i:aM (az m t) c≠0)(v:Row):Span n (jo t c m) v↔Span n m v:=by
 have a:=Am f (c:=c) b;have h:=bZ f b;have s:∀(x:UInt8) (r:Row),r.length=n->scaleB x r=cW x r (aK n):=fun x r d=>fi (n:=n) (by rw[Al,d]) (by rw[bY (by simp[aK,d])];simp[aK]) fun j _=>by
  rw[Ap,cF (by simp[aK,d]),co,wc]
 refine⟨Span.sub f fun r d=>?_,Span.sub a fun r d=>?_⟩
 ·obtain⟨k,g,rfl⟩:=fj d;rw[nY]at g;rw[Dr b];split
  ·rw[s _ _ h];exact .add _ _ _ (mem_row b) .zero
  ·exact Span.row f (mem_row g)
 ·obtain⟨k,g,rfl⟩:=fj d;have e:∀x,x<m.length->Span n (jo t c m) (az (jo t c m) x):=fun x q=>Span.row a (mem_row (by rw[nY];exact q));by_cases o:t=k
  ·subst o;have:=e t b;rw[Dr b,if_pos rfl]at this;have l:=this.comb a .zero (aM (az m t) c);have p:cW (aM (az m t) c) (scaleB (Gf.inv (aM (az m t) c)) (az m t)) (aK n)=az m t:=fi (n:=n) (by rw[bY (by simp[aK,Al,h])];simp[aK]) h fun j _=>by
    rw[cF (by simp[aK,Al,h]),co,wc,Ap,<-Gf.mul_assoc,Gf.Nd i,Gf.one_mul]
   rw[p]at l;exact l
  ·have:=e k g;rw[Dr b,if_neg o]at this;exact this
theorem Zy(d:be n m){t c:Nat}(f:t<m.length)(v:Row):Span n (dZ t c m m.length) v↔Span n m v:=by
 have b:=An d (c:=c) (k:=m.length) f;have s:=bZ d f;refine⟨Span.sub d fun r h=>?_,Span.sub b fun r h=>?_⟩
 ·obtain⟨k,a,rfl⟩:=fj h;rw[nZ]at a;rw[rx a];split
  ·exact .add _ _ _ (mem_row f) (Span.row d (mem_row a))
  ·exact Span.row d (mem_row a)
 ·obtain⟨k,a,rfl⟩:=fj h;have e:∀x,x<m.length->Span n (dZ t c m m.length) (az (dZ t c m m.length) x):=fun x q=>Span.row b (mem_row (by rw[nZ];exact q));have i:=e t f;rw[rx f,if_neg (by simp)]at i;by_cases o:k=t
  ·subst o;exact i
  ·have l:=e k a;rw[rx a,if_pos ⟨a,o⟩]at l;have h3:=i.comb b l (aM (az m k) c);have g:=bZ d a;have p:cW (aM (az m k) c) (az m t) (cW (aM (az m k) c) (az m t) (az m k))=az m k:=fi (n:=n) (by rw[bY (by rw[bY (by omega)];omega),bY (by omega)];exact g) g fun j _=>by
    rw[cF (by rw[bY (by omega)];omega),cF (by omega),uK]
   rw[p]at h3;exact h3
def bB(f g:Nat->UInt8):Nat->UInt8
 |0=>0
 |k+1=>bB f g k^^^Gf.mul (f k) (g k)
theorem ff(f g:Nat->UInt8):∀k,(∀i,i<k->f i=0)->bB f g k=0
 |0,_=>rfl
 |k+1,h=>by rw[bB,ff f g k fun i a=>h i (by omega),h k (by omega),Gf.zero_mul];rfl
theorem Ib(f g:Nat->UInt8)(x:Nat):∀k,x<k->(∀i,i<k->f i=if x=i then 1 else 0)->bB f g k=g x
 |0,hx,_=>by omega
 |k+1,hx,h=>by
  rw[bB];by_cases a:x=k
  ·subst a;rw[ff f g x fun i b=>by rw[h i (by omega),if_neg (by omega)],h x (by omega),if_pos rfl,Gf.one_mul,wc]
  ·rw[Ib f g x k (by omega) fun i b=>h i (by omega),h k (by omega),if_neg a,Gf.zero_mul,zQ]
theorem Ic(b a g:Nat->UInt8)(c:UInt8):∀k,bB (fun i=>b i^^^Gf.mul c (a i)) g k=bB b g k^^^Gf.mul c (bB a g k)
 |0=>by simp[bB,Gf.mul_zero]
 |k+1=>by
  rw[bB,bB,bB,Ic b a g c k,Gf.jz,Gf.Wh,Gf.mul_assoc]
  ac_rfl
theorem KP(S:Row->Prop)(c:Nat):leads S (c+1)=leads S c+if AZ S c then 1 else 0:=by
 simp only[leads,zF,List.countP_append,List.countP_cons,List.countP_nil];by_cases h:AZ S c<;>simp[h]
theorem Zz(b:be n m):Way n m 0 0 m:=⟨b,rfl,by omega,fun _=>Iff.rfl,by simp[leads],⟨fun _=>0,fun i a=>by omega,fun i a=>by omega,fun i a=>by omega,fun i j _ c=>by omega⟩,fun k _ _ j c=>by omega⟩
theorem abT(hm:be n m){c b:Nat}{rows:aR}(w:Way n m c b rows)(hc:c<n):Way n m (c+1) (iI (b,rows) c).1 (iI (b,rows) c).2:=by
 obtain⟨G,Y,ah,V,M,⟨p,P,p2,p3,p4⟩,l⟩:=w;have hS:∀v,Span n rows v↔Span n m v:=V;have ab:Span n rows=Span n m:=funext fun v=>propext (hS v);unfold iI;dsimp only;cases hb:ir rows b c with
 |none=>
  have S:=Ur hb;dsimp only;have am:¬AZ (Span n m) c:=by
   rw[<-ab];rintro⟨v,hv,hz,ao⟩;apply ao;have hφ:=Span.lin G (fun v=>aM v c^^^bB (fun i=>aM v (p i)) (fun i=>aM (az rows i) c) b) (by
     simp only[co];rw[ff _ _ _ fun i _=>rfl];rfl) (fun x a t ha ht=>by
     simp only[cF (show a.length=t.length by omega)];rw[Ic,Gf.jz];ac_rfl) (fun r hr=>by
     obtain⟨k,H,rfl⟩:=fj hr;by_cases O:k<b
     ·rw[Ib _ _ k b O fun i F=>by rw[p2 i F k H]];exact kJ _
     ·rw[S k (by omega) H,ff _ _ _ fun i F=>by rw[p2 i F k H,if_neg (by omega)]];rfl) hv
   rw[ff _ _ _ fun i F=>hz _ (P i F),zQ]at hφ;exact hφ
  refine⟨G,Y,ah,V,by rw[KP,if_neg am,M];rfl,⟨p,fun i F=>by have:=P i F;omega,p2,p3,p4⟩,fun k y z j f=>?_⟩;rcases zn.1 f with h|rfl
  ·exact l k y z j h
  ·exact S k y z
 |some at_=>
  have hh:=se hb;obtain⟨h1,Z,h3⟩:=hh;dsimp only;have s:b<rows.length:=by omega
  obtain⟨g,A⟩:∃g,g=iH rows b at_:=⟨_,rfl⟩
  have l1:g.length=rows.length:=by rw[A,kI]
  have W:be n g:=by rw[A];exact FQ G s Z
  have q1:∀k,az g k=if k=at_ then az rows b else if k=b then az rows at_ else az rows k:=fun k=>by rw[A,wd s Z]
  have T:az g b=az rows at_:=by
   rw[q1];by_cases h:b=at_
   ·rw[if_pos h,h]
   ·rw[if_neg h,if_pos rfl]
  have K:aM (az g b) c≠0:=by rw[T];exact h3
  obtain⟨u,D⟩:∃u,u=jo b c g:=⟨_,rfl⟩
  have l2:u.length=rows.length:=by rw[D,nY,l1]
  have B:be n u:=by rw[D];exact Am W (by omega)
  have q2:∀k,az u k=if b=k then scaleB (Gf.inv (aM (az g b) c)) (az g b)else az g k:=fun k=>by rw[D,Dr (by omega)]
  have ad:∀j,aM (az g b) j=0->aM (az u b) j=0:=fun j f=>by rw[q2,if_pos rfl,Ap,f,Gf.mul_zero]
  have o:aM (az u b) c=1:=by rw[q2,if_pos rfl,Ap,Gf.mul_comm,Gf.Nd K]
  obtain⟨N,q⟩:∃N,N=dZ b c u rows.length:=⟨_,rfl⟩
  have l3:N.length=rows.length:=by rw[q,nZ,l2]
  have q3:∀k,k<rows.length->∀j,aM (az N k) j=if k=b then aM (az u b) j else aM (az g k) j^^^Gf.mul (aM (az g k) c) (aM (az u b) j):=fun k H j=>by
   rw[q,rx (by omega)];by_cases h:k=b
   ·rw[if_neg (by omega),if_pos h,h]
   ·have e:=q2 k;rw[if_neg (fun hh=>h hh.symm)]at e;rw[if_pos ⟨H,h⟩,if_neg h,cF (by rw[bZ B (by omega),bZ B (by omega)]),e]
  have U:∀j,j<c->aM (az u b) j=0:=fun j f=>ad j (by rw[T];exact l at_ h1 Z j f);have keep:∀k,k<rows.length->∀j,j<c->aM (az N k) j=if k=b then 0 else aM (az g k) j:=fun k H j f=>by
   rw[q3 k H,U j f,Gf.mul_zero,zQ]
  have L:∀k,k<b->az g k=az rows k:=fun k H=>by rw[q1,if_neg (by omega),if_neg (by omega)]
  have J:∀k,b<=k->k<rows.length->∀j,j<c->aM (az g k) j=0:=fun k y z j f=>by
   rw[q1];split
   ·exact l b (ql _) s j f
   ·split
    ·exact l at_ h1 Z j f
    ·exact l k y z j f
  have E:∀v,Span n N v↔Span n m v:=fun v=>by
   rw[q,show rows.length=u.length by omega,Zy B (by omega),D,Zx W (by omega) K,A,Zw G s Z,hS]
  have R:AZ (Span n m) c:=⟨az N b,(E _).1 (Span.row (by rw[q];exact An B (by omega)) (mem_row (by omega))),fun j f=>by rw[keep b s j f,if_pos rfl],by rw[q3 b s,if_pos rfl,o];decide⟩
  have X:dZ b c (jo b c (iH rows b at_)) rows.length=N:=by rw[q,D,A]
  rw[X];refine⟨by rw[q];exact An B (by omega),by omega,by omega,E,by rw[KP,if_pos R,M],⟨fun i=>if i<b then p i else c,fun i F=>?_,fun i F k H=>?_,fun i F j f=>?_,fun i j ap f=>?_⟩,fun k y z j f=>?_⟩
  ·dsimp only;split
   ·have:=P i (by assumption);omega
   ·omega
  ·dsimp only;by_cases d:i<b
   ·rw[if_pos d,keep k (by omega) _ (P i d)];by_cases O:k<b
    ·rw[if_neg (by omega),L k O];exact p2 i d k (by omega)
    ·rw[if_neg (show¬k=i by omega)];split
     ·rfl
     ·exact J k (by omega) (by omega) _ (P i d)
   ·have Q:i=b:=by omega
    subst Q;rw[if_neg d,q3 k (by omega)];by_cases I:k=i
    ·rw[if_pos I,if_pos I];exact o
    ·rw[if_neg I,if_neg I,o,Gf.mul_one];exact kJ _
  ·dsimp only at f;by_cases d:i<b
   ·rw[if_pos d]at f;have:=P i d;rw[keep i (by omega) j (by omega),if_neg (by omega),L i d];exact p3 i d j f
   ·have Q:i=b:=by omega
    subst Q;rw[if_neg d]at f;rw[keep i (by omega) j f,if_pos rfl]
  ·dsimp only;rw[if_pos (show i<b by omega)];split
   ·exact p4 i j ap (by assumption)
   ·exact P i (by omega)
  ·rcases zn.1 f with h|rfl
   ·rw[keep k (by omega) j h,if_neg (by omega)];exact J k (by omega) (by omega) j h
   ·rw[q3 k (by omega),if_neg (by omega),o,Gf.mul_one];exact kJ _
theorem Ie(a:be n m):∀c,c<=n->Way n m c (bC m c).1 (bC m c).2
 |0,_=>Zz a
 |c+1,h=>by rw[bC];exact abT a (Ie a c (by omega)) (by omega)
theorem kS:∀c,bC [] c=(0,[])
 |0=>rfl
 |c+1=>by rw[bC,kS c];rfl
theorem pd(a:be n m):cG m=leads (Span n m) n:=by
 rw[<-(Ie a n (ql _)).cnt,cG];cases m with
 |nil=>rw[kS,kS]
 |cons x t=>rw[fG,bt (by simp)];rw[show((x::t)[0]).length=n from a _ (by simp)]
end
section
variable {n:Nat} {m m':aR}
theorem Xp{S a:Row->Prop}(h:∀v,S v->a v)(n:Nat):leads S n<=leads a n:=by
 refine List.countP_mono_left fun j _ b=>?_;simp only[decide_eq_true_eq]at b⊢;obtain⟨v,c,d⟩:=b;exact⟨v,h v c,d⟩
theorem FX(a:be n m):cG m<=n:=by
 rw[pd a];have:=List.countP_le_length (p:=fun j=>decide (AZ (Span n m) j)) (l:=qC n);simpa[leads]using this
theorem ZA(b:be n m)(a:be n m')(h:∀r∈m,r∈m'):cG m<=cG m':=by
 rw[pd b,pd a];exact Xp (fun v=>Span.mono h) n
theorem ZB{P Q:Nat->Bool}(l:List Nat)(d:l.Nodup)(f:∀a∈l,P a=true->Q a=true)(e:∀a∈l,∀b∈l,Q a=true->P a=false->Q b=true->P b=false->a=b):l.countP Q<=l.countP P+1:=by
 induction l with
 |nil=>simp
 |cons x t ih=>
  rw[yi]at d;have g:=ih d.2 (fun a c=>f a (by simp[c])) (fun a c b i=>e a (by simp[c]) b (by simp[i]));simp only[List.countP_cons];cases hQ:Q x with
  |false=>
   have:(if P x=true then 1 else 0)>=0:=by omega
   simp;omega
  |true=>
   cases hP:P x with
   |true=>simp;omega
   |false=>
    have:t.countP Q<=t.countP P:=by
     refine List.countP_mono_left fun a c h=>?_;cases hpa:P a with
     |true=>rfl
     |false=>
      have:=e x (by simp) a (by simp[c]) hQ hP h hpa;subst this;exact absurd c d.1
    simp;omega
theorem OL(b:be n m){r:Row}(g:r.length=n){v:Row}(l:Span n (m++[r]) v):∃(c:UInt8) (u:Row),Span n m u/\v=cW c r u:=by
 have k:be n (m++[r]):=fun x e=>by
  rcases qE.1 e with h|h
  ·exact b x h
  ·rw[qG.1 h];exact g
 induction l with
 |zero=>exact⟨0,aK n,.zero,(fi (n:=n) (by rw[bY (by simp[aK,g])];simp[aK]) (by simp[aK]) fun j _=>by rw[cF (by simp[aK,g]),co,Gf.zero_mul];rfl).symm⟩
 |add d x w e hw ih=>
  obtain⟨c,u,f,rfl⟩:=ih;have a:=f.len b;rcases qE.1 e with h|h
  ·have o:=b x h;refine⟨c,cW d x u,.add d x u h f,fi (n:=n) (by rw[bY (by rw[bY (by omega)];omega),bY (by omega)];exact a) (by rw[bY (by rw[bY (by omega)];omega),bY (by omega)];exact a) fun j _=>?_⟩;rw[cF (by rw[bY (by omega)];omega),cF (by omega),cF (by rw[bY (by omega)];omega),cF (by omega)]
   ac_rfl
  ·have i:=qG.1 h;subst i;refine⟨c^^^d,u,f,fi (n:=n) (by rw[bY (by rw[bY (by omega)];omega),bY (by omega)];exact a) (by rw[bY (by omega)];exact a) fun j _=>?_⟩;rw[cF (by rw[bY (by omega)];omega),cF (by omega),cF (by omega),Gf.Wh]
   ac_rfl
theorem ZC(a:be n m){r:Row}(c:r.length=n):be n (m++[r]):=fun x b=>by
 rcases qE.1 b with h|h
 ·exact a x h
 ·rw[qG.1 h];exact c
theorem ZD(e:be n m){r:Row}(A:r.length=n):cG m<=cG (m++[r])/\cG (m++[r])<=cG m+1:=by
 have k:=ZC e A;refine⟨ZA e k fun x E=>by simp[E],?_⟩;rw[pd e,pd k];refine ZB _ vu (fun a _ I=>?_) (fun a _ b _ B p F o=>?_)
 ·simp only[decide_eq_true_eq]at I⊢;obtain⟨v,K,H⟩:=I;exact⟨v,Span.mono (fun x E=>by simp[E]) K,H⟩
 ·simp only[decide_eq_true_eq,decide_eq_false_iff_not]at B p F o;have l:∀a b,AZ (Span n (m++[r])) a->¬AZ (Span n m) a->AZ (Span n (m++[r])) b->¬AZ (Span n m) b->¬a<b:=by
   rintro a b ⟨v,N,M,G⟩ p ⟨w,O,h,q⟩ o D;obtain⟨c,u,J,rfl⟩:=OL e A N;obtain⟨d,s,g,rfl⟩:=OL e A O;have l1:=J.len e;have l2:=g.len e;have L:d≠0:=by
    rintro rfl;apply o;refine⟨s,g,fun i t=>?_,?_⟩
    ·have:=h i t;rw[cF (by omega),Gf.zero_mul,zQ]at this;exact this
    ·rw[cF (by omega),Gf.zero_mul,zQ]at q;exact q
   apply p;refine⟨cW (Gf.mul c (Gf.inv d)) s u,g.comb e J _,?_⟩;have f:∀j,aM (cW (Gf.mul c (Gf.inv d)) s u) j=aM (cW c r u) j^^^Gf.mul (Gf.mul c (Gf.inv d)) (aM (cW d r s) j):=fun j=>by
    rw[cF (by omega),cF (by omega),cF (by omega),Gf.jz,<-Gf.mul_assoc (Gf.mul c (Gf.inv d)) d,Gf.mul_assoc c (Gf.inv d) d,Gf.mul_comm (Gf.inv d) d,Gf.Nd L,Gf.mul_one];have:∀x y z:UInt8,x^^^y=x^^^z^^^(y^^^z):=fun x y z=>by
     have:x^^^z^^^(y^^^z)=x^^^y^^^(z^^^z):=by ac_rfl
     rw[this,kJ,zQ]
    exact this _ _ _
   refine⟨fun i t=>?_,?_⟩
   ·rw[f,M i t,h i (by omega),Gf.mul_zero];rfl
   ·rw[f,h a D,Gf.mul_zero,zQ];exact G
  have K:=l a b B p F o;have H:=l b a F o B p;omega
theorem pe(m:aR)(h:be n m):cG m<=m.length:=by
 have a:∀k,k<=m.length->cG (m.take k)<=k:=by
  intro k
  induction k with
  |zero=>intro _;simp[cG,fG,az,bC]
  |succ k ih=>
   intro f;have c:be n (m.take k):=fun x b=>h x (zK b);have d:=ih (by omega);rw[zp (by omega)];have e:=(ZD c (h _ (qg (show k<m.length by omega)))).2;omega
 have:=a m.length (ql _)
 rwa [qi (ql _)]at this
end
def KQ(p:Int×Int×Int)(seed:Int)(ids:List Int):Nat:=cG (dI p seed ids)
def fJ(p:Int×Int×Int)(seed:Int)(ids:List Int):Bool:=bM p&&((KQ p seed ids:Int)==bX p)
def eC(p:Int×Int×Int):List Int:=upto (max 0 (min p.1 16)).toNat
theorem ry{p:Int×Int×Int}(h:bM p=true):bX p=p.1+p.2.1:=by rw[bX,if_pos h]
theorem mi(p:Int×Int×Int)(seed:Int)(ids:List Int):be (bX p).toNat (dI p seed ids):=by
 intro r a;unfold dI at a;split at a
 ·rename_i b;have:=(bU p).1 b;rcases qE.1 a with h|h
  ·obtain⟨x,_,rfl⟩:=qx.1 h;rw[FP,ry b];omega
  ·obtain⟨x,_,rfl⟩:=qx.1 h;exact abQ _ _ _
 ·cases a
theorem abU(p:Int×Int×Int)(seed:Int)(ids:List Int):(dI p seed ids).length<=4+ids.length:=by
 unfold dI;split
 ·rename_i a;have:=(bU p).1 a;have b:=q7 bR ids;simp only[qu,bw,qw,zt];omega
 ·simp
theorem KR(K H:Nat):be (K+H) (bw K H):=fun r a=>by
 obtain⟨x,_,rfl⟩:=qx.1 a;exact FP _ _ _
def dS(a b:aR):aR:=zj (·++·) a b
def jW(n:Nat)(m:aR):aR:=m.map (List.take n)
theorem Jw{r:Row}{n j:Nat}(h:j<n):aM (r.take n) j=aM r j:=by
 simp only[aM,qe,vb];rw[if_pos h]
theorem RK(r:Row)(n j:Nat):aM (r.drop n) j=aM r (n+j):=by
 simp only[aM,qe,wq]
theorem uL(n:Nat)(m:aR)(i:Nat):az (jW n m) i=(az m i).take n:=by
 simp only[az,jW,qe,qN];cases m[i]? with
 |none=>simp
 |some r=>rfl
theorem Nf(n:Nat)(m:aR):(jW n m).length=m.length:=by simp[jW]
theorem Xq{n a bp:Nat}(m:aR)(h:bp<n):ir (jW n m) a bp=ir m a bp:=by
 unfold ir;rw[Nf];congr 1;funext i;rw[uL,Jw h]
theorem Ng(n:Nat)(m:aR)(i:Nat)(r:Row):jW n (m.set i r)=(jW n m).set i (r.take n):=by simp[jW,List.map_set]
theorem abV(n:Nat)(m:aR)(i j:Nat):jW n (iH m i j)=iH (jW n m) i j:=by
 rw[iH,Ng,Ng,iH,uL,uL]
theorem ZE(n:Nat)(c:UInt8)(r:Row):(scaleB c r).take n=scaleB c (r.take n):=by simp[scaleB,List.map_take]
theorem aef(n:Nat)(c:UInt8)(a t:Row):(cW c a t).take n=cW c (a.take n) (t.take n):=by simp[cW,List.take_zipWith]
theorem abW{n bp:Nat}(h:bp<n)(t:Nat)(m:aR):jW n (jo t bp m)=jo t bp (jW n m):=by
 rw[jo,Ng,ZE,jo,uL,Jw h]
theorem abX{n bp:Nat}(h:bp<n)(t k:Nat)(m:aR):jW n (dZ t bp m k)=dZ t bp (jW n m) k:=by
 apply zH;intro i;simp only[jW,dZ,qN,yU];cases m[i]? with
 |none=>rfl
 |some r=>
  simp only[qO];congr 1;have:=uL n m t;rw[jW]at this;rw[this,Jw h];split
  ·exact aef _ _ _ _
  ·rfl
theorem abY{n bp:Nat}(h:bp<n)(s:Nat×aR):((iI s bp).1,jW n (iI s bp).2)=iI (s.1,jW n s.2) bp:=by
 unfold iI;dsimp only;rw[Xq _ h];cases ir s.2 s.1 bp with
 |none=>rfl
 |some i=>dsimp only;rw[abX h,abW h,abV,Nf]
theorem KS(n:Nat)(m:aR):∀c,c<=n->((bC m c).1,jW n (bC m c).2)=bC (jW n m) c
 |0,_=>rfl
 |c+1,h=>by
  have a:=KS n m c (by omega);rw[bC,bC,abY (show c<n by omega),a]
theorem lD{a b:aR}(h:a.length=b.length):(dS a b).length=a.length:=by simp[dS,h]
theorem If{a b:aR}(h:a.length=b.length){i:Nat}(c:i<a.length):az (dS a b) i=az a i++az b i:=by
 rw[bt (by rw[lD h];exact c),bt c,bt (by omega)];simp[dS]
theorem mj{n w:Nat}{a b:aR}(h:a.length=b.length)(f:be n a)(e:be w b):be (n+w) (dS a b):=fun r d=>by
 obtain⟨i,c,rfl⟩:=fj d;rw[lD h]at c;rw[If h c,qu,bZ f c,bZ e (by omega)]
theorem aeg{n:Nat}{a b:aR}(h:a.length=b.length)(e:be n a):jW n (dS a b)=a:=by
 apply we (by rw[Nf,lD h]);intro i d c;have:=uL n (dS a b) i;rw[bt d,If h c,List.take_left' (bZ e c),bt c]at this;exact this
theorem abZ{n:Nat}{a:aR}(b:be n a):(bC a n).1=cG a:=by
 rw[cG];cases a with
 |nil=>rw[kS,kS]
 |cons x t=>rw[fG,bt (by simp)];rw[show((x::t)[0]).length=n from b _ (by simp)]
theorem Jx{n:Nat}{a b:aR}(h:a.length=b.length)(c:be n a):(bC (dS a b) n).1=cG a:=by
 have:=congrArg qK (KS n (dS a b) n (ql _));rw[aeg h c]at this;rw[<-abZ c];exact this
def rz(w:Nat)(r:Row)(X:aR):Nat->Row
 |0=>aK w
 |k+1=>cW (aM r k) (az X k) (rz w r X k)
theorem gW{n w:Nat}{X:aR}(b:be w X)(c:X.length=n)(r:Row):∀k,k<=n->(rz w r X k).length=w
 |0,_=>by simp[rz,aK]
 |k+1,h=>by
  have a:=gW b c r k (by omega);rw[rz,bY (by rw[bZ b (by omega),a])];exact a
theorem gl{n w:Nat}{X:aR}(a:be w X)(b:X.length=n)(r:Row)(j:Nat):∀k,k<=n->aM (rz w r X k) j=bB (fun i=>aM r i) (fun i=>aM (az X i) j) k
 |0,_=>by rw[rz,co];rfl
 |k+1,h=>by
  have c:=gl a b r j k (by omega);rw[rz,cF (by rw[bZ a (by omega),gW a b r k (by omega)]),c];rfl
def eW(n w:Nat)(a b X:aR):Prop:=X.length=n/\be w X/\∀i,i<a.length->rz w (az a i) X n=az b i
theorem aca{m a:aR}(d:m.length=a.length)(h:∀i,i<m.length->az m i=az a i):m=a:=by
 apply we d;intro i b c;have:=h i b
 rwa [bt b,bt c]at this
def wf(n:Nat)(X:aR)(k:Nat)(v:Row):UInt8:=aM v (n+k)^^^bB (fun i=>aM v i) (fun i=>aM (az X i) k) n
theorem fk{f f' g a:Nat->UInt8}:∀k,(∀i,i<k->f i=f' i)->(∀i,i<k->g i=a i)->bB f g k=bB f' a k
 |0,_,_=>rfl
 |k+1,h1,h2=>by rw[bB,bB,fk k (fun i b=>h1 i (by omega)) (fun i b=>h2 i (by omega)),h1 k (by omega),h2 k (by omega)]
theorem Wm(n:Nat)(X:aR)(k:Nat)(c:UInt8)(a t:Row)(h:a.length=t.length):wf n X k (cW c a t)=wf n X k t^^^Gf.mul c (wf n X k a):=by
 unfold wf;rw[cF h];have:bB (fun i=>aM (cW c a t) i) (fun i=>aM (az X i) k) n=bB (fun i=>aM t i^^^Gf.mul c (aM a i)) (fun i=>aM (az X i) k) n:=fk n (fun i _=>cF h i) fun _ _=>rfl;rw[this,Ic,Gf.jz];ac_rfl
theorem Wn{a b:Row}{n:Nat}(c:a.length=n)(k:Nat):aM (a++b) (n+k)=aM b k:=by
 simp only[aM,qe];rw[qj (by omega),c,zk]
theorem RL{a b:Row}{n j:Nat}(c:a.length=n)(d:j<n):aM (a++b) j=aM a j:=by
 simp only[aM,qe];rw[qn (by omega)]
theorem pf{a b:UInt8}:a^^^b=0↔a=b:=by
 constructor
 ·intro h;have:=congrArg (·^^^b) h;simp only[wc]at this
  rwa [uK]at this
 ·rintro rfl;exact kJ _
theorem KT{n w:Nat}{a b X:aR}(h:a.length=b.length)(f:be n a)(p:be w b)(l:X.length=n)(g:be w X):eW n w a b X↔∀k,k<w->∀v,Span (n+w) (dS a b) v->wf n X k v=0:=by
 have e:=mj h f p;constructor
 ·intro q k o v x;refine Span.lin e (wf n X k) ?_ (fun c a t z y=>Wm n X k c a t (by omega)) (fun r s=>?_) x
  ·unfold wf;rw[co,ff _ _ n fun i _=>co _ _];rfl
  ·obtain⟨i,d,rfl⟩:=fj s;rw[lD h]at d;rw[If h d];unfold wf;rw[Wn (bZ f d),<-q.2.2 i d,gl g l _ k n (ql _),pf];exact fk n (fun j m=>(RL (bZ f d) m).symm) fun _ _=>rfl
 ·intro u;refine⟨l,g,fun i d=>fi (n:=w) (gW g l _ n (ql _)) (bZ p (by omega)) fun k o=>?_⟩;have:=u k o _ (Span.row e (mem_row (show i<(dS a b).length by rw[lD h];exact d)));rw[If h d]at this;unfold wf at this;rw[Wn (bZ f d),pf]at this;rw[this,gl g l _ k n (ql _)];exact fk n (fun j m=>(RL (bZ f d) m).symm) fun _ _=>rfl
theorem afn{n:Nat}{p:Nat->Nat}(c:∀i,i<n->p i<n)(b:∀i j,i<j->j<n->p i<p j):∀i,i<n->p i=i:=by
 have d:∀i,i<n->i<=p i:=by
  intro i
  induction i with
  |zero=>intro _;omega
  |succ i ih=>intro a;have:=ih (by omega);have:=b i (i+1) (by omega) a;omega
 have up:∀k i,i+k+1=n->p i<=i:=by
  intro k
  induction k with
  |zero=>intro i a;have:=c i (by omega);omega
  |succ k ih=>intro i a;have:=ih (i+1) (by omega);have:=b i (i+1) (by omega) (by omega);omega
 intro i a;have:=d i a;have:=up (n-1-i) i (by omega);omega
def fw(n:Nat)(a b:aR):aR:=(((bC (dS a b) n).2).take n).map (vK n)
def kj(n:Nat)(a b:aR):Prop:=∀r∈((bC (dS a b) n).2).drop n,r=aK r.length
section
variable {n w:Nat} {a b:aR}
theorem uM(h:a.length=b.length)(f:be n a)(i:be w b)(j:cG a=n):(fw n a b).length=n/\be w (fw n a b):=by
 have c:=mj h f i;have e:=ia c n;have h3:=pe a f;refine⟨by rw[fw,qw,qX,e.2,lD h];omega,fun r d=>?_⟩;obtain⟨x,g,rfl⟩:=qx.1 d;rw[qY,e.1 x (zK g)];omega
theorem Wo(h:a.length=b.length)(e:be n a)(d:cG a=n){i:Nat}(c:i<n):az (fw n a b) i=(az (bC (dS a b) n).2 i).drop n:=by
 simp only[az,fw,qe,qN,vb];rw[if_pos c]
 cases(bC (dS a b) n).2[i]? with
 |none=>simp
 |some r=>rfl
theorem RM(h:a.length=b.length)(f:be n a)(o:be w b)(m:cG a=n):
  (∀v,Span (n+w) (bC (dS a b) n).2 v↔Span (n+w) (dS a b) v)/\(bC (dS a b) n).2.length=a.length/\(∀i,i<n->∀k,k<a.length->aM (az (bC (dS a b) n).2 k) i=if k=i then 1 else 0):=by
 have c:=mj h f o;have W:=Ie c n (by omega);have l:(bC (dS a b) n).1=n:=by rw[Jx h f,m]
 obtain⟨p,e,g,q,j⟩:=W.piv;rw[l]at e g q j;have hid:=afn e j;have r:(bC (dS a b) n).2.length=a.length:=by rw[W.len,lD h]
 refine⟨W.span,r,fun i d k s=>?_⟩;have:=g i d k (by omega)
 rwa [hid i d]at this
theorem RN{X:aR}{r:Row}{i k:Nat}(b:i<n)(a:∀j,j<n->aM r j=if i=j then 1 else 0):wf n X k r=aM r (n+k)^^^aM (az X i) k:=by
 unfold wf;rw[Ib _ _ i n b fun j c=>a j c]
theorem Wp{X:aR}{r:Row}{k:Nat}(a:∀j,j<n->aM r j=0):wf n X k r=aM r (n+k):=by
 unfold wf;rw[ff _ _ n a,zQ]
theorem kT(h:a.length=b.length)(l:be n a)(o:be w b)(t:cG a=n){X:aR}(g:eW n w a b X):X=fw n a b/\kj n a b:=by
 have q:=mj h l o;have u:=ia q n;obtain⟨m,D,s⟩:=RM h l o t;have A:=pe a l;have z:=(KT h l o g.1 g.2.1).1 g;obtain⟨y,s2⟩:=uM h l o t;constructor
 ·refine aca (by rw[g.1,y]) fun i c=>fi (n:=w) (bZ g.2.1 c) (bZ s2 (by rw[y];rw[g.1]at c;exact c)) fun k B=>?_;rw[g.1]at c;have h3:=z k B _ ((m _).1 (Span.row u.1 (mem_row (show i<(bC (dS a b) n).2.length by omega))));rw[RN c fun j p=>s j p i (by omega)]at h3;rw[Wo h l t c,RK];exact(pf.1 h3).symm
 ·intro r v;obtain⟨i,c,rfl⟩:=qF v;rw[qY]at c;rw[zR];have f:n+i<(bC (dS a b) n).2.length:=by omega
  have e:=bt f;have d:=bZ u.1 f;rw[<-e,d];refine fi (n:=n+w) d (by simp[aK]) fun j p=>?_;rw[co];by_cases x:j<n
  ·rw[s j x (n+i) (by omega),if_neg (by omega)]
  ·obtain⟨k,rfl⟩:∃k,j=n+k:=⟨j-n,by omega⟩
   have h3:=z k (by omega) _ ((m _).1 (Span.row u.1 (mem_row f)))
   rwa [Wp fun j p=>by rw[s j p (n+i) (by omega),if_neg (by omega)]]at h3
theorem ph(h:a.length=b.length)(e:be n a)(g:be w b)(m:cG a=n)(B:kj n a b):eW n w a b (fw n a b):=by
 have l:=mj h e g;have u:=ia l n;obtain⟨q,G,s⟩:=RM h e g m;have z:=pe a e;obtain⟨A,s2⟩:=uM h e g m;refine(KT h e g A s2).2 fun k E v D=>?_;refine Span.lin u.1 (wf n (fw n a b) k) ?_ (fun c x t F u=>Wm n _ k c x t (by omega)) (fun r o=>?_) ((q v).2 D)
 ·unfold wf;rw[co,ff _ _ n fun i _=>co _ _];rfl
 ·obtain⟨i,y,rfl⟩:=fj o;by_cases f:i<n
  ·rw[RN f fun j p=>s j p i (by omega),Wo h e m f,RK];exact kJ _
  ·rw[Wp fun j p=>by rw[s j p i (by omega),if_neg (by omega)]];have:az (bC (dS a b) n).2 i∈(bC (dS a b) n).2.drop n:=by
    rw[bt y];obtain⟨d,rfl⟩:∃d,i=n+d:=⟨i-n,by omega⟩
    rw[<-zR (h:=by rw[qY];omega)];exact qg _
   rw[B _ this,co]
theorem Ut(h:a.length=b.length)(g:be n a)(f:be w b)(i:a.length=n):kj n a b:=by
 have c:=mj h g f;have e:=ia c n;intro r d;rw[q9 (by rw[e.2,lD h];omega)]at d;cases d
end
def RO(l:List Int):Prop:=∀a b,a<l.length->b<l.length->kr l a=kr l b->a=b
theorem Ig{l:List Int}{i:Nat}(h:i<l.length):kr l i=l[i]:=by rw[kr,qe,qd h];rfl
theorem acb{l:List Int}{i j k:Nat}(d:i<l.length)(c:j<l.length):kr (sa l i j) k=if k=j then kr l i else if k=i then kr l j else kr l k:=by
 simp only[kr,sa,qe,qZ,zE];by_cases a:j=k
 ·subst a;simp[c]
 ·by_cases b:i=k
  ·subst b;simp[a,d];omega
  ·simp[a,b];omega
theorem swap_inj{l:List Int}{i j:Nat}(g:i<l.length)(p:j<l.length)(h:RO l):RO (sa l i j):=by
 intro a b n o m;rw[RB]at n o;have c:∀k,k<l.length->∃σ,σ<l.length/\kr (sa l i j) k=kr l σ/\(σ=if k=j then i else if k=i then j else k):=fun k v=>by
  rw[acb g p];by_cases f:k=j
  ·rw[if_pos f,if_pos f];exact⟨i,g,rfl,rfl⟩
  ·rw[if_neg f,if_neg f];by_cases e:k=i
   ·rw[if_pos e,if_pos e];exact⟨j,p,rfl,rfl⟩
   ·rw[if_neg e,if_neg e];exact⟨k,v,rfl,rfl⟩
 obtain⟨s,q,w,r⟩:=c a n;obtain⟨t,u,e2,d⟩:=c b o;rw[w,e2]at m;have:=h s t q u m;subst this;rw[r]at d;split at d<;>split at d<;>(try split at d)<;>(try split at d)<;>omega
theorem ZF{l:List Int}(h:RO l):l.Nodup:=by
 rw[List.nodup_iff_pairwise_ne,zq];intro i j a b c d;have:=h i j a b (by rw[Ig a,Ig b];exact d);omega
theorem acd(n:Nat):RO (upto n):=by
 intro a b d c e;rw[gi]at d c;rw[Ig (by rw[gi];exact d),Ig (by rw[gi];exact c)]at e;simp[upto]at e;omega
theorem RP(n:Nat)(s:Int):∀k,k<=n->n<=64->RO (fR n s (upto n) k).2
 |0,_,_=>acd n
 |k+1,hk,hn=>by
  have a:=uZ n s (upto n) k;rw[gi]at a;have:=uY (fR n s (upto n) k).1 ((n-k:Nat):Int) (by omega) (by omega);exact swap_inj (by omega) (by omega) (RP n s k (by omega) hn)
theorem Xr(s:Int)(n k:Nat)(b:k<=n)(a:n<=64):(HV s n k).Nodup:=by
 have h:=(ZF (RP n s k b a)).sublist (List.take_sublist k _);exact(yk _ _).nodup_iff.2 h
theorem Ds{n:Nat}(a:1<=n)(b:n<=20)(seed id:Int):(cV n seed id).Nodup:=Xr _ _ _ (vW _ n a b) (by omega)
theorem Uu(n:Nat)(seed id:Int):(cV n seed id).Pairwise (·<=·):=by
 have:=vh (le:=fun x y:Int=>decide (x<=y)) (by intro a b c;simp;omega) (by intro a b;simp;omega) ((fR n (El (El (FO seed id))) (upto n) (HY (El (FO seed id)) n)).2.take (HY (El (FO seed id)) n));exact this.imp (by simp)
theorem Nh{r:Row}{i j:Nat}{x:UInt8}(a:i<r.length):aM (r.set i x) j=if j=i then x else aM r j:=by
 simp only[aM,qe,qZ];by_cases h:i=j
 ·subst h;simp[a]
 ·simp[h];intro e;exact absurd e.symm h
theorem OM(n:Nat)(l:List Int)(c:Int):fB n (l++[c])=(fB n l).set c.toNat 1:=by rw[fB,wE];rfl
theorem Dt{n:Nat}:∀(l:List Int) (_:∀x∈l,0<=x/\x<(n:Int)) (j:Nat),aM (fB n l) j=if(j:Int)∈l then 1 else 0:=by
 intro l;have d:∀k,k<=l.length->(∀x∈l,0<=x/\x<(n:Int))->∀j:Nat,aM (fB n (l.take k)) j=if(j:Int)∈l.take k then 1 else 0:=by
  intro k
  induction k with
  |zero=>intro _ _ j;simp[fB];exact co n j
  |succ k ih=>
   intro g b j;have f:=b _ (qg (show k<l.length by omega));rw[zp (by omega),OM,Nh (by rw[ru];omega),ih (by omega) b];have a:(j:Int)∈l.take k++[l[k]]↔(j:Int)∈l.take k∨(j:Int)=l[k]:=by rw[qE,qG]
   by_cases h:j=l[k].toNat
   ·rw[if_pos h,if_pos (a.2 (.inr (by omega)))]
   ·rw[if_neg h];by_cases c:(j:Int)∈l.take k
    ·rw[if_pos c,if_pos (a.2 (.inl c))]
    ·rw[if_neg c,if_neg (fun e=>(a.1 e).elim c fun h3=>h (by omega))]
 intro b j;have:=d l.length (ql _) b j
 rwa [qi (ql _)]at this
theorem Jy{f f' g:Nat->UInt8}{c:Nat}(a:f c=0)(b:∀i,f' i=if i=c then 1 else f i):∀k,bB f' g k=bB f g k^^^if c<k then g c else 0
 |0=>by simp[bB]
 |k+1=>by
  rw[bB,bB,Jy a b k,b k];by_cases d:k=c
  ·subst d;rw[if_pos rfl,if_neg (by omega),if_pos (by omega),Gf.one_mul,a,Gf.zero_mul]
  ·rw[if_neg d];by_cases h:c<k
   ·rw[if_pos h,if_pos (by omega)];ac_rfl
   ·rw[if_neg h,if_neg (by omega)];simp
def fl(w:Nat)(X:aR)(l:List Int):Row:=l.foldl (fun s c=>cW 1 (az X c.toNat) s) (aK w)
theorem Du(w:Nat)(X:aR)(l:List Int)(c:Int):fl w X (l++[c])=cW 1 (az X c.toNat) (fl w X l):=by rw[fl,wE];rfl
theorem pi{n w:Nat}{X:aR}(b:be w X)(d:X.length=n){l:List Int}(a:∀x∈l,0<=x/\x<(n:Int)):∀k,k<=l.length->(fl w X (l.take k)).length=w:=by
 intro k
 induction k with
 |zero=>intro _;simp[fl,aK]
 |succ k ih=>
  intro e;have c:=a _ (qg (show k<l.length by omega));rw[zp (by omega),Du,bY (by rw[bZ b (by omega),ih (by omega)])];exact ih (by omega)
theorem Wq{n w:Nat}{X:aR}(b:be w X)(c:X.length=n){l:List Int}(a:∀x∈l,0<=x/\x<(n:Int)):(fl w X l).length=w:=by
 have:=pi b c a l.length (ql _)
 rwa [qi (ql _)]at this
theorem aeh{n w:Nat}{X:aR}(a:be w X)(b:X.length=n){l:List Int}(d:∀x∈l,0<=x/\x<(n:Int))(o:l.Nodup):fl w X l=rz w (fB n l) X n:=by
 have m:∀k,k<=l.length->fl w X (l.take k)=rz w (fB n (l.take k)) X n:=by
  intro k
  induction k with
  |zero=>
   intro _;refine fi (n:=w) (by simp[fl,aK]) (gW a b _ n (ql _)) fun j _=>?_;rw[gl a b _ j n (ql _),ff _ _ n fun i _=>by simp only[vC,fB,wI];exact co n i];simp only[vC,fl,wI];exact co w j
  |succ k ih=>
   intro r;have p:=d _ (qg (show k<l.length by omega));have q:=pi a b d k (by omega);rw[zp (by omega),Du,OM,ih (by omega)];refine fi (n:=w) ?_ (gW a b _ n (ql _)) fun j _=>?_
   ·rw[bY (by rw[bZ a (by omega),gW a b _ n (ql _)])];exact gW a b _ n (ql _)
   ·rw[cF (by rw[bZ a (by omega),gW a b _ n (ql _)]),gl a b _ j n (ql _),gl a b _ j n (ql _)];have g:l[k]∉l.take k:=fun h=>by
     have e:l=l.take k++l[k]::l.drop (k+1):=by rw[<-qT (by omega),qD]
     rw[e,List.nodup_append]at o;exact o.2.2 _ h _ q8 rfl
    have h0:aM (fB n (l.take k)) l[k].toNat=0:=by
     rw[Dt _ (fun x p=>d x (zK p)),if_neg];intro h;apply g;have:((l[k].toNat:Nat):Int)=l[k]:=by omega
     rwa [this]at h
    rw[Jy (f:=fun i=>aM (fB n (l.take k)) i) (c:=l[k].toNat) h0 (fun i=>Nh (by rw[ru];omega)) n,if_pos (by omega),Gf.one_mul]
 have:=m l.length (ql _)
 rwa [qi (ql _)]at this
open Go Go.Vc
def ji(K H w:Nat)(d:Row):aR:=qh H (aK w)++(qC K).map (FJ d w)
def eE(p:Int×Int×Int)(seed:Int)(d:Row):aR:=fw (bX p).toNat (dI p seed (eC p)) (ji p.1.toNat p.2.1.toNat p.2.2.toNat d)
structure bT (p:Int×Int×Int) (seed:Int) (d:Row) (K H w n:Nat):Prop where
 may:bM p=true
 full:fJ p seed (eC p)=true
 k:p.1=K
 h:p.2.1=H
 s:p.2.2=w
 n:n=K+H
 k1:1<=K
 k2:K<=16
 h1:1<=H
 h2:H<=4
 w1:1<=w
 w2:w<=24
 len:d.length=K*w
theorem adF{p:Int×Int×Int}{seed:Int}{d:Row}(a:bM p=true)(e:fJ p seed (eC p)=true)(b:(d.length:Int)=p.1*p.2.2):∃K H w n,bT p seed d K H w n:=by
 have:=(bU p).1 a;refine⟨p.1.toNat,p.2.1.toNat,p.2.2.toNat,p.1.toNat+p.2.1.toNat,a,e,by omega,by omega,by omega,rfl,by omega,by omega,by omega,by omega,by omega,by omega,?_⟩;have c:p.1=(p.1.toNat:Int):=by omega
 have e2:p.2.2=(p.2.2.toNat:Int):=by omega
 rw[c,e2,<-wz]at b;exact Int.ofNat.inj b
section
variable {p:Int×Int×Int} {seed:Int} {d:Row} {K H w n:Nat}
theorem bT.cD(B:bT p seed d K H w n):bX p=n:=by rw[ry B.may,B.k,B.h,B.n];rfl
theorem bT.pj(B:bT p seed d K H w n):(bX p).toNat=n:=by rw[B.cD];rfl
theorem Xs(a:p.1=(K:Int))(h:K<=16):eC p=upto K:=by
 rw[eC];congr 1;omega
theorem Uv(h:K<=16):(upto K).filter bR=upto K:=by
 rw[wg];intro x b;simp[upto]at b;obtain⟨a,c,rfl⟩:=b;simp[bR];omega
theorem bT.Rq(B:bT p seed d K H w n):dI p seed (eC p)=bw K H++(qC K).map fun i:Nat=>rv n seed (i:Int):=by
 rw[dI,if_pos B.may,Xs B.k B.k2,Uv B.k2,B.k,B.h,B.pj,qp,qp,upto,wK];rfl
theorem bT.FY(B:bT p seed d K H w n):(dI p seed (eC p)).length=n:=by
 rw[B.Rq,qu,qw,zt,bw,qw,zt,B.n];omega
theorem bT.Ih(B:bT p seed d K H w n):be n (dI p seed (eC p)):=by
 have:=mi p seed (eC p)
 rwa [B.pj]at this
theorem bT.Ni(B:bT p seed d K H w n):cG (dI p seed (eC p))=n:=by
 have h:=B.full;rw[fJ,B.may,B.cD,KQ]at h;simp at h;exact Int.ofNat.inj h
theorem FZ(K H w:Nat)(d:Row):(ji K H w d).length=K+H:=by simp[ji];omega
theorem uk(c:d.length=K*w):be w (ji K H w d):=fun r b=>by
 rcases qE.1 b with h|h
 ·rw[(wM.1 h).2];simp[aK]
 ·obtain⟨i,a,rfl⟩:=qx.1 h;rw[qH]at a;exact aea (by rw[c];exact zG w a)
theorem ZG{i:Nat}(a:i<H):az (ji K H w d) i=aK w:=by
 rw[az,ji,qe,qn (by simpa using a)];simp[a]
theorem Xt{i:Nat}(a:i<K):az (ji K H w d) (H+i)=FJ d w i:=by
 rw[az,ji,qe,qj (by simp)];simp[a]
theorem bT.En(B:bT p seed d K H w n):eE p seed d=fw n (dI p seed (eC p)) (ji K H w d):=by
 rw[eE,B.pj,B.k,B.h,B.s];rfl
theorem bT.lens(B:bT p seed d K H w n):(dI p seed (eC p)).length=(ji K H w d).length:=by rw[B.FY,FZ,B.n]
theorem bT.sw(B:bT p seed d K H w n):(eE p seed d).length=n/\be w (eE p seed d):=by
 rw[B.En];exact uM B.lens B.Ih (uk B.len) B.Ni
theorem bT.eW(B:bT p seed d K H w n):eW n w (dI p seed (eC p)) (ji K H w d) (eE p seed d):=by
 rw[B.En];exact ph B.lens B.Ih (uk B.len) B.Ni (Ut B.lens B.Ih (uk B.len) B.FY)
theorem bT.afo(B:bT p seed d K H w n){i:Nat}(a:i<H):az (dI p seed (eC p)) i=kQ K H i:=by
 rw[B.Rq,az,qe,qn (by simpa[bw]using a)];simp[bw,a]
theorem bT.aei(B:bT p seed d K H w n){i:Nat}(a:i<K):az (dI p seed (eC p)) (H+i)=rv n seed (i:Int):=by
 rw[B.Rq,az,qe,qj (by simp[bw])];simp[bw,a]
theorem bT.low(B:bT p seed d K H w n){i:Nat}(a:i<H):rz w (kQ K H i) (eE p seed d) n=aK w:=by
 have:=B.eW.2.2 i (by rw[B.FY,B.n];omega)
 rwa [B.afo a,ZG a]at this
theorem bT.high(B:bT p seed d K H w n){i:Nat}(a:i<K):rz w (rv n seed (i:Int)) (eE p seed d) n=FJ d w i:=by
 have:=B.eW.2.2 (H+i) (by rw[B.FY,B.n];omega)
 rwa [B.aei a,Xt a]at this
theorem bT.n1(B:bT p seed d K H w n):1<=n:=by have:=B.n;have:=B.k1;omega
theorem bT.n2(B:bT p seed d K H w n):n<=20:=by have:=B.n;have:=B.k2;have:=B.h2;omega
theorem bT.sym(B:bT p seed d K H w n)(id:Int):fl w (eE p seed d) (cV n seed id)=rz w (rv n seed id) (eE p seed d) n:=
 aeh B.sw.2 B.sw.1 (fun _ a=>mg B.n1 B.n2 a) (Ds B.n1 B.n2 seed id)
theorem bT.ace(B:bT p seed d K H w n){i:Nat}(a:i<K):fl w (eE p seed d) (cV n seed (i:Int))=FJ d w i:=by rw[B.sym,B.high a]
theorem bT.ZH(B:bT p seed d K H w n)(id:Int):(fl w (eE p seed d) (cV n seed id)).length=w:=
 Wq B.sw.2 B.sw.1 fun _ a=>mg B.n1 B.n2 a
end
end Wl
namespace Go.Vc
open Go
theorem Uw{α:Type}{c k:Nat}{f:α->List Value}:∀{rs:List Sl} {ll:List (List α)} (b:List Sl) (a:List (List α)),rs.length=ll.length->bP c k f (rs++b) (ll++a)=bP c k f rs ll++bP c k f b a:=by
 intro rs ll b a h;unfold bP;exact yH h
theorem aa.acf{B:aA}{a h:Heap}{X:HP}:∀{L M:List HP},aa B a h (L++X::M)->aa B a h (L++M):=fun{L M} H=>by
 have:=H.del L.length
 rwa [List.eraseIdx_append_of_length_le (ql _),zf,List.eraseIdx_cons_zero]at this
section
variable {α:Type} {C:Ctx} {B:aA} {h0 h h':Heap} {As:List HP} {e e2 k t t2 by_:Nat} {s s2:Sl} {f:α->List Value} {ll l2:List (List α)}
theorem aa.aej(D:C.Ok)(H:aa B h0 h (lP e s e2 k f ll::lP e s2 e2 k f l2::As))(w:bN C.toBR t e 1 [.slice none 0 0] 24)(x:∃i e2,C.T.get t2=some i/\i.cE=.slice e2)(u:ll.length+l2.length<=2^32){ty:Nat}{K:Sl->Heap->Prop}
  (z:∀d h',aa B h0 h' (lP e d e2 k f (ll++l2)::As)->K d h'):
  aw C.P (qq #[t,t2] ty #[.slice s.ptr s.len s.cap,.slice s2.ptr s2.len s2.cap]) (.one (.sc .slc)) h K:=by
 obtain⟨rs,q,r⟩:=H.KG;obtain⟨c,g⟩:∃c,c=bP e2 k f rs ll:=⟨_,rfl⟩
 rw[<-g]at r;have v:aa B h0 h (lP e s2 e2 k f l2::(As++(an e s 1 bI rs::c))):=r.front;obtain⟨a,l,n⟩:=v.KG;obtain⟨L2,j⟩:∃L2,L2=bP e2 k f a l2:=⟨_,rfl⟩
 rw[<-j]at n;have o:=n.front;rw[qo]at o;have y:=o.front;have p:aa B h0 h (an e s 1 bI rs::(c++(an e s2 1 bI a::(L2++As)))):=by
  have A:(an e s 1 bI rs::c++(an e s2 1 bI a::L2))++As=an e s 1 bI rs::(c++(an e s2 1 bI a::(L2++As))):=by simp
  rw[<-A];exact y
 have F:Seq h (fun b=>b<h.size) s2 1 bI a:=p.seq (c.length+1) (by rw[qz,qj (ql _),zf];rfl) fun _=>rfl;refine p.append D 0 rfl w x rfl (by decide) (fun _=>rfl) F me (by omega) fun d h' m=>z d h' ?_;have m:aa B h0 h' ((an e d 1 bI (rs++a)::c)++(an e s2 1 bI a::(L2++As))):=m;have G:=aa.acf m;refine aa.Rs (rs:=rs++a) (by simp[q,l]) ?_;rw[Uw a l2 q,<-g,<-j];have E:(an e d 1 bI (rs++a)::(c++L2))++As=(an e d 1 bI (rs++a)::c)++(L2++As):=by simp
 rw[E];exact G
end
abbrev gm:=FloatKind.format .f64
theorem Ga{P:Program}{a b c:Nat}(h:gm.add a b=some c):aI P (Op.Complex.arith .add .f64 a b) c:=fun w=>by
 have h':(FloatKind.format .f64).add a b=some c:=h;unfold Op.Complex.arith Op.floatArith;simp only[h'];rfl
theorem Gb{P:Program}{a b c:Nat}(h:gm.sub a b=some c):aI P (Op.Complex.arith .sub .f64 a b) c:=fun w=>by
 have h':(FloatKind.format .f64).sub a b=some c:=h;unfold Op.Complex.arith Op.floatArith;simp only[h'];rfl
theorem Aq{P:Program}{a b c:Nat}(h:gm.mul a b=some c):aI P (Op.Complex.arith .mul .f64 a b) c:=fun w=>by
 have h':(FloatKind.format .f64).mul a b=some c:=h;unfold Op.Complex.arith Op.floatArith;simp only[h'];rfl
theorem Ba{P:Program}{op:BinOp}(h:op=.add∨op=.sub∨op=.mul)(t:TypeId)(x y:Operand)(a b:Value):aI P (eqGuard op t x y a b) ():=fun w=>by
 rcases h with rfl|rfl|rfl<;>rfl
theorem aek{P:Program}{t:TypeId}{x y:Operand}{a b c d e f:Nat}(g:gm.add a c=some e)(h:gm.add b d=some f):jC P .add t x y (.complex .f64 a b) (.complex .f64 c d) (.complex .f64 e f):=
 (Ba (.inl rfl) t x y _ _).bind (show aI P (Op.complexOp .add .f64 a b c d) _ from(Ga g).bind ((Ga h).bind fun _=>rfl))
theorem ael{P:Program}{t:TypeId}{x y:Operand}{a b c d e f:Nat}(g:gm.sub a c=some e)(h:gm.sub b d=some f):jC P .sub t x y (.complex .f64 a b) (.complex .f64 c d) (.complex .f64 e f):=
 (Ba (.inr (.inl rfl)) t x y _ _).bind (show aI P (Op.complexOp .sub .f64 a b c d) _ from(Gb g).bind ((Gb h).bind fun _=>rfl))
theorem aem{P:Program}{t:TypeId}{x y:Operand}{a b c d e f j k h i:Nat}(q:gm.mul a c=some j)(l:gm.mul b d=some k)(h3:gm.sub j k=some e)(m:gm.mul a d=some h)(p:gm.mul b c=some i)(n:gm.add h i=some f):
  jC P .mul t x y (.complex .f64 a b) (.complex .f64 c d) (.complex .f64 e f):=by
 refine(Ba (.inr (.inr rfl)) t x y _ _).bind ?_;have o:aI P (Op.Complex.product a b c d) (e,f):=
  (Aq q).bind ((Aq l).bind ((Gb h3).bind ((Aq m).bind ((Aq p).bind ((Ga n).bind fun _=>rfl)))))
 show aI P (Op.complexOp .mul .f64 a b c d) _;have g:∀x,aI P (Op.Complex.conv .f64 x .f64) x:=fun x w=>by unfold Op.Complex.conv;rw[if_pos rfl];rfl
 unfold Op.complexOp;refine(g a).bind ((g b).bind ((g c).bind ((g d).bind ?_)));refine aI.bind (v:=(e,f)) ?_ ?_
 ·exact o
 ·exact(g e).bind ((g f).bind fun _=>rfl)
end Go.Vc
