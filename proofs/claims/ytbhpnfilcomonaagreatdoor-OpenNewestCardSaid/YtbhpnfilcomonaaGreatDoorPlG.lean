/- Lemmas for the proof of the law; no condition. -/
import Derived.Test.YtbhpnfilcomonaaGreatDoorPlD
set_option linter.unusedVariables false
set_option linter.unusedSimpArgs false
open List renaming ext_getElem -> yr, foldl_append -> wz, foldl_nil -> wD, getD_eq_getElem?_getD -> qf, getElem?_append_left -> ql, getElem?_append_right -> qg, getElem?_eq_getElem -> qd, getElem?_eq_none -> qX, getElem?_map -> qP, getElem?_set -> qW, getElem?_take -> yA, getElem_drop -> wA, getElem_mem -> qn, getElem_of_mem -> qN, length_append -> qw, length_drop -> qV, length_map -> qC, length_range -> zt, length_take -> qR, mem_append -> qH, mem_map -> qE, mem_of_mem_take -> wV, mem_singleton -> qB, range -> qD, replicate -> qh, take_append_drop -> qA, take_of_length_le -> qi, take_succ_eq_append_getElem -> zM, take_zero -> vE
open Go.Builtin renaming clear_ -> vh, zeroCells -> wX
open UInt8 renaming lt_iff_toNat_lt -> zI, xor_zero -> zZ, zero_xor -> wL
open Bool renaming or_eq_true -> zV
open Nat renaming le_refl -> qp, lt_succ_iff_lt_or_eq -> zQ, sub_self -> qZ
open Int renaming toNat_natCast -> qq
namespace Wl
open Go
def iy(o b t:Int):Int:=(128*o+16*b+t)%4294967296
def ff(m:ar)(r:di):Bool:=hF r&&(decide (r.p=m.p)&&m.aH.any fun x=>decide (x.object=r.object)&&(decide (r.block<(x.tries.length:Int))&&decide (r.seed=iy r.object r.block (x.tries.getD r.block.toNat 0))))
def US(a b:di):Bool:=decide (a.object<b.object∨(a.object=b.object/\(a.block<b.block∨(a.block=b.block/\a.id<=b.id))))
def UT(a b:di):Bool:=decide (a.object=b.object/\a.block=b.block/\a.id=b.id)
def Ex:di:=⟨0,0,0,(0,0,0),0,[]⟩
def Ey(l:List di)(k:Nat):Bool:=decide (k=0)||!UT (l.getD k Ex) (l.getD (k-1) Ex)
def Do(l:List di):List di:=((qD l.length).filter (Ey l)).map fun i=>l.getD i Ex
def iR(m:ar)(c:aL):Option di:=match dJ c with|some r=>if ff m r then some r else none|none=>none
def mg(m:ar)(l:bR):List di:=Do ((l.filterMap (iR m)).mergeSort US)
theorem OO(m:ar)(l:bR)(i:Nat)(a:i<l.length):(l.take (i+1)).filterMap (iR m)=(l.take i).filterMap (iR m)++(iR m l[i]).toList:=by
 have:l.take (i+1)=l.take i++[l[i]]:=by rw[List.take_add_one,qd a];rfl
 rw[this,List.filterMap_append];cases hg:iR m l[i]with
 |none=>simp[hg]
 |some r=>simp[hg]
end Wl
namespace Go.Vc
open Go
section
variable {B:ap} {α:Type} {C:Ctx} {h0 h:Heap} {As:List HP} {e t k by_:Nat} {s:Sl} {f:α->aQ} {l:List α} {z:aQ}
theorem vp(z:aQ)(n:Nat):(wX z.toArray n).toList.length=n*z.length:=by
 simp[wX]
theorem IC{z:aQ}(d:∀v∈z,v.oneCell'=true)(n:Nat):∀v∈(wX z.toArray n).toList,v.oneCell'=true:=by
 intro v c;simp only[wX,Array.toList_map,qE,Array.mem_toList_iff,Array.mem_range]at c;obtain⟨i,b,rfl⟩:=c;simp only[List.size_toArray]at b⊢;have h0:0<z.length:=by
  rcases Nat.eq_zero_or_pos z.length with h|h
  ·rw[h]at b;simp at b
  ·exact h
 have a:=Nat.mod_lt i h0;rw[getElem!_pos z.toArray _ (by simpa using a)];exact d _ (by simp)
theorem Own.Ae(w:C.Ok)(i:Own h e s k f l)(y:bN C.tosH t e k z by_)(g:∀x,(f x).length=k)(A:z.length=k)(d:∀v∈z,v.oneCell'=true)(j:Nat)(B:j<=l.length){ty:Nat}{K:Heap->Prop}
  (u:∀h',Own h' e ⟨s.ptr,j,s.cap⟩ k f (l.take j)->aG (fun b=>¬s.on b) h h'->K h'):
  ab C.P (vh #[t] ty #[.slice (if s.cap=j then s.ptr else s.ptr.map (·.add (j*k))) (s.len-j) (s.cap-j)]) h fun _ h'=>K h':=by
 have N:=i.len;have c:=i.cut g j B;unfold vh;refine ab.bind (ab.always (au (y.under w)) ?_);by_cases o:j=l.length
 ·have H:s.len-j=0:=by omega
  rw[H];generalize (if s.cap=j then s.ptr else s.ptr.map (·.add (j*k)))=q;cases q with
  |none=>exact ab.pure' (u h c (aG.refl _ _))
  |some a=>exact ab.pure' (u h c (aG.refl _ _))
 ·rcases i.head with⟨h1,h2,h3⟩|⟨b,rest,h1,h2,h3,h4⟩
  ·subst h3;simp at B o;omega
  ·have p:s.cap≠j:=by omega
   rw[if_neg p,h1];obtain⟨m,M⟩:∃m,s.len-j=m+1:=⟨s.len-j-1,by omega⟩
   rw[M];obtain⟨R,U,Q,O,L,T,J,S⟩:=y.ex;obtain⟨F,I,E⟩:=nw w.toOk L;refine ab.bind (ab.always I ?_);have r:F.cells=z.toArray:=by apply Array.ext';rw[E,J]
   rw[r];refine ab.bind ?_;have G:((⟨b,0,none⟩:Addr).add (j*k))=⟨b,j*k,none⟩:=by simp[add_eq]
   show ab C.P (storeCells ((⟨b,0,none⟩:Addr).add (j*k)) (wX z.toArray (m+1)).toList) h _;rw[G];have n:(l.drop j).length=m+1:=by simp;omega
   refine cL (e:=e) (pre:=(l.take j).flatMap f) (old:=(l.drop j).flatMap f) (post:=rest) ?_ ?_ ?_ (IC d _) ?_
   ·rw[<-List.flatMap_append,qA];exact h2
   ·rw[cw g,n,vp,A]
   ·rw[cw g,qR,Nat.min_eq_left (by omega)];omega
   ·refine ab.pure' (u _ ⟨by simp;omega,.inr ⟨b,(wX z.toArray (m+1)).toList++rest,h1,?_,?_,by dsimp only;omega⟩⟩ ?_)
    ·rw[eF h2,if_pos rfl];simp
    ·rw[qw,vp,A,h3,<-Nat.add_mul];dsimp only;congr 1;omega
    ·exact aG.fc h2 fun D=>D ⟨0,h1⟩
theorem aa.Ae(n:C.Ok)(H:aa B h0 h As)(i:Nat)(m:As[i]?=some (aj e s k f l))(p:bN C.tosH t e k z by_)(o:∀x,(f x).length=k)(u:z.length=k)(a:∀v∈z,v.oneCell'=true)(j:Nat)(w:j<=l.length){ty:Nat}{K:Heap->Prop}
  (r:∀h',aa B h0 h' (As.set i (aj e ⟨s.ptr,j,s.cap⟩ k f (l.take j)))->K h'):
  ab C.P (vh #[t] ty #[.slice (if s.cap=j then s.ptr else s.ptr.map (·.add (j*k))) (s.len-j) (s.cap-j)]) h fun _ h'=>K h':=
 (H.own i m).Ae n p o u a j w fun h' x y=>r h' (H.step i m fun q g _=>⟨y.mono fun b _ c d=>c (g.2 b d),x,fun b c=>⟨x.lt c,.inl (g.2 b c)⟩⟩)
end
end Go.Vc
namespace Wl
open Go
theorem Js:∀x y:aL,(Op.bytesLess x y||x==y)=!Op.bytesLess y x
 |[],[]=>rfl
 |[],_::_=>rfl
 |_::_,[]=>by simp[Op.bytesLess]
 |a::x,b::y=>by
  have f:=Js x y;have e:a<b∨a=b∨b<a:=by
   rcases Nat.lt_trichotomy a.toNat b.toNat with h|h|h
   ·exact .inl (zI.2 h)
   ·exact .inr (.inl (UInt8.toNat_inj.1 h))
   ·exact .inr (.inr (zI.2 h))
  rcases e with h|rfl|h
  ·have c:¬b<a:=fun h'=>by have:=zI.1 h;have:=zI.1 h';omega
   have d:b≠a:=fun h'=>by subst h';exact c h
   simp[Op.bytesLess,h,c,d]
  ·have c:¬a<a:=fun h'=>by have:=zI.1 h';omega
   simp only[Op.bytesLess,c,decide_false,Bool.false_or,beq_self_eq_true,Bool.true_and];rw[<-f];congr 1;simp
  ·have c:¬a<b:=fun h'=>by have:=zI.1 h;have:=zI.1 h';omega
   have d:a≠b:=fun h'=>by subst h';exact c h
   simp[Op.bytesLess,h,c,d]
theorem BO:∀x y z:aL,Op.bytesLess x y=true->Op.bytesLess y z=true->Op.bytesLess x z=true
 |x,[],_,h1,_=>by cases x<;>simp[Op.bytesLess]at h1
 |_,b::y,[],_,h2=>by simp[Op.bytesLess]at h2
 |[],_::_,_::_,_,_=>rfl
 |a::x,b::y,c::z,h1,h2=>by
  simp only[Op.bytesLess,zV,decide_eq_true_eq,Bool.and_eq_true,beq_iff_eq]at h1 h2⊢;rcases h1 with h1|⟨rfl,h1⟩
  ·rcases h2 with h2|⟨rfl,h2⟩
   ·exact .inl (zI.2 (by have:=zI.1 h1;have:=zI.1 h2;omega))
   ·exact .inl h1
  ·rcases h2 with h2|⟨rfl,h2⟩
   ·exact .inl h2
   ·exact .inr ⟨rfl,BO x y z h1 h2⟩
theorem QR(x:aL):Op.bytesLess x x=false:=by
 have:=Js x x;cases h:Op.bytesLess x x with
 |false=>rfl
 |true=>rw[h]at this;simp at this
def hJ(a b:ByteArray):Bool:=!dz b a
theorem Ez(a b:ByteArray):hJ a b=true↔dz a b=true∨a.toList=b.toList:=by
 unfold hJ dz;rw[<-Js,zV,beq_iff_eq]
theorem Af(a b c:ByteArray)(e:hJ a b=true)(d:hJ b c=true):hJ a c=true:=by
 rw[Ez]at e d⊢;unfold dz at*;rcases e with e|e
 ·rcases d with d|d
  ·exact .inl (BO _ _ _ e d)
  ·rw[<-d];exact .inl e
 ·rw[e];exact d
theorem Ag(a b:ByteArray):(hJ a b||hJ b a)=true:=by
 unfold hJ;cases h:dz b a with
 |false=>rfl
 |true=>
  have:dz a b=false:=by
   cases h2:dz a b with
   |false=>rfl
   |true=>
    have:=BO _ _ _ h h2;rw[QR]at this;cases this
  rw[this];rfl
def oI(a b:cE):Bool:=hJ a.name b.name
def dK(m:ar)(x:cE):ar:={m with seq:=m.seq+1,next:=m.next+1,aH:=(m.aH++[x]).mergeSort oI}
open Classical
theorem jh(a:UInt8):a^^^a=0:=UInt8.xor_self
theorem BP(a b:UInt8):(a^^^b)^^^b=a:=by rw[UInt8.xor_assoc,jh,zZ]
theorem cm{c:UInt8}{a t:Row}(h:a.length=t.length)(j:Nat):aJ (cX c a t) j=aJ t j^^^Gf.mul c (aJ a j):=by
 simp only[aJ,cX,qf,List.getElem?_zipWith];by_cases b:j<a.length
 ·rw[qd b,qd (by omega)];rfl
 ·rw[qX (by omega),qX (by omega)];simp[Gf.mul_zero]
theorem rC(c:UInt8)(a:Row)(j:Nat):aJ (scaleB c a) j=Gf.mul c (aJ a j):=by
 simp only[aJ,scaleB,qf,qP];cases a[j]? with
 |none=>simp[Gf.mul_zero]
 |some x=>rfl
def be(n:Nat):Row:=qh n 0
theorem cH(n j:Nat):aJ (be n) j=0:=by
 simp only[aJ,be,qf,List.getElem?_replicate];split<;>rfl
theorem fK{n:Nat}{a b:Row}(e:a.length=n)(f:b.length=n)(h:∀j,j<n->aJ a j=aJ b j):a=b:=by
 apply yr (by omega);intro j d c;have:=h j (by omega);simpa[aJ,qf,qd d,qd c]using this
inductive Span (n:Nat) (m:aX):Row->Prop
 |zero:Span n m (be n)
 |add (c:UInt8) (r v:Row):r∈m->Span n m v->Span n m (cX c r v)
section
variable {n:Nat} {m m':aX}
theorem Span.len(a:aZ n m){v:Row}(h:Span n m v):v.length=n:=by
 induction h with
 |zero=>simp[be]
 |add c r v hr _ ih=>rw[bO (by rw[a r hr,ih])];exact ih
theorem Span.comb(a:aZ n m){u v:Row}(f:Span n m u)(b:Span n m v)(c:UInt8):Span n m (cX c u v):=by
 induction f with
 |zero=>
  have:cX c (be n) v=v:=fK (n:=n) (by rw[bO (by simp[be,b.len a])];exact b.len a) (b.len a) fun j _=>by
   rw[cm (by simp[be,b.len a]),cH,Gf.mul_zero,zZ]
  rw[this];exact b
 |add d r w hr hw ih=>
  have e:=b.len a;have l2:=hw.len a;have g:=a r hr;have:cX c (cX d r w) v=cX (Gf.mul c d) r (cX c w v):=fK (n:=n) (by rw[bO (by rw[bO];omega)];exact e) (by rw[bO (by rw[bO];omega),bO];exact e) fun j _=>by
   rw[cm (by rw[bO];omega),cm (by omega),cm (by rw[bO];omega),cm (by omega),Gf.ip,Gf.mul_assoc]
   ac_rfl
  rw[this];exact .add _ _ _ hr ih
theorem Span.row(b:aZ n m){r:Row}(a:r∈m):Span n m r:=by
 have:=Span.add 1 r _ a (.zero (n:=n) (m:=m));have e:cX 1 r (be n)=r:=fK (n:=n) (by rw[bO (by simp[be,b r a])];simp[be]) (b r a) fun j _=>by
  rw[cm (by simp[be,b r a]),cH,Gf.one_mul,wL]
 rwa [e]at this
theorem Span.sub(b:aZ n m)(h:∀r∈m',Span n m r){v:Row}(a:Span n m' v):Span n m v:=by
 induction a with
 |zero=>exact .zero
 |add c r v hr _ ih=>exact(h r hr).comb b ih c
theorem Span.mono(h:∀r∈m',r∈m){v:Row}(a:Span n m' v):Span n m v:=by
 induction a with
 |zero=>exact .zero
 |add c r v hr _ ih=>exact .add c r v (h r hr) ih
theorem Span.UU(d:aZ n m)(φ:Row->UInt8)(g:φ (be n)=0)(f:∀c a t,a.length=n->t.length=n->φ (cX c a t)=φ t^^^Gf.mul c (φ a))(e:∀r∈m,φ r=0){v:Row}(b:Span n m v):φ v=0:=by
 induction b with
 |zero=>exact g
 |add c r v hr' b ih=>rw[f c r v (d r hr') (b.len d),ih,e r hr',Gf.mul_zero,zZ]
end
def sk(S:Row->Prop)(j:Nat):Prop:=∃v,S v/\(∀i,i<j->aJ v i=0)/\aJ v j≠0
noncomputable def leads(S:Row->Prop)(n:Nat):Nat:=(qD n).countP fun j=>decide (sk S j)
structure Way (n:Nat) (m:aX) (c top:Nat) (rows:aX):Prop where
 even:aZ n rows
 len:rows.length=m.length
 tle:top<=rows.length
 span:∀v,Span n rows v↔Span n m v
 cnt:top=leads (Span n m) c
 piv:∃p:Nat->Nat,(∀i,i<top->p i<c)/\(∀i,i<top->∀k,k<rows.length->aJ (aC rows k) (p i)=if k=i then 1 else 0)/\(∀i,i<top->∀j,j<p i->aJ (aC rows i) j=0)/\(∀i j,i<j->j<top->p i<p j)
 low:∀k,top<=k->k<rows.length->∀j,j<c->aJ (aC rows k) j=0
theorem mem_row{m:aX}{i:Nat}(h:i<m.length):aC m i∈m:=by rw[bI h];exact qn h
theorem fy{m:aX}{r:Row}(h:r∈m):∃i,i<m.length/\r=aC m i:=by
 obtain⟨i,a,rfl⟩:=qN h;exact⟨i,a,(bI a).symm⟩
theorem Gu{m:aX}{i j:Nat}{r:Row}(a:i<m.length):aC (m.set i r) j=if i=j then r else aC m j:=by
 simp only[aC,qf,qW];by_cases h:i=j
 ·subst h;simp[a]
 ·simp[h]
theorem pC{m:aX}{i j k:Nat}(d:i<m.length)(c:j<m.length):aC (gA m i j) k=if k=j then aC m i else if k=i then aC m j else aC m k:=by
 rw[gA,Gu (by simpa using c),Gu d];by_cases b:j=k
 ·rw[if_pos b,if_pos b.symm]
 ·rw[if_neg b,if_neg (show¬k=j from fun h=>b h.symm)];by_cases a:i=k
  ·rw[if_pos a,if_pos a.symm]
  ·rw[if_neg a,if_neg (show¬k=i from fun h=>a h.symm)]
theorem ut{m:aX}{t c k:Nat}(a:t<m.length):aC (ig t c m) k=if t=k then scaleB (Gf.inv (aJ (aC m t) c)) (aC m t)else aC m k:=by
 rw[ig,Gu a]
section
variable {n:Nat} {m:aX}
theorem QS(l:aZ n m){i j:Nat}(b:i<m.length)(a:j<m.length)(v:Row):Span n (gA m i j) v↔Span n m v:=by
 refine⟨Span.mono fun r d=>?_,Span.mono fun r d=>?_⟩
 ·obtain⟨k,c,rfl⟩:=fy d;rw[jg]at c;rw[pC b a];split
  ·exact mem_row b
  ·split
   ·exact mem_row a
   ·exact mem_row c
 ·obtain⟨k,c,rfl⟩:=fy d;have e:∀x,x<m.length->aC (gA m i j) x∈gA m i j:=fun x h=>mem_row (by rw[jg];exact h);by_cases f:k=i
  ·subst f;have:=e j a;rw[pC b a,if_pos rfl]at this;exact this
  ·by_cases g:k=j
   ·subst g;have:=e i b;rw[pC b a]at this;by_cases h3:i=k
    ·exact absurd h3.symm f
    ·rw[if_neg h3,if_pos rfl]at this;exact this
   ·have:=e k c;rw[pC b a,if_neg g,if_neg f]at this;exact this
theorem QU(h:aZ n m){t c:Nat}(b:t<m.length)(i:aJ (aC m t) c≠0)(v:Row):Span n (ig t c m) v↔Span n m v:=by
 have d:=ry h (c:=c) b;have f:=cj h b;have q:∀(x:UInt8) (r:Row),r.length=n->scaleB x r=cX x r (be n):=fun x r a=>fK (n:=n) (by rw[rx,a]) (by rw[bO (by simp[be,a])];simp[be]) fun j _=>by
  rw[rC,cm (by simp[be,a]),cH,wL]
 refine⟨Span.sub h fun r a=>?_,Span.sub d fun r a=>?_⟩
 ·obtain⟨k,g,rfl⟩:=fy a;rw[lB]at g;rw[ut b];split
  ·rw[q _ _ f];exact .add _ _ _ (mem_row b) .zero
  ·exact Span.row h (mem_row g)
 ·obtain⟨k,g,rfl⟩:=fy a;have e:∀x,x<m.length->Span n (ig t c m) (aC (ig t c m) x):=fun x p=>Span.row d (mem_row (by rw[lB];exact p));by_cases o:t=k
  ·subst o;have:=e t b;rw[ut b,if_pos rfl]at this;have l:=this.comb d .zero (aJ (aC m t) c);have s:cX (aJ (aC m t) c) (scaleB (Gf.inv (aJ (aC m t) c)) (aC m t)) (be n)=aC m t:=fK (n:=n) (by rw[bO (by simp[be,rx,f])];simp[be]) f fun j _=>by
    rw[cm (by simp[be,rx,f]),cH,wL,rC,<-Gf.mul_assoc,Gf.Gt i,Gf.one_mul]
   rw[s]at l;exact l
  ·have:=e k g;rw[ut b,if_neg o]at this;exact this
theorem QV(d:aZ n m){t c:Nat}(g:t<m.length)(v:Row):Span n (dv t c m m.length) v↔Span n m v:=by
 have b:=rz d (c:=c) (k:=m.length) g;have s:=cj d g;refine⟨Span.sub d fun r i=>?_,Span.sub b fun r i=>?_⟩
 ·obtain⟨k,a,rfl⟩:=fy i;rw[lC]at a;rw[ne a];split
  ·exact .add _ _ _ (mem_row g) (Span.row d (mem_row a))
  ·exact Span.row d (mem_row a)
 ·obtain⟨k,a,rfl⟩:=fy i;have e:∀x,x<m.length->Span n (dv t c m m.length) (aC (dv t c m m.length) x):=fun x p=>Span.row b (mem_row (by rw[lC];exact p));have h:=e t g;rw[ne g,if_neg (by simp)]at h;by_cases o:k=t
  ·subst o;exact h
  ·have l:=e k a;rw[ne a,if_pos ⟨a,o⟩]at l;have h3:=h.comb b l (aJ (aC m k) c);have f:=cj d a;have q:cX (aJ (aC m k) c) (aC m t) (cX (aJ (aC m k) c) (aC m t) (aC m k))=aC m k:=fK (n:=n) (by rw[bO (by rw[bO];omega),bO];exact f) f fun j _=>by
    rw[cm (by rw[bO];omega),cm (by omega),BP]
   rw[q]at h3;exact h3
def bC(f g:Nat->UInt8):Nat->UInt8
 |0=>0
 |k+1=>bC f g k^^^Gf.mul (f k) (g k)
theorem fz(f g:Nat->UInt8):∀k,(∀i,i<k->f i=0)->bC f g k=0
 |0,_=>rfl
 |k+1,h=>by rw[bC,fz f g k fun i a=>h i (by omega),h k (by omega),Gf.zero_mul];rfl
theorem Gv(f g:Nat->UInt8)(x:Nat):∀k,x<k->(∀i,i<k->f i=if x=i then 1 else 0)->bC f g k=g x
 |0,hx,_=>by omega
 |k+1,hx,h=>by
  rw[bC];by_cases a:x=k
  ·subst a;rw[fz f g x fun i b=>by rw[h i (by omega),if_neg (by omega)],h x (by omega),if_pos rfl,Gf.one_mul,wL]
  ·rw[Gv f g x k (by omega) fun i b=>h i (by omega),h k (by omega),if_neg a,Gf.zero_mul,zZ]
theorem BQ(b a g:Nat->UInt8)(c:UInt8):∀k,bC (fun i=>b i^^^Gf.mul c (a i)) g k=bC b g k^^^Gf.mul c (bC a g k)
 |0=>by simp[bC,Gf.mul_zero]
 |k+1=>by
  rw[bC,bC,bC,BQ b a g c k,Gf.ip,Gf.NJ,Gf.mul_assoc]
  ac_rfl
theorem EB(S:Row->Prop)(c:Nat):leads S (c+1)=leads S c+if sk S c then 1 else 0:=by
 simp only[leads,List.range_succ,List.countP_append,List.countP_cons,List.countP_nil];by_cases h:sk S c<;>simp[h]
theorem QW(c:aZ n m):Way n m 0 0 m:=⟨c,rfl,by omega,fun _=>Iff.rfl,by simp[leads],⟨fun _=>0,fun i a=>by omega,fun i a=>by omega,fun i a=>by omega,fun i j _ b=>by omega⟩,fun k _ _ j b=>by omega⟩
theorem Tu(hm:aZ n m){c b:Nat}{rows:aX}(w:Way n m c b rows)(hc:c<n):Way n m (c+1) (gB (b,rows) c).1 (gB (b,rows) c).2:=by
 obtain⟨I,X,am,V,M,⟨p,Q,p2,p3,p4⟩,g⟩:=w;have hS:∀v,Span n rows v↔Span n m v:=V;have S:Span n rows=Span n m:=funext fun v=>propext (hS v);unfold gB;dsimp only;cases hb:ge rows b c with
 |none=>
  have ad:=Ms hb;dsimp only;have ay:¬sk (Span n m) c:=by
   rw[<-S];rintro⟨v,hv,hz,ax⟩;apply ax;have hφ:=Span.UU I (fun v=>aJ v c^^^bC (fun i=>aJ v (p i)) (fun i=>aJ (aC rows i) c) b) (by
     simp only[cH];rw[fz _ _ _ fun i _=>rfl];rfl) (fun x a t ha ht=>by
     simp only[cm (show a.length=t.length by omega)];rw[BQ,Gf.ip];ac_rfl) (fun r hr=>by
     obtain⟨k,H,rfl⟩:=fy hr;by_cases P:k<b
     ·rw[Gv _ _ k b P fun i F=>by rw[p2 i F k H]];exact jh _
     ·rw[ad k (by omega) H,fz _ _ _ fun i F=>by rw[p2 i F k H,if_neg (by omega)]];rfl) hv
   rw[fz _ _ _ fun i F=>hz _ (Q i F),zZ]at hφ;exact hφ
  refine⟨I,X,am,V,by rw[EB,if_neg ay,M];rfl,⟨p,fun i F=>by have:=Q i F;omega,p2,p3,p4⟩,fun k E D j f=>?_⟩;rcases zQ.1 f with h|rfl
  ·exact g k E D j h
  ·exact ad k E D
 |some at_=>
  have hh:=nD hb;obtain⟨h1,Y,h3⟩:=hh;dsimp only;have s:b<rows.length:=by omega
  obtain⟨l,A⟩:∃l,l=gA rows b at_:=⟨_,rfl⟩
  have l1:l.length=rows.length:=by rw[A,jg]
  have T:aZ n l:=by rw[A];exact zS I s Y
  have q1:∀k,aC l k=if k=at_ then aC rows b else if k=b then aC rows at_ else aC rows k:=fun k=>by rw[A,pC s Y]
  have W:aC l b=aC rows at_:=by
   rw[q1];by_cases h:b=at_
   ·rw[if_pos h,h]
   ·rw[if_neg h,if_pos rfl]
  have N:aJ (aC l b) c≠0:=by rw[W];exact h3
  obtain⟨u,y⟩:∃u,u=ig b c l:=⟨_,rfl⟩
  have l2:u.length=rows.length:=by rw[y,lB,l1]
  have B:aZ n u:=by rw[y];exact ry T (by omega)
  have q2:∀k,aC u k=if b=k then scaleB (Gf.inv (aJ (aC l b) c)) (aC l b)else aC l k:=fun k=>by rw[y,ut (by omega)]
  have a1:∀j,aJ (aC l b) j=0->aJ (aC u b) j=0:=fun j f=>by rw[q2,if_pos rfl,rC,f,Gf.mul_zero]
  have o:aJ (aC u b) c=1:=by rw[q2,if_pos rfl,rC,Gf.mul_comm,Gf.Gt N]
  obtain⟨K,q⟩:∃K,K=dv b c u rows.length:=⟨_,rfl⟩
  have l3:K.length=rows.length:=by rw[q,lC,l2]
  have q3:∀k,k<rows.length->∀j,aJ (aC K k) j=if k=b then aJ (aC u b) j else aJ (aC l k) j^^^Gf.mul (aJ (aC l k) c) (aJ (aC u b) j):=fun k H j=>by
   rw[q,ne (by omega)];by_cases h:k=b
   ·rw[if_neg (by omega),if_pos h,h]
   ·have e:=q2 k;rw[if_neg (fun hh=>h hh.symm)]at e;rw[if_pos ⟨H,h⟩,if_neg h,cm (by rw[cj B,cj B]),e]
  have Z:∀j,j<c->aJ (aC u b) j=0:=fun j f=>a1 j (by rw[W];exact g at_ h1 Y j f);have keep:∀k,k<rows.length->∀j,j<c->aJ (aC K k) j=if k=b then 0 else aJ (aC l k) j:=fun k H j f=>by
   rw[q3 k H,Z j f,Gf.mul_zero,zZ]
  have L:∀k,k<b->aC l k=aC rows k:=fun k H=>by rw[q1,if_neg (by omega),if_neg (by omega)]
  have J:∀k,b<=k->k<rows.length->∀j,j<c->aJ (aC l k) j=0:=fun k E D j f=>by
   rw[q1];split
   ·exact g b (qp _) s j f
   ·split
    ·exact g at_ h1 Y j f
    ·exact g k E D j f
  have z:∀v,Span n K v↔Span n m v:=fun v=>by
   rw[q,show rows.length=u.length by omega,QV B (by omega),y,QU T (by omega) N,A,QS I s Y,hS]
  have O:sk (Span n m) c:=⟨aC K b,(z _).1 (Span.row (by rw[q];exact rz B (by omega)) (mem_row (by omega))),fun j f=>by rw[keep b s j f,if_pos rfl],by rw[q3 b s,if_pos rfl,o];decide⟩
  have U:dv b c (ig b c (gA rows b at_)) rows.length=K:=by rw[q,y,A]
  rw[U];refine⟨by rw[q];exact rz B (by omega),by omega,by omega,z,by rw[EB,if_pos O,M],⟨fun i=>if i<b then p i else c,fun i F=>?_,fun i F k H=>?_,fun i F j f=>?_,fun i j a0 f=>?_⟩,fun k E D j f=>?_⟩
  ·dsimp only;split
   ·have:=Q i (by assumption);omega
   ·omega
  ·dsimp only;by_cases d:i<b
   ·rw[if_pos d,keep k (by omega) _ (Q i d)];by_cases P:k<b
    ·rw[if_neg (by omega),L k P];exact p2 i d k (by omega)
    ·rw[if_neg (show¬k=i by omega)];split
     ·rfl
     ·exact J k (by omega) (by omega) _ (Q i d)
   ·have R:i=b:=by omega
    subst R;rw[if_neg d,q3 k (by omega)];by_cases G:k=i
    ·rw[if_pos G,if_pos G];exact o
    ·rw[if_neg G,if_neg G,o,Gf.mul_one];exact jh _
  ·dsimp only at f;by_cases d:i<b
   ·rw[if_pos d]at f;have:=Q i d;rw[keep i (by omega) j (by omega),if_neg (by omega),L i d];exact p3 i d j f
   ·have R:i=b:=by omega
    subst R;rw[if_neg d]at f;rw[keep i (by omega) j f,if_pos rfl]
  ·dsimp only;rw[if_pos (show i<b by omega)];split
   ·exact p4 i j a0 (by assumption)
   ·exact Q i (by omega)
  ·rcases zQ.1 f with h|rfl
   ·rw[keep k (by omega) j h,if_neg (by omega)];exact J k (by omega) (by omega) j h
   ·rw[q3 k (by omega),if_neg (by omega),o,Gf.mul_one];exact jh _
theorem BR(a:aZ n m):∀c,c<=n->Way n m c (bz m c).1 (bz m c).2
 |0,_=>QW a
 |c+1,h=>by rw[bz];exact Tu a (BR a c (by omega)) (by omega)
theorem js:∀c,bz [] c=(0,[])
 |0=>rfl
 |c+1=>by rw[bz,js c];rfl
theorem mh(a:aZ n m):cU m=leads (Span n m) n:=by
 rw[<-(BR a n (qp _)).cnt,cU];cases m with
 |nil=>rw[js,js]
 |cons x t=>rw[fx,bI (by simp)];rw[show((x::t)[0]).length=n from a _ (by simp)]
end
section
variable {n:Nat} {m m':aX}
theorem OP{S b:Row->Prop}(h:∀v,S v->b v)(n:Nat):leads S n<=leads b n:=by
 refine List.countP_mono_left fun j _ a=>?_;simp only[decide_eq_true_eq]at a⊢;obtain⟨v,d,c⟩:=a;exact⟨v,h v d,c⟩
theorem Kl(a:aZ n m):cU m<=n:=by
 rw[mh a];have:=List.countP_le_length (p:=fun j=>decide (sk (Span n m) j)) (l:=qD n);simpa[leads]using this
theorem QX(b:aZ n m)(a:aZ n m')(h:∀r∈m,r∈m'):cU m<=cU m':=by
 rw[mh b,mh a];exact OP (fun v=>Span.mono h) n
theorem QY{P Q:Nat->Bool}(l:List Nat)(d:l.Nodup)(f:∀a∈l,P a=true->Q a=true)(e:∀a∈l,∀b∈l,Q a=true->P a=false->Q b=true->P b=false->a=b):l.countP Q<=l.countP P+1:=by
 induction l with
 |nil=>simp
 |cons x t ih=>
  rw[List.nodup_cons]at d;have h:=ih d.2 (fun a c=>f a (by simp[c])) (fun a c b i=>e a (by simp[c]) b (by simp[i]));simp only[List.countP_cons];cases hQ:Q x with
  |false=>
   have:(if P x=true then 1 else 0)>=0:=by omega
   simp;omega
  |true=>
   cases hP:P x with
   |true=>simp;omega
   |false=>
    have:t.countP Q<=t.countP P:=by
     refine List.countP_mono_left fun a c g=>?_;cases hpa:P a with
     |true=>rfl
     |false=>
      have:=e x (by simp) a (by simp[c]) hQ hP g hpa;subst this;exact absurd c d.1
    simp;omega
theorem HB(g:aZ n m){r:Row}(e:r.length=n){v:Row}(o:Span n (m++[r]) v):∃(c:UInt8) (u:Row),Span n m u/\v=cX c r u:=by
 have k:aZ n (m++[r]):=fun x b=>by
  rcases qH.1 b with h|h
  ·exact g x h
  ·rw[qB.1 h];exact e
 induction o with
 |zero=>exact⟨0,be n,.zero,(fK (n:=n) (by rw[bO (by simp[be,e])];simp[be]) (by simp[be]) fun j _=>by rw[cm (by simp[be,e]),cH,Gf.zero_mul];rfl).symm⟩
 |add d x w b hw ih=>
  obtain⟨c,u,i,rfl⟩:=ih;have a:=i.len g;rcases qH.1 b with h|h
  ·have l:=g x h;refine⟨c,cX d x u,.add d x u h i,fK (n:=n) (by rw[bO (by rw[bO];omega),bO];exact a) (by rw[bO (by rw[bO];omega),bO];exact a) fun j _=>?_⟩;rw[cm (by rw[bO];omega),cm (by omega),cm (by rw[bO];omega),cm (by omega)]
   ac_rfl
  ·have f:=qB.1 h;subst f;refine⟨c^^^d,u,i,fK (n:=n) (by rw[bO (by rw[bO];omega),bO];exact a) (by rw[bO];exact a) fun j _=>?_⟩;rw[cm (by rw[bO];omega),cm (by omega),cm (by omega),Gf.NJ]
   ac_rfl
theorem QZ(c:aZ n m){r:Row}(a:r.length=n):aZ n (m++[r]):=fun x b=>by
 rcases qH.1 b with h|h
 ·exact c x h
 ·rw[qB.1 h];exact a
theorem Ra(f:aZ n m){r:Row}(D:r.length=n):cU m<=cU (m++[r])/\cU (m++[r])<=cU m+1:=by
 have p:=QZ f D;refine⟨QX f p fun x t=>by simp[t],?_⟩;rw[mh f,mh p];refine QY _ List.nodup_range (fun a _ J=>?_) (fun a _ b _ A q E k=>?_)
 ·simp only[decide_eq_true_eq]at J⊢;obtain⟨v,I,H⟩:=J;exact⟨v,Span.mono (fun x t=>by simp[t]) I,H⟩
 ·simp only[decide_eq_true_eq,decide_eq_false_iff_not]at A q E k;have l:∀a b,sk (Span n (m++[r])) a->¬sk (Span n m) a->sk (Span n (m++[r])) b->¬sk (Span n m) b->¬a<b:=by
   rintro a b ⟨v,M,O,F⟩ q ⟨w,L,g,o⟩ k B;obtain⟨c,u,K,rfl⟩:=HB f D M;obtain⟨d,s,h,rfl⟩:=HB f D L;have P:=K.len f;have l2:=h.len f;have N:d≠0:=by
    rintro rfl;apply k;refine⟨s,h,fun i G=>?_,?_⟩
    ·have:=g i G;rw[cm (by omega),Gf.zero_mul,zZ]at this;exact this
    ·rw[cm (by omega),Gf.zero_mul,zZ]at o;exact o
   apply q;refine⟨cX (Gf.mul c (Gf.inv d)) s u,h.comb f K _,?_⟩;have e:∀j,aJ (cX (Gf.mul c (Gf.inv d)) s u) j=aJ (cX c r u) j^^^Gf.mul (Gf.mul c (Gf.inv d)) (aJ (cX d r s) j):=fun j=>by
    rw[cm (by omega),cm (by omega),cm (by omega),Gf.ip,<-Gf.mul_assoc (Gf.mul c (Gf.inv d)) d,Gf.mul_assoc c (Gf.inv d) d,Gf.mul_comm (Gf.inv d) d,Gf.Gt N,Gf.mul_one];have:∀x y z:UInt8,x^^^y=x^^^z^^^(y^^^z):=fun x y z=>by
     have:x^^^z^^^(y^^^z)=x^^^y^^^(z^^^z):=by ac_rfl
     rw[this,jh,zZ]
    exact this _ _ _
   refine⟨fun i G=>?_,?_⟩
   ·rw[e,O i G,g i (by omega),Gf.mul_zero];rfl
   ·rw[e,g a B,Gf.mul_zero,zZ];exact F
  have I:=l a b A q E k;have H:=l b a E k A q;omega
theorem pD(m:aX)(h:aZ n m):cU m<=m.length:=by
 have a:∀k,k<=m.length->cU (m.take k)<=k:=by
  intro k
  induction k with
  |zero=>intro _;simp[cU,fx,aC,bz]
  |succ k ih=>
   intro e;have b:aZ n (m.take k):=fun x c=>h x (wV c);have f:=ih (by omega);rw[zM (by omega)];have d:=(Ra b (h _ (qn (show k<m.length by omega)))).2;omega
 have:=a m.length (qp _)
 rwa [qi (qp _)]at this
end
def Jt(p:Int×Int×Int)(seed:Int)(a:aD):Nat:=cU (eI p seed a)
def jt(p:Int×Int×Int)(seed:Int)(a:aD):Bool:=bV p&&((Jt p seed a:Int)==cG p)
def ea(p:Int×Int×Int):aD:=upto (max 0 (min p.1 16)).toNat
theorem Dp{p:Int×Int×Int}(h:bV p=true):cG p=p.1+p.2.1:=by rw[cG,if_pos h]
theorem Ah(p:Int×Int×Int)(seed:Int)(b:aD):aZ (cG p).toNat (eI p seed b):=by
 intro r a;unfold eI at a;split at a
 ·rename_i c;have:=(cb p).1 c;rcases qH.1 a with h|h
  ·obtain⟨x,_,rfl⟩:=qE.1 h;rw[Ke,Dp c];omega
  ·obtain⟨x,_,rfl⟩:=qE.1 h;exact Tr _ _ _
 ·cases a
theorem Tv(p:Int×Int×Int)(seed:Int)(a:aD):(eI p seed a).length<=4+a.length:=by
 unfold eI;split
 ·rename_i b;have:=(cb p).1 b;have c:=List.length_filter_le cg a;simp only[qw,bT,qC,zt];omega
 ·simp
def dG(a b:aX):aX:=List.zipWith (·++·) a b
def iG(n:Nat)(m:aX):aX:=m.map (List.take n)
theorem Dq{r:Row}{n j:Nat}(h:j<n):aJ (r.take n) j=aJ r j:=by
 simp only[aJ,qf,yA];rw[if_pos h]
theorem Km(r:Row)(n j:Nat):aJ (r.drop n) j=aJ r (n+j):=by
 simp only[aJ,qf,List.getElem?_drop]
theorem pc(n:Nat)(m:aX)(i:Nat):aC (iG n m) i=(aC m i).take n:=by
 simp only[aC,iG,qf,qP];cases m[i]? with
 |none=>simp
 |some r=>rfl
theorem Gw(n:Nat)(m:aX):(iG n m).length=m.length:=by simp[iG]
theorem OQ{n a bu:Nat}(m:aX)(h:bu<n):ge (iG n m) a bu=ge m a bu:=by
 unfold ge;rw[Gw];congr 1;funext i;rw[pc,Dq h]
theorem Gx(n:Nat)(m:aX)(i:Nat)(r:Row):iG n (m.set i r)=(iG n m).set i (r.take n):=by simp[iG,List.map_set]
theorem Tw(n:Nat)(m:aX)(i j:Nat):iG n (gA m i j)=gA (iG n m) i j:=by
 rw[gA,Gx,Gx,gA,pc,pc]
theorem Rb(n:Nat)(c:UInt8)(r:Row):(scaleB c r).take n=scaleB c (r.take n):=by simp[scaleB,List.map_take]
theorem VS(n:Nat)(c:UInt8)(a t:Row):(cX c a t).take n=cX c (a.take n) (t.take n):=by simp[cX,List.take_zipWith]
theorem Tx{n bu:Nat}(h:bu<n)(t:Nat)(m:aX):iG n (ig t bu m)=ig t bu (iG n m):=by
 rw[ig,Gx,Rb,ig,pc,Dq h]
theorem Tz{n bu:Nat}(h:bu<n)(t k:Nat)(m:aX):iG n (dv t bu m k)=dv t bu (iG n m) k:=by
 apply List.ext_getElem?;intro i;simp only[iG,dv,qP,List.getElem?_mapIdx];cases m[i]? with
 |none=>rfl
 |some r=>
  simp only[Option.map_some];congr 1;have:=pc n m t;rw[iG]at this;rw[this,Dq h];split
  ·exact VS _ _ _ _
  ·rfl
theorem TA{n bu:Nat}(h:bu<n)(s:Nat×aX):((gB s bu).1,iG n (gB s bu).2)=gB (s.1,iG n s.2) bu:=by
 unfold gB;dsimp only;rw[OQ _ h];cases ge s.2 s.1 bu with
 |none=>rfl
 |some i=>dsimp only;rw[Tz h,Tx h,Tw,Gw]
theorem EC(n:Nat)(m:aX):∀c,c<=n->((bz m c).1,iG n (bz m c).2)=bz (iG n m) c
 |0,_=>rfl
 |c+1,h=>by
  have a:=EC n m c (by omega);rw[bz,bz,TA (show c<n by omega),a]
theorem kB{a b:aX}(h:a.length=b.length):(dG a b).length=a.length:=by simp[dG,h]
theorem BS{a b:aX}(h:a.length=b.length){i:Nat}(c:i<a.length):aC (dG a b) i=aC a i++aC b i:=by
 rw[bI (by rw[kB h];exact c),bI c,bI (by omega)];simp[dG]
theorem lF{n w:Nat}{a b:aX}(h:a.length=b.length)(e:aZ n a)(f:aZ w b):aZ (n+w) (dG a b):=fun r d=>by
 obtain⟨i,c,rfl⟩:=fy d;rw[kB h]at c;rw[BS h c,qw,cj e c,cj f]
theorem VT{n:Nat}{a b:aX}(h:a.length=b.length)(e:aZ n a):iG n (dG a b)=a:=by
 apply yr (by rw[Gw,kB h]);intro i d c;have:=pc n (dG a b) i;rw[bI d,BS h c,List.take_left' (cj e c),bI c]at this;exact this
theorem TB{n:Nat}{a:aX}(b:aZ n a):(bz a n).1=cU a:=by
 rw[cU];cases a with
 |nil=>rw[js,js]
 |cons x t=>rw[fx,bI (by simp)];rw[show((x::t)[0]).length=n from b _ (by simp)]
theorem Kn{n:Nat}{a b:aX}(h:a.length=b.length)(c:aZ n a):(bz (dG a b) n).1=cU a:=by
 have:=congrArg Prod.fst (EC n (dG a b) n (qp _));rw[VT h c]at this;rw[<-TB c];exact this
def nf(w:Nat)(r:Row)(X:aX):Nat->Row
 |0=>be w
 |k+1=>cX (aJ r k) (aC X k) (nf w r X k)
theorem iH{n w:Nat}{X:aX}(a:aZ w X)(c:X.length=n)(r:Row):∀k,k<=n->(nf w r X k).length=w
 |0,_=>by simp[nf,be]
 |k+1,h=>by
  have b:=iH a c r k (by omega);rw[nf,bO (by rw[cj a,b])];exact b
theorem kf{n w:Nat}{X:aX}(a:aZ w X)(b:X.length=n)(r:Row)(j:Nat):∀k,k<=n->aJ (nf w r X k) j=bC (fun i=>aJ r i) (fun i=>aJ (aC X i) j) k
 |0,_=>by rw[nf,cH];rfl
 |k+1,h=>by
  have c:=kf a b r j k (by omega);rw[nf,cm (by rw[cj a,iH a b r k (by omega)]),c];rfl
def kY(n w:Nat)(a b X:aX):Prop:=X.length=n/\aZ w X/\∀i,i<a.length->nf w (aC a i) X n=aC b i
theorem TC{m a:aX}(d:m.length=a.length)(h:∀i,i<m.length->aC m i=aC a i):m=a:=by
 apply yr d;intro i b c;have:=h i b
 rwa [bI b,bI c]at this
def pE(n:Nat)(X:aX)(k:Nat)(v:Row):UInt8:=aJ v (n+k)^^^bC (fun i=>aJ v i) (fun i=>aJ (aC X i) k) n
theorem gE{f f' g a:Nat->UInt8}:∀k,(∀i,i<k->f i=f' i)->(∀i,i<k->g i=a i)->bC f g k=bC f' a k
 |0,_,_=>rfl
 |k+1,h1,h2=>by rw[bC,bC,gE k (fun i b=>h1 i (by omega)) (fun i b=>h2 i (by omega)),h1 k (by omega),h2 k (by omega)]
theorem NN(n:Nat)(X:aX)(k:Nat)(c:UInt8)(a t:Row)(h:a.length=t.length:=by omega):pE n X k (cX c a t)=pE n X k t^^^Gf.mul c (pE n X k a):=by
 unfold pE;rw[cm h];have:bC (fun i=>aJ (cX c a t) i) (fun i=>aJ (aC X i) k) n=bC (fun i=>aJ t i^^^Gf.mul c (aJ a i)) (fun i=>aJ (aC X i) k) n:=gE n (fun i _=>cm h i) fun _ _=>rfl;rw[this,BQ,Gf.ip];ac_rfl
theorem NO{a b:Row}{n:Nat}(c:a.length=n)(k:Nat):aJ (a++b) (n+k)=aJ b k:=by
 simp only[aJ,qf];rw[qg (by omega),c,Nat.add_sub_cancel_left]
theorem Ko{a b:Row}{n j:Nat}(d:a.length=n)(c:j<n):aJ (a++b) j=aJ a j:=by
 simp only[aJ,qf];rw[ql (by omega)]
theorem mi{a b:UInt8}:a^^^b=0↔a=b:=by
 constructor
 ·intro h;have:=congrArg (·^^^b) h;simp only[wL]at this
  rwa [BP]at this
 ·rintro rfl;exact jh _
theorem ED{n w:Nat}{a b X:aX}(h:a.length=b.length)(f:aZ n a)(o:aZ w b)(g:X.length=n)(l:aZ w X):kY n w a b X↔∀k,k<w->∀v,Span (n+w) (dG a b) v->pE n X k v=0:=by
 have e:=lF h f o;constructor
 ·intro x k p v u;refine Span.UU e (pE n X k) ?_ (fun c a t z y=>NN n X k c a t) (fun r q=>?_) u
  ·unfold pE;rw[cH,fz _ _ n fun i _=>cH _ _];rfl
  ·obtain⟨i,d,rfl⟩:=fy q;rw[kB h]at d;rw[BS h d];unfold pE;rw[NO (cj f d),<-x.2.2 i d,kf l g _ k n (qp _),mi];exact gE n (fun j m=>(Ko (cj f d) m).symm) fun _ _=>rfl
 ·intro s;refine⟨g,l,fun i d=>fK (n:=w) (iH l g _ n (qp _)) (cj o) fun k p=>?_⟩;have:=s k p _ (Span.row e (mem_row (show i<(dG a b).length by rw[kB h];exact d)));rw[BS h d]at this;unfold pE at this;rw[NO (cj f d),mi]at this;rw[this,kf l g _ k n (qp _)];exact gE n (fun j m=>(Ko (cj f d) m).symm) fun _ _=>rfl
theorem Xc{n:Nat}{p:Nat->Nat}(d:∀i,i<n->p i<n)(b:∀i j,i<j->j<n->p i<p j):∀i,i<n->p i=i:=by
 have c:∀i,i<n->i<=p i:=by
  intro i
  induction i with
  |zero=>intro _;omega
  |succ i ih=>intro a;have:=ih (by omega);have:=b i (i+1) (by omega) a;omega
 have up:∀k i,i+k+1=n->p i<=i:=by
  intro k
  induction k with
  |zero=>intro i a;have:=d i (by omega);omega
  |succ k ih=>intro i a;have:=ih (i+1) (by omega);have:=b i (i+1) (by omega) (by omega);omega
 intro i a;have:=c i a;have:=up (n-1-i) i (by omega);omega
def ju(n:Nat)(a b:aX):aX:=(((bz (dG a b) n).2).take n).map (List.drop n)
def Ju(n:Nat)(a b:aX):Prop:=∀r∈((bz (dG a b) n).2).drop n,r=be r.length
section
variable {n w:Nat} {a b:aX}
theorem BU(h:a.length=b.length)(f:aZ n a)(i:aZ w b)(j:cU a=n):(ju n a b).length=n/\aZ w (ju n a b):=by
 have c:=lF h f i;have e:=gP c n;have h3:=pD a f;refine⟨by rw[ju,qC,qR,e.2,kB h];omega,fun r d=>?_⟩;obtain⟨x,g,rfl⟩:=qE.1 d;rw[qV,e.1 x (wV g)];omega
theorem NP(h:a.length=b.length)(e:aZ n a)(d:cU a=n){i:Nat}(c:i<n):aC (ju n a b) i=(aC (bz (dG a b) n).2 i).drop n:=by
 simp only[aC,ju,qf,qP,yA];rw[if_pos c]
 cases(bz (dG a b) n).2[i]? with
 |none=>simp
 |some r=>rfl
theorem Kp(h:a.length=b.length)(j:aZ n a)(r:aZ w b)(m:cU a=n):
  (∀v,Span (n+w) (bz (dG a b) n).2 v↔Span (n+w) (dG a b) v)/\(bz (dG a b) n).2.length=a.length/\(∀i,i<n->∀k,k<a.length->aJ (aC (bz (dG a b) n).2 k) i=if k=i then 1 else 0):=by
 have c:=lF h j r;have W:=BR c n (by omega);have o:(bz (dG a b) n).1=n:=by rw[Kn h j,m]
 obtain⟨p,e,f,q,d⟩:=W.piv;rw[o]at e f q d;have hid:=Xc e d;have l:(bz (dG a b) n).2.length=a.length:=by rw[W.len,kB h]
 refine⟨W.span,l,fun i g k s=>?_⟩;have:=f i g k (by omega)
 rwa [hid i g]at this
theorem Kq{X:aX}{r:Row}{i k:Nat}(b:i<n)(c:∀j,j<n->aJ r j=if i=j then 1 else 0):pE n X k r=aJ r (n+k)^^^aJ (aC X i) k:=by
 unfold pE;rw[Gv _ _ i n b fun j a=>c j a]
theorem NQ{X:aX}{r:Row}{k:Nat}(a:∀j,j<n->aJ r j=0):pE n X k r=aJ r (n+k):=by
 unfold pE;rw[fz _ _ n a,zZ]
theorem uu(h:a.length=b.length)(l:aZ n a)(o:aZ w b)(t:cU a=n){X:aX}(g:kY n w a b X):X=ju n a b/\Ju n a b:=by
 have x:=lF h l o;have q:=gP x n;obtain⟨m,D,u⟩:=Kp h l o t;have A:=pD a l;have z:=(ED h l o g.1 g.2.1).1 g;obtain⟨y,s2⟩:=BU h l o t;constructor
 ·refine TC (by rw[g.1,y]) fun i d=>fK (n:=w) (cj g.2.1 d) (cj s2 (by rw[y];rw[g.1]at d;exact d)) fun k B=>?_;rw[g.1]at d;have h3:=z k B _ ((m _).1 (Span.row q.1 (mem_row (show i<(bz (dG a b) n).2.length by omega))));rw[Kq d fun j p=>u j p i (by omega)]at h3;rw[NP h l t d,Km];exact(mi.1 h3).symm
 ·intro r s;obtain⟨i,d,rfl⟩:=qN s;rw[qV]at d;rw[wA];have f:n+i<(bz (dG a b) n).2.length:=by omega
  have e:=bI f;have c:=cj q.1 f;rw[<-e,c];refine fK (n:=n+w) c (by simp[be]) fun j p=>?_;rw[cH];by_cases v:j<n
  ·rw[u j v (n+i) (by omega),if_neg (by omega)]
  ·obtain⟨k,rfl⟩:∃k,j=n+k:=⟨j-n,by omega⟩
   have h3:=z k (by omega) _ ((m _).1 (Span.row q.1 (mem_row f)))
   rwa [NQ fun j p=>by rw[u j p (n+i) (by omega),if_neg (by omega)]]at h3
theorem OR(h:a.length=b.length)(e:aZ n a)(g:aZ w b)(m:cU a=n)(B:Ju n a b):kY n w a b (ju n a b):=by
 have q:=lF h e g;have s:=gP q n;obtain⟨o,E,u⟩:=Kp h e g m;have A:=pD a e;obtain⟨y,s2⟩:=BU h e g m;refine(ED h e g y s2).2 fun k G v z=>?_;refine Span.UU s.1 (pE n (ju n a b) k) ?_ (fun c x t F s=>NN n _ k c x t) (fun r l=>?_) ((o v).2 z)
 ·unfold pE;rw[cH,fz _ _ n fun i _=>cH _ _];rfl
 ·obtain⟨i,D,rfl⟩:=fy l;by_cases f:i<n
  ·rw[Kq f fun j p=>u j p i (by omega),NP h e m f,Km];exact jh _
  ·rw[NQ fun j p=>by rw[u j p i (by omega),if_neg (by omega)]];have:aC (bz (dG a b) n).2 i∈(bz (dG a b) n).2.drop n:=by
    rw[bI D];obtain⟨d,rfl⟩:∃d,i=n+d:=⟨i-n,by omega⟩
    rw[<-wA (h:=by rw[qV];omega)];exact qn _
   rw[B _ this,cH]
theorem Mu(h:a.length=b.length)(f:aZ n a)(g:aZ w b)(i:a.length=n):Ju n a b:=by
 have c:=lF h f g;have e:=gP c n;intro r d;rw[List.drop_of_length_le (by rw[e.2,kB h];omega)]at d;cases d
end
def Kr(l:aD):Prop:=∀a b,a<l.length->b<l.length->iW l a=iW l b->a=b
theorem BV{l:aD}{i:Nat}(h:i<l.length):iW l i=l[i]:=by rw[iW,qf,qd h];rfl
theorem TD{l:aD}{i j k:Nat}(d:i<l.length)(c:j<l.length):iW (nC l i j) k=if k=j then iW l i else if k=i then iW l j else iW l k:=by
 simp only[iW,nC,qf,qW,List.length_set];by_cases a:j=k
 ·subst a;simp[c]
 ·by_cases b:i=k
  ·subst b;simp[a,d];omega
  ·simp[a,b];omega
theorem swap_inj{l:aD}{i j:Nat}(o:i<l.length)(n:j<l.length)(h:Kr l):Kr (nC l i j):=by
 intro a b p m g;rw[Kc]at p m;have d:∀k,k<l.length->∃σ,σ<l.length/\iW (nC l i j) k=iW l σ/\(σ=if k=j then i else if k=i then j else k):=fun k u=>by
  rw[TD o n];by_cases f:k=j
  ·rw[if_pos f,if_pos f];exact⟨i,o,rfl,rfl⟩
  ·rw[if_neg f,if_neg f];by_cases e:k=i
   ·rw[if_pos e,if_pos e];exact⟨j,n,rfl,rfl⟩
   ·rw[if_neg e,if_neg e];exact⟨k,u,rfl,rfl⟩
 obtain⟨s,w,q,v⟩:=d a p;obtain⟨t,r,e2,c⟩:=d b m;rw[q,e2]at g;have:=h s t w r g;subst this;rw[v]at c;split at c<;>split at c<;>(try split at c)<;>(try split at c)<;>omega
theorem Rc{l:aD}(h:Kr l):l.Nodup:=by
 rw[List.nodup_iff_pairwise_ne,List.pairwise_iff_getElem];intro i j b a d c;have:=h i j b a (by rw[BV b,BV a];exact c);omega
theorem TE(n:Nat):Kr (upto n):=by
 intro a b d e c;rw[fw]at d e;rw[BV (by rw[fw];exact d),BV (by rw[fw];exact e)]at c;simp[upto]at c;omega
theorem Ks(n:Nat)(s:Int):∀k,k<=n->n<=64->Kr (fo n s (upto n) k).2
 |0,_,_=>TE n
 |k+1,hk,hn=>by
  have a:=py n s (upto n) k;rw[fw]at a;have:=px (fo n s (upto n) k).1 ((n-k:Nat):Int);exact swap_inj (by omega) (by omega) (Ks n s k (by omega) hn)
theorem OS(s:Int)(n k:Nat)(a:k<=n)(b:n<=64):(BJ s n k).Nodup:=by
 have h:=(Rc (Ks n s k a b)).sublist (List.take_sublist k _);exact(List.mergeSort_perm _ _).nodup_iff.2 h
theorem OT{n:Nat}(b:1<=n)(a:n<=20)(seed id:Int):(eO n seed id).Nodup:=OS _ _ _ (pz _ n b a) (by omega)
theorem NR{r:Row}{i j:Nat}{x:UInt8}(a:i<r.length):aJ (r.set i x) j=if j=i then x else aJ r j:=by
 simp only[aJ,qf,qW];by_cases h:i=j
 ·subst h;simp[a]
 ·simp[h];intro e;exact absurd e.symm h
theorem HC(n:Nat)(l:aD)(c:Int):fl n (l++[c])=(fl n l).set c.toNat 1:=by rw[fl,wz];rfl
theorem uv{n:Nat}:∀(l:aD) (_:∀x∈l,0<=x/\x<(n:Int)) (j:Nat),aJ (fl n l) j=if(j:Int)∈l then 1 else 0:=by
 intro l;have d:∀k,k<=l.length->(∀x∈l,0<=x/\x<(n:Int))->∀j:Nat,aJ (fl n (l.take k)) j=if(j:Int)∈l.take k then 1 else 0:=by
  intro k
  induction k with
  |zero=>intro _ _ j;simp[fl];exact cH n j
  |succ k ih=>
   intro f b j;have g:=b _ (qn (show k<l.length by omega));rw[zM (by omega),HC,NR (by rw[na];omega),ih (by omega) b];have a:(j:Int)∈l.take k++[l[k]]↔(j:Int)∈l.take k∨(j:Int)=l[k]:=by rw[qH,qB]
   by_cases h:j=l[k].toNat
   ·rw[if_pos h,if_pos (a.2 (.inr (by omega)))]
   ·rw[if_neg h];by_cases c:(j:Int)∈l.take k
    ·rw[if_pos c,if_pos (a.2 (.inl c))]
    ·rw[if_neg c,if_neg (fun e=>(a.1 e).elim c fun h3=>h (by omega))]
 intro b j;have:=d l.length (qp _) b j
 rwa [qi (qp _)]at this
theorem Dr{f f' g:Nat->UInt8}{c:Nat}(d:f c=0)(b:∀i,f' i=if i=c then 1 else f i):∀k,bC f' g k=bC f g k^^^if c<k then g c else 0
 |0=>by simp[bC]
 |k+1=>by
  rw[bC,bC,Dr d b k,b k];by_cases a:k=c
  ·subst a;rw[if_pos rfl,if_neg (by omega),if_pos (by omega),Gf.one_mul,d,Gf.zero_mul]
  ·rw[if_neg a];by_cases h:c<k
   ·rw[if_pos h,if_pos (by omega)];ac_rfl
   ·rw[if_neg h,if_neg (by omega)];simp
def fA(w:Nat)(X:aX)(l:aD):Row:=l.foldl (fun s c=>cX 1 (aC X c.toNat) s) (be w)
theorem Ds(w:Nat)(X:aX)(l:aD)(c:Int):fA w X (l++[c])=cX 1 (aC X c.toNat) (fA w X l):=by rw[fA,wz];rfl
theorem pF{n w:Nat}{X:aX}(b:aZ w X)(e:X.length=n){l:aD}(a:∀x∈l,0<=x/\x<(n:Int)):∀k,k<=l.length->(fA w X (l.take k)).length=w:=by
 intro k
 induction k with
 |zero=>intro _;simp[fA,be]
 |succ k ih=>
  intro c;have d:=a _ (qn (show k<l.length by omega));rw[zM (by omega),Ds,bO (by rw[cj b,ih (by omega)])];exact ih (by omega)
theorem VU{n w:Nat}{X:aX}(b:aZ w X)(c:X.length=n){l:aD}(a:∀x∈l,0<=x/\x<(n:Int)):(fA w X l).length=w:=by
 have:=pF b c a l.length (qp _)
 rwa [qi (qp _)]at this
theorem VV{n w:Nat}{X:aX}(a:aZ w X)(b:X.length=n){l:aD}(d:∀x∈l,0<=x/\x<(n:Int))(p:l.Nodup):fA w X l=nf w (fl n l) X n:=by
 have h:∀k,k<=l.length->fA w X (l.take k)=nf w (fl n (l.take k)) X n:=by
  intro k
  induction k with
  |zero=>
   intro _;refine fK (n:=w) (by simp[fA,be]) (iH a b _ n (qp _)) fun j _=>?_;rw[kf a b _ j n (qp _),fz _ _ n fun i _=>by simp only[vE,fl,wD];exact cH n i];simp only[vE,fA,wD];exact cH w j
  |succ k ih=>
   intro r;have o:=d _ (qn (show k<l.length by omega));have q:=pF a b d k (by omega);rw[zM (by omega),Ds,HC,ih (by omega)];refine fK (n:=w) ?_ (iH a b _ n (qp _)) fun j _=>?_
   ·rw[bO (by rw[cj a,iH a b _ n (qp _)])];exact iH a b _ n (qp _)
   ·rw[cm (by rw[cj a,iH a b _ n (qp _)]),kf a b _ j n (qp _),kf a b _ j n (qp _)];have g:l[k]∉l.take k:=fun m=>by
     have e:l=l.take k++l[k]::l.drop (k+1):=by rw[<-List.drop_eq_getElem_cons (by omega),qA]
     rw[e,List.nodup_append]at p;exact p.2.2 _ m _ List.mem_cons_self rfl
    have h0:aJ (fl n (l.take k)) l[k].toNat=0:=by
     rw[uv _ (fun x o=>d x (wV o)),if_neg];intro m;apply g;have:((l[k].toNat:Nat):Int)=l[k]:=by omega
     rwa [this]at m
    rw[Dr (f:=fun i=>aJ (fl n (l.take k)) i) (c:=l[k].toNat) h0 (fun i=>NR (by rw[na];omega)) n,if_pos (by omega),Gf.one_mul]
 have:=h l.length (qp _)
 rwa [qi (qp _)]at this
open Go Go.Vc
def hO(K H w:Nat)(d:Row):aX:=qh H (be w)++(qD K).map (xZ d w)
def dP(p:Int×Int×Int)(seed:Int)(d:Row):aX:=ju (cG p).toNat (eI p seed (ea p)) (hO p.1.toNat p.2.1.toNat p.2.2.toNat d)
structure bE (p:Int×Int×Int) (seed:Int) (d:Row) (K H w n:Nat):Prop where
 may:bV p=true
 full:jt p seed (ea p)=true
 k:p.1=K
 h:p.2.1=H
 s:p.2.2=w
 n:n=K+H
 k1:1<=K
 k2:K<=16
 h1:1<=H
 h2:H<=4
 w1:1<=w
 w2:w<=24
 len:d.length=K*w
theorem UV{p:Int×Int×Int}{seed:Int}{d:Row}(b:bV p=true)(e:jt p seed (ea p)=true)(a:(d.length:Int)=p.1*p.2.2):∃K H w n,bE p seed d K H w n:=by
 have:=(cb p).1 b;refine⟨p.1.toNat,p.2.1.toNat,p.2.2.toNat,p.1.toNat+p.2.1.toNat,b,e,by omega,by omega,by omega,rfl,by omega,by omega,by omega,by omega,by omega,by omega,?_⟩;have c:p.1=(p.1.toNat:Int):=by omega
 have e2:p.2.2=(p.2.2.toNat:Int):=by omega
 rw[c,e2,<-Int.natCast_mul]at a;exact Int.ofNat.inj a
section
variable {p:Int×Int×Int} {seed:Int} {d:Row} {K H w n:Nat}
theorem bE.fp(B:bE p seed d K H w n):cG p=n:=by rw[Dp B.may,B.k,B.h,B.n];rfl
theorem bE.mj(B:bE p seed d K H w n):(cG p).toNat=n:=by rw[B.fp];rfl
theorem OU(a:p.1=(K:Int))(h:K<=16):ea p=upto K:=by
 rw[ea];congr 1;omega
theorem Mv(h:K<=16):(upto K).filter cg=upto K:=by
 rw[List.filter_eq_self];intro x b;simp[upto]at b;obtain⟨a,c,rfl⟩:=b;simp[cg];omega
theorem bE.JU(B:bE p seed d K H w n):eI p seed (ea p)=bT K H++(qD K).map fun i:Nat=>nc n seed (i:Int):=by
 rw[eI,if_pos B.may,OU B.k B.k2,Mv B.k2,B.k,B.h,B.mj,qq,qq,upto,List.map_map];rfl
theorem bE.Ai(B:bE p seed d K H w n):(eI p seed (ea p)).length=n:=by
 rw[B.JU,qw,qC,zt,bT,qC,zt,B.n];omega
theorem bE.BW(B:bE p seed d K H w n):aZ n (eI p seed (ea p)):=by
 have:=Ah p seed (ea p)
 rwa [B.mj]at this
theorem bE.OV(B:bE p seed d K H w n):cU (eI p seed (ea p))=n:=by
 have h:=B.full;rw[jt,B.may,B.fp,Jt]at h;simp at h;exact Int.ofNat.inj h
theorem Aj(K H w:Nat)(d:Row):(hO K H w d).length=K+H:=by simp[hO];omega
theorem oJ(c:d.length=K*w):aZ w (hO K H w d):=fun r b=>by
 rcases qH.1 b with h|h
 ·rw[(List.mem_replicate.1 h).2];simp[be]
 ·obtain⟨i,a,rfl⟩:=qE.1 h;rw[List.mem_range]at a;exact VM (by rw[c];exact Nat.mul_le_mul_right w a)
theorem Re{i:Nat}(a:i<H):aC (hO K H w d) i=be w:=by
 rw[aC,hO,qf,ql (by simpa using a)];simp[a]
theorem OW{i:Nat}(a:i<K):aC (hO K H w d) (H+i)=xZ d w i:=by
 rw[aC,hO,qf,qg (by simp)];simp[a]
theorem bE.vw(B:bE p seed d K H w n):dP p seed d=ju n (eI p seed (ea p)) (hO K H w d):=by
 rw[dP,B.mj,B.k,B.h,B.s];rfl
theorem bE.lens(B:bE p seed d K H w n):(eI p seed (ea p)).length=(hO K H w d).length:=by rw[B.Ai,Aj,B.n]
theorem bE.nQ(B:bE p seed d K H w n):(dP p seed d).length=n/\aZ w (dP p seed d):=by
 rw[B.vw];exact BU B.lens B.BW (oJ B.len) B.OV
theorem bE.kY(B:bE p seed d K H w n):kY n w (eI p seed (ea p)) (hO K H w d) (dP p seed d):=by
 rw[B.vw];exact OR B.lens B.BW (oJ B.len) B.OV (Mu B.lens B.BW (oJ B.len) B.Ai)
theorem bE.Xd(B:bE p seed d K H w n){i:Nat}(a:i<H):aC (eI p seed (ea p)) i=jq K H i:=by
 rw[B.JU,aC,qf,ql (by simpa[bT]using a)];simp[bT,a]
theorem bE.VW(B:bE p seed d K H w n){i:Nat}(a:i<K):aC (eI p seed (ea p)) (H+i)=nc n seed (i:Int):=by
 rw[B.JU,aC,qf,qg (by simp[bT])];simp[bT,a]
theorem bE.low(B:bE p seed d K H w n){i:Nat}(a:i<H):nf w (jq K H i) (dP p seed d) n=be w:=by
 have:=B.kY.2.2 i (by rw[B.Ai,B.n];omega)
 rwa [B.Xd a,Re a]at this
theorem bE.high(B:bE p seed d K H w n){i:Nat}(a:i<K):nf w (nc n seed (i:Int)) (dP p seed d) n=xZ d w i:=by
 have:=B.kY.2.2 (H+i) (by rw[B.Ai,B.n];omega)
 rwa [B.VW a,OW a]at this
theorem bE.n1(B:bE p seed d K H w n):1<=n:=by have:=B.n;have:=B.k1;omega
theorem bE.n2(B:bE p seed d K H w n):n<=20:=by have:=B.n;have:=B.k2;have:=B.h2;omega
theorem bE.sym(B:bE p seed d K H w n)(id:Int):fA w (dP p seed d) (eO n seed id)=nf w (nc n seed id) (dP p seed d) n:=
 VV B.nQ.2 B.nQ.1 (fun _ a=>rv B.n1 B.n2 a) (OT B.n1 B.n2 seed id)
theorem bE.TF(B:bE p seed d K H w n){i:Nat}(a:i<K):fA w (dP p seed d) (eO n seed (i:Int))=xZ d w i:=by rw[B.sym,B.high a]
theorem bE.Rf(B:bE p seed d K H w n)(id:Int):(fA w (dP p seed d) (eO n seed id)).length=w:=
 VU B.nQ.2 B.nQ.1 fun _ a=>rv B.n1 B.n2 a
end
end Wl
namespace Go.Vc
open Go
theorem Mw{α:Type}{c k:Nat}{f:α->aQ}:∀{rs:List Sl} {ll:List (List α)} (a:List Sl) (b:List (List α)),rs.length=ll.length->bx c k f (rs++a) (ll++b)=bx c k f rs ll++bx c k f a b:=by
 intro rs ll a b h;unfold bx;exact List.zipWith_append h
theorem aa.TG{B:ap}{a h:Heap}{X:HP}:∀{L M:List HP},aa B a h (L++X::M)->aa B a h (L++M):=fun{L M} H=>by
 have:=H.del L.length
 rwa [List.eraseIdx_append_of_length_le (qp _),qZ,List.eraseIdx_cons_zero]at this
section
variable {α:Type} {C:Ctx} {B:ap} {h0 h h':Heap} {As:List HP} {e e2 k t t2 by_:Nat} {s s2:Sl} {f:α->aQ} {ll l2:List (List α)}
theorem aa.VX(x:C.Ok)(H:aa B h0 h (iw e s e2 k f ll::iw e s2 e2 k f l2::As))(D:bN C.tosH t e 1 [.slice none 0 0] 24)(y:∃i e2,C.T.get t2=some i/\i.cr=.slice e2)(I:ll.length+l2.length<=2^32){ty:Nat}{K:Sl->Heap->Prop}
  (F:∀g h',aa B h0 h' (iw e g e2 k f (ll++l2)::As)->K g h'):
  av C.P (Builtin.append_ #[t,t2] ty #[.slice s.ptr s.len s.cap,.slice s2.ptr s2.len s2.cap]) (.one (.sc .slc)) h K:=by
 obtain⟨rs,o,u⟩:=H.ul;obtain⟨c,j⟩:∃c,c=bx e2 k f rs ll:=⟨_,rfl⟩
 rw[<-j]at u;have G:aa B h0 h (iw e s2 e2 k f l2::(As++(aj e s 1 cF rs::c))):=u.front;obtain⟨a,n,p⟩:=G.ul;obtain⟨d,l⟩:∃d,d=bx e2 k f a l2:=⟨_,rfl⟩
 rw[<-l]at p;have q:=p.front;rw[List.append_assoc]at q;have v:=q.front;have r:aa B h0 h (aj e s 1 cF rs::(c++(aj e s2 1 cF a::(d++As)))):=by
  have A:(aj e s 1 cF rs::c++(aj e s2 1 cF a::d))++As=aj e s 1 cF rs::(c++(aj e s2 1 cF a::(d++As))):=by simp
  rw[<-A];exact v
 have E:Seq h (fun b=>b<h.size) s2 1 cF a:=r.seq (c.length+1) (by rw[List.getElem?_cons_succ,qg (qp _),qZ];rfl) fun _=>rfl;refine r.append x 0 rfl D y rfl (by decide) (fun _=>rfl) E pm (by omega) fun g h' m=>F g h' ?_;have m:aa B h0 h' ((aj e g 1 cF (rs++a)::c)++(aj e s2 1 cF a::(d++As))):=m;have w:=aa.TG m;refine aa.Eo (rs:=rs++a) (by simp[o,n]) ?_;rw[Mw a l2 o,<-j,<-l];have z:(aj e g 1 cF (rs++a)::(c++d))++As=(aj e g 1 cF (rs++a)::c)++(d++As):=by simp
 rw[z];exact w
end
abbrev fB:=FloatKind.format .f64
theorem Ak{P:Program}{a b c:Nat}(h:fB.add a b=some c):aA P (Op.Complex.arith .add .f64 a b) c:=fun w=>by
 have h':(FloatKind.format .f64).add a b=some c:=h;unfold Op.Complex.arith Op.floatArith;simp only[h'];rfl
theorem Al{P:Program}{a b c:Nat}(h:fB.sub a b=some c):aA P (Op.Complex.arith .sub .f64 a b) c:=fun w=>by
 have h':(FloatKind.format .f64).sub a b=some c:=h;unfold Op.Complex.arith Op.floatArith;simp only[h'];rfl
theorem rD{P:Program}{a b c:Nat}(h:fB.mul a b=some c):aA P (Op.Complex.arith .mul .f64 a b) c:=fun w=>by
 have h':(FloatKind.format .f64).mul a b=some c:=h;unfold Op.Complex.arith Op.floatArith;simp only[h'];rfl
theorem sl{P:Program}{c:BinOp}(h:c=.add∨c=.sub∨c=.mul)(t:TypeId)(x y:Operand)(a b:Value):aA P (eqGuard c t x y a b) ():=fun w=>by
 rcases h with rfl|rfl|rfl<;>rfl
theorem VY{P:Program}{t:TypeId}{x y:Operand}{a b c d e f:Nat}(h:fB.add a c=some e)(g:fB.add b d=some f):fR P .add t x y (.complex .f64 a b) (.complex .f64 c d) (.complex .f64 e f):=
 (sl (.inl rfl) t x y _ _).bind (show aA P (Op.complexOp .add .f64 a b c d) _ from(Ak h).bind ((Ak g).bind fun _=>rfl))
theorem VZ{P:Program}{t:TypeId}{x y:Operand}{a b c d e f:Nat}(h:fB.sub a c=some e)(g:fB.sub b d=some f):fR P .sub t x y (.complex .f64 a b) (.complex .f64 c d) (.complex .f64 e f):=
 (sl (.inr (.inl rfl)) t x y _ _).bind (show aA P (Op.complexOp .sub .f64 a b c d) _ from(Al h).bind ((Al g).bind fun _=>rfl))
theorem Wa{P:Program}{t:TypeId}{x y:Operand}{a b c d e f k i j h:Nat}(o:fB.mul a c=some k)(m:fB.mul b d=some i)(h3:fB.sub k i=some e)(p:fB.mul a d=some j)(q:fB.mul b c=some h)(l:fB.add j h=some f):
  fR P .mul t x y (.complex .f64 a b) (.complex .f64 c d) (.complex .f64 e f):=by
 refine(sl (.inr (.inr rfl)) t x y _ _).bind ?_;have n:aA P (Op.Complex.product a b c d) (e,f):=
  (rD o).bind ((rD m).bind ((Al h3).bind ((rD p).bind ((rD q).bind ((Ak l).bind fun _=>rfl)))))
 show aA P (Op.complexOp .mul .f64 a b c d) _;have g:∀x,aA P (Op.Complex.conv .f64 x .f64) x:=fun x w=>by unfold Op.Complex.conv;rw[if_pos rfl];rfl
 unfold Op.complexOp;refine(g a).bind ((g b).bind ((g c).bind ((g d).bind ?_)));refine aA.bind (v:=(e,f)) ?_ ?_
 ·exact n
 ·exact(g e).bind ((g f).bind fun _=>rfl)
end Go.Vc
