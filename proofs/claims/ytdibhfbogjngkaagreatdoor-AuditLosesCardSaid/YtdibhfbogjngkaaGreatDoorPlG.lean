/- Lemmas for the proof of the law; no condition. -/
import Derived.Test.YtdibhfbogjngkaaGreatDoorPlD
set_option linter.unusedVariables false
set_option linter.unusedSimpArgs false
open Bool renaming true -> eL
open List renaming length -> ii
open List renaming ext_getElem -> wx, foldl_append -> zN, foldl_nil -> wE, getD_eq_getElem?_getD -> qe, getElem?_append_left -> qm, getElem?_append_right -> qj, getElem?_eq_getElem -> qd, getElem?_eq_none -> qZ, getElem?_map -> qR, getElem?_set -> qY, getElem?_take -> yL, getElem_drop -> wA, getElem_mem -> qg, getElem_of_mem -> qH, length_append -> qx, length_drop -> za, length_map -> qy, length_range -> zA, length_take -> qU, mem_append -> qz, mem_map -> qw, mem_of_mem_take -> zD, mem_singleton -> qC, range -> qE, replicate -> qh, take_append_drop -> qA, take_of_length_le -> qi, take_succ_eq_append_getElem -> zI, take_zero -> vQ
open Go.Builtin renaming clear_ -> yy, zeroCells -> yz
open UInt8 renaming lt_iff_toNat_lt -> zZ, xor_zero -> zX, zero_xor -> wF
open Bool renaming or_eq_true -> wV
open Nat renaming le_refl -> qn, lt_succ_iff_lt_or_eq -> zn, sub_self -> zc
open Int renaming toNat_natCast -> ql
namespace Wl
open Go
def cF(o b t:Int):Int:=(128*o+16*b+t)%4294967296
def dT(m:aI)(r:dD):Bool:=jc r&&(decide (r.p=m.p)&&m.aG.any λx=>decide (x.object=r.object)&&(decide (r.block<(x.tries.length:Int))&&decide (r.seed=cF r.object r.block (x.tries.getD r.block.toNat 0))))
def leC(a b:dD):Bool:=decide (a.object<b.object∨(a.object=b.object/\(a.block<b.block∨(a.block=b.block/\a.id<=b.id))))
def Ed(a b:dD):Bool:=decide (a.object=b.object/\a.block=b.block/\a.id=b.id)
def LN:dD:=⟨0,0,0,(0,0,0),0,[]⟩
def uG(l:List dD)(k:Nat):Bool:=decide (k=0)||!Ed (l.getD k LN) (l.getD (k-1) LN)
def Ad(l:List dD):List dD:=((qE l.length).filter (uG l)).map λi=>l.getD i LN
def jN(m:aI)(c:bc):Option dD:=match dL c with|some r=>if dT m r then some r else none|none=>none
def kS(m:aI)(l:cP):List dD:=Ad ((l.filterMap (jN m)).mergeSort leC)
theorem XU(m:aI)(l:cP)(i:Nat)(a:i<ii l):(l.take (i+1)).filterMap (jN m)=(l.take i).filterMap (jN m)++(jN m l[i]).toList:=by
 have:l.take (i+1)=l.take i++[l[i]]:=by rw[List.take_add_one,qd a];rfl
 rw[this,List.filterMap_append];cases hg:jN m l[i]with
 |none=>simp[hg]
 |some r=>simp[hg]
end Wl
namespace Go.Vc
open Go
section
variable {B:aB} {α:Type} {C:Ctx} {h0 h:Heap} {As:List HP} {e t k by_:Nat} {s:Sl} {f:α->be} {l:List α} {z:be}
theorem Ff(z:be)(n:Nat):(yz z.toArray n).toList.length=n*ii z:=by simp[yz]
theorem QM{z:be}(d:∀v∈z,v.oneCell'=eL)(n:Nat):∀v∈(yz z.toArray n).toList,v.oneCell'=eL:=by
 intro v c;simp only[yz,Array.toList_map,qw,Array.mem_toList_iff,Array.mem_range]at c;obtain⟨i,a,rfl⟩:=c;simp only[List.size_toArray]at a⊢;have h0:0<ii z:=by
  rcases Nat.eq_zero_or_pos z.length with h|h
  ·rw[h]at a;simp at a
  ·exact h
 have b:=Nat.mod_lt i h0;rw[getElem!_pos z.toArray _ k7];exact d _ i9
theorem Own.oR(A:C.Ok)(n:Own h e s k f l)(B:bL C.toCM t e k z by_)(i:∀x,ii (f x)=k)(w:ii z=k)(d:∀v∈z,v.oneCell'=eL)(j:Nat)(y:j<=ii l){ty:Nat}{K:Heap->Prop}
  (o:∀h',Own h' e ⟨s.ptr,j,s.cap⟩ k f (l.take j)->aV (λb=>¬s.on b) h h'->K h'):
  ag C.P (yy #[t] ty #[.slice (if s.cap=j then s.ptr else s.ptr.map (·.add (j*k))) (s.len-j) (s.cap-j)]) h λ_ h'=>K h':=by
 have O:=n.len;have c:=n.cut i j y;unfold yy;refine ag.bind (ag.always (aJ (B.under A)) ?_);by_cases r:j=ii l
 ·have M:s.len-j=0:=i4
  rw[M];generalize (if s.cap=j then s.ptr else s.ptr.map (·.add (j*k)))=q;cases q with
  |none=>exact ag.pure' (o h c (aV.refl _ _))
  |some a=>exact ag.pure' (o h c (aV.refl _ _))
 ·rcases n.head with⟨h1,h2,h3⟩|⟨b,rest,h1,h2,h3,h4⟩
  ·subst h3;simp at y r;omega
  ·have g:s.cap≠j:=i4
   rw[g0 g,h1];obtain⟨m,D⟩:∃m,s.len-j=m+1:=⟨s.len-j-1,i4⟩
   rw[D];obtain⟨S,R,T,U,G,N,E,Q⟩:=B.ex;obtain⟨I,L,J⟩:=sC A.toOk G;refine ag.bind (ag.always L ?_);have p:I.cells=z.toArray:=by apply Array.ext';rw[J,E]
   rw[p];refine ag.bind ?_;have F:((⟨b,0,none⟩:Addr).add (j*k))=⟨b,j*k,none⟩:=by simp[add_eq]
   show ag C.P (storeCells ((⟨b,0,none⟩:Addr).add (j*k)) (yz z.toArray (m+1)).toList) h _;rw[F];have u:ii (l.drop j)=m+1:=i7
   refine dp (e:=e) (pre:=(l.take j).flatMap f) (old:=(l.drop j).flatMap f) (post:=rest) ?_ ?_ ?_ (QM d _) ?_
   ·rw[<-List.flatMap_append,qA];exact h2
   ·rw[cQ i,u,Ff,w]
   ·rw[cQ i,qU,Nat.min_eq_left i4];omega
   ·refine ag.pure' (o _ ⟨i7,.inr ⟨b,(yz z.toArray (m+1)).toList++rest,h1,?_,?_,i6⟩⟩ ?_)
    ·rw[fW h2,f9 rfl];simp
    ·rw[qx,Ff,w,h3,<-Nat.add_mul];dsimp only;congr 1;omega
    ·exact aV.gC h2 λH=>H ⟨0,h1⟩
theorem aa.oR(r:C.Ok)(H:aa B h0 h As)(i:Nat)(m:As[i]?=some (aq e s k f l))(u:bL C.toCM t e k z by_)(n:∀x,ii (f x)=k)(o:ii z=k)(a:∀v∈z,v.oneCell'=eL)(j:Nat)(p:j<=ii l){ty:Nat}{K:Heap->Prop}
  (w:∀h',aa B h0 h' (As.set i (aq e ⟨s.ptr,j,s.cap⟩ k f (l.take j)))->K h'):
  ag C.P (yy #[t] ty #[.slice (if s.cap=j then s.ptr else s.ptr.map (·.add (j*k))) (s.len-j) (s.cap-j)]) h λ_ h'=>K h':=
 (H.own i m).oR r u n o a j p λh' x y=>w h' (H.step i m λq g _=>⟨y.mono λb _ c d=>c (g.2 b d),x,λb c=>⟨x.lt c,.inl (g.2 b c)⟩⟩)
end
end Go.Vc
namespace Wl
open Go
theorem RL:∀x y:bc,(Op.bytesLess x y||x==y)=!Op.bytesLess y x
 |[],[]=>rfl
 |[],_::_=>rfl
 |_::_,[]=>by simp[Op.bytesLess]
 |a::x,b::y=>by
  have f:=RL x y;have e:a<b∨a=b∨b<a:=by
   rcases Nat.lt_trichotomy a.toNat b.toNat with h|h|h
   ·exact .inl (zZ.2 h)
   ·exact .inr (.inl (UInt8.toNat_inj.1 h))
   ·exact .inr (.inr (zZ.2 h))
  rcases e with h|rfl|h
  ·have c:¬b<a:=λh'=>by have:=zZ.1 h;have:=zZ.1 h';omega
   have d:b≠a:=λh'=>by subst h';exact c h
   simp[Op.bytesLess,h,c,d]
  ·have c:¬a<a:=λh'=>by have:=zZ.1 h';omega
   simp only[Op.bytesLess,c,decide_false,Bool.false_or,beq_self_eq_true,Bool.true_and];rw[<-f];congr 1;simp
  ·have c:¬a<b:=λh'=>by have:=zZ.1 h;have:=zZ.1 h';omega
   have d:a≠b:=λh'=>by subst h';exact c h
   simp[Op.bytesLess,h,c,d]
theorem IW:∀x y z:bc,Op.bytesLess x y=eL->Op.bytesLess y z=eL->Op.bytesLess x z=eL
 |x,[],_,h1,_=>by cases x<;>simp[Op.bytesLess]at h1
 |_,b::y,[],_,h2=>by simp[Op.bytesLess]at h2
 |[],_::_,_::_,_,_=>rfl
 |a::x,b::y,c::z,h1,h2=>by
  simp only[Op.bytesLess,wV,decide_eq_true_eq,Bool.and_eq_true,beq_iff_eq]at h1 h2⊢;rcases h1 with h1|⟨rfl,h1⟩
  ·rcases h2 with h2|⟨rfl,h2⟩
   ·exact .inl (zZ.2 (by have:=zZ.1 h1;have:=zZ.1 h2;omega))
   ·exact .inl h1
  ·rcases h2 with h2|⟨rfl,h2⟩
   ·exact .inl h2
   ·exact .inr ⟨i0,IW x y z h1 h2⟩
theorem aac(x:bc):Op.bytesLess x x=false:=by
 have:=RL x x;cases h:Op.bytesLess x x with
 |false=>rfl
 |true=>rw[h]at this;simp at this
def jF(a b:ByteArray):Bool:=!fb b a
theorem LO(a b:ByteArray):jF a b=eL↔fb a b=eL∨a.toList=b.toList:=by unfold jF fb;rw[<-RL,wV,beq_iff_eq]
theorem GJ(a b c:ByteArray)(e:jF a b=eL)(d:jF b c=eL):jF a c=eL:=by
 rw[LO]at e d⊢;unfold fb at*;rcases e with e|e
 ·rcases d with d|d
  ·exact .inl (IW _ _ _ e d)
  ·rw[<-d];exact .inl e
 ·rw[e];exact d
theorem GK(a b:ByteArray):(jF a b||jF b a)=eL:=by
 unfold jF;cases h:fb b a with
 |false=>rfl
 |true=>
  have:fb a b=false:=by
   cases h2:fb a b with
   |false=>rfl
   |true=>
    have:=IW _ _ _ h h2;rw[aac]at this;cases this
  rw[this];rfl
def uH(a b:cb):Bool:=jF a.name b.name
def dw(m:aI)(x:cb):aI:={m with seq:=m.seq+1,next:=m.next+1,aG:=(m.aG++[x]).mergeSort uH}
open Classical
theorem lH(a:UInt8):a^^^a=0:=UInt8.xor_self
theorem rZ(a b:UInt8):(a^^^b)^^^b=a:=by rw[UInt8.xor_assoc,lH,zX]
theorem cG{c:UInt8}{a t:Row}(h:ii a=ii t)(j:Nat):aP (cR c a t) j=aP t j^^^Gf.mul c (aP a j):=by
 simp only[aP,cR,qe,List.getElem?_zipWith];by_cases b:j<ii a
 ·rw[qd b,qd i4];rfl
 ·rw[qZ i4,qZ i4];simp[Gf.mul_zero]
theorem By(c:UInt8)(a:Row)(j:Nat):aP (scaleB c a) j=Gf.mul c (aP a j):=by
 simp only[aP,scaleB,qe,qR];cases a[j]? with
 |none=>simp[Gf.mul_zero]
 |some x=>rfl
def aO(n:Nat):Row:=qh n 0
theorem cm(n j:Nat):aP (aO n) j=0:=by simp only[aP,aO,qe,List.getElem?_replicate];split<;>rfl
theorem ez{n:Nat}{a b:Row}(f:ii a=n)(e:ii b=n)(h:∀j,j<n->aP a j=aP b j):a=b:=by apply wx i4;intro j d c;have:=h j i4;simpa[aP,qe,qd d,qd c]using this
inductive Span (n:Nat) (m:aQ):Row->Prop
 |zero:Span n m (aO n)
 |add (c:UInt8) (r v:Row):r∈m->Span n m v->Span n m (cR c r v)
section
variable {n:Nat} {m m':aQ}
theorem Span.len(a:aZ n m){v:Row}(h:Span n m v):ii v=n:=by
 induction h with
 |zero=>simp[aO]
 |add c r v hr _ ih=>rw[bT (by rw[a r hr,ih])];exact ih
theorem Span.comb(a:aZ n m){u v:Row}(e:Span n m u)(b:Span n m v)(c:UInt8):Span n m (cR c u v):=by
 induction e with
 |zero=>
  have:cR c (aO n) v=v:=ez (n:=n) (by rw[bT (by simp[aO,b.len a])];exact b.len a) (b.len a) λj _=>by
   rw[cG (by simp[aO,b.len a]),cm,Gf.mul_zero,zX]
  rw[this];exact b
 |add d r w hr hw ih=>
  have l1:=b.len a;have l2:=hw.len a;have f:=a r hr;have:cR c (cR d r w) v=cR (Gf.mul c d) r (cR c w v):=ez (n:=n) (by rw[bT lb];exact l1) (by rw[bT lb,bT];exact l1) λj _=>by
   rw[cG lb,cG i4,cG lb,cG i4,Gf.jV,Gf.mul_assoc]
   ac_rfl
  rw[this];exact .add _ _ _ hr ih
theorem Span.row(b:aZ n m){r:Row}(a:r∈m):Span n m r:=by
 have:=Span.add 1 r _ a (.zero (n:=n) (m:=m));have e:cR 1 r (aO n)=r:=ez (n:=n) (by rw[bT (by simp[aO,b r a])];simp[aO]) (b r a) λj _=>by
  rw[cG (by simp[aO,b r a]),cm,Gf.one_mul,wF]
 rwa [e]at this
theorem Span.sub(b:aZ n m)(h:∀r∈m',Span n m r){v:Row}(a:Span n m' v):Span n m v:=by
 induction a with
 |zero=>exact .zero
 |add c r v hr _ ih=>exact(h r hr).comb b ih c
theorem Span.mono(h:∀r∈m',r∈m){v:Row}(a:Span n m' v):Span n m v:=by
 induction a with
 |zero=>exact .zero
 |add c r v hr _ ih=>exact .add c r v (h r hr) ih
theorem Span.lin(d:aZ n m)(φ:Row->UInt8)(f:φ (aO n)=0)(g:∀c a t,ii a=n->ii t=n->φ (cR c a t)=φ t^^^Gf.mul c (φ a))(e:∀r∈m,φ r=0){v:Row}(b:Span n m v):φ v=0:=by
 induction b with
 |zero=>exact f
 |add c r v hr' b ih=>rw[g c r v (d r hr') (b.len d),ih,e r hr',Gf.mul_zero,zX]
end
def Ci(S:Row->Prop)(j:Nat):Prop:=∃v,S v/\(∀i,i<j->aP v i=0)/\aP v j≠0
noncomputable def leads(S:Row->Prop)(n:Nat):Nat:=(qE n).countP λj=>decide (Ci S j)
structure Way (n:Nat) (m:aQ) (c top:Nat) (rows:aQ):Prop where
 even:aZ n rows
 len:ii rows=ii m
 tle:top<=ii rows
 span:∀v,Span n rows v↔Span n m v
 cnt:top=leads (Span n m) c
 piv:∃p:Nat->Nat,(∀i,i<top->p i<c)/\(∀i,i<top->∀k,k<ii rows->aP (aD rows k) (p i)=if k=i then 1 else 0)/\(∀i,i<top->∀j,j<p i->aP (aD rows i) j=0)/\(∀i j,i<j->j<top->p i<p j)
 low:∀k,top<=k->k<ii rows->∀j,j<c->aP (aD rows k) j=0
theorem mem_row{m:aQ}{i:Nat}(h:i<ii m:=by omega):aD m i∈m:=by rw[bA h];exact qg h
theorem eS{m:aQ}{r:Row}(h:r∈m):∃i,i<ii m/\r=aD m i:=by obtain⟨i,a,rfl⟩:=qH h;exact⟨i,a,(bA a).symm⟩
theorem lh{m:aQ}{i j:Nat}{r:Row}(a:i<ii m:=by omega):aD (m.set i r) j=if i=j then r else aD m j:=by
 simp only[aD,qe,qY];by_cases h:i=j
 ·subst h;simp[a]
 ·simp[h]
theorem Ae{m:aQ}{i j k:Nat}(c:i<ii m)(d:j<ii m):aD (iZ m i j) k=if k=j then aD m i else if k=i then aD m j else aD m k:=by
 rw[iZ,lh n3,lh c];by_cases b:j=k
 ·rw[f9 b,f9 b.symm]
 ·rw[g0 b,g0 (show¬k=j fromλh=>b h.symm)];by_cases a:i=k
  ·rw[f9 a,f9 a.symm]
  ·rw[g0 a,g0 (show¬k=i fromλh=>a h.symm)]
theorem Ee{m:aQ}{t c k:Nat}(a:t<ii m):aD (jM t c m) k=if t=k then scaleB (Gf.inv (aP (aD m t) c)) (aD m t)else aD m k:=by rw[jM,lh a]
section
variable {n:Nat} {m:aQ}
theorem aad(l:aZ n m){i j:Nat}(a:i<ii m)(b:j<ii m)(v:Row):Span n (iZ m i j) v↔Span n m v:=by
 refine⟨Span.mono λr d=>?_,Span.mono λr d=>?_⟩
 ·obtain⟨k,c,rfl⟩:=eS d;rw[lG]at c;rw[Ae a b];split
  ·exact mem_row a
  ·split
   ·exact mem_row b
   ·exact mem_row c
 ·obtain⟨k,c,rfl⟩:=eS d;have e:∀x,x<ii m->aD (iZ m i j) x∈iZ m i j:=λx h=>mem_row (by rw[lG];exact h);by_cases f:k=i
  ·subst f;have:=e j b;rw[Ae a b,f9 rfl]at this;exact this
  ·by_cases g:k=j
   ·subst g;have:=e i a;rw[Ae a b]at this;by_cases h3:i=k
    ·exact absurd h3.symm f
    ·rw[g0 h3,f9 rfl]at this;exact this
   ·have:=e k c;rw[Ae a b,g0 g,g0 f]at this;exact this
theorem aae(h:aZ n m){t c:Nat}(b:t<ii m)(i:aP (aD m t) c≠0)(v:Row):Span n (jM t c m) v↔Span n m v:=by
 have a:=Bv h (c:=c) b;have f:=cl h b;have s:∀(x:UInt8) (r:Row),ii r=n->scaleB x r=cR x r (aO n):=λx r d=>ez (n:=n) (by rw[oP,d]) (by rw[bT (by simp[aO,d])];simp[aO]) λj _=>by
  rw[By,cG (by simp[aO,d]),cm,wF]
 refine⟨Span.sub h λr d=>?_,Span.sub a λr d=>?_⟩
 ·obtain⟨k,g,rfl⟩:=eS d;rw[oE]at g;rw[Ee b];split
  ·rw[s _ _ f];exact .add _ _ _ (mem_row b) .zero
  ·exact Span.row h (mem_row g)
 ·obtain⟨k,g,rfl⟩:=eS d;have e:∀x,x<ii m->Span n (jM t c m) (aD (jM t c m) x):=λx p=>Span.row a (mem_row (by rw[oE];exact p));by_cases o:t=k
  ·subst o;have:=e t b;rw[Ee b,f9 rfl]at this;have l:=this.comb a .zero (aP (aD m t) c);have q:cR (aP (aD m t) c) (scaleB (Gf.inv (aP (aD m t) c)) (aD m t)) (aO n)=aD m t:=ez (n:=n) (by rw[bT (by simp[aO,oP,f])];simp[aO]) f λj _=>by
    rw[cG (by simp[aO,oP,f]),cm,wF,By,<-Gf.mul_assoc,Gf.Og i,Gf.one_mul]
   rw[q]at l;exact l
  ·have:=e k g;rw[Ee b,g0 o]at this;exact this
theorem aaf(d:aZ n m){t c:Nat}(g:t<ii m)(v:Row):Span n (eP t c m m.length) v↔Span n m v:=by
 have b:=Bw d (c:=c) (k:=ii m) g;have s:=cl d g;refine⟨Span.sub d λr h=>?_,Span.sub b λr h=>?_⟩
 ·obtain⟨k,a,rfl⟩:=eS h;rw[oF]at a;rw[rY a];split
  ·exact .add _ _ _ (mem_row g) (Span.row d (mem_row a))
  ·exact Span.row d (mem_row a)
 ·obtain⟨k,a,rfl⟩:=eS h;have e:∀x,x<ii m->Span n (eP t c m m.length) (aD (eP t c m m.length) x):=λx p=>Span.row b (mem_row (by rw[oF];exact p));have i:=e t g;rw[rY g,g0 i9]at i;by_cases o:k=t
  ·subst o;exact i
  ·have l:=e k a;rw[rY a,f9 ⟨a,o⟩]at l;have h3:=i.comb b l (aP (aD m k) c);have f:=cl d a;have q:cR (aP (aD m k) c) (aD m t) (cR (aP (aD m k) c) (aD m t) (aD m k))=aD m k:=ez (n:=n) (by rw[bT lb,bT];exact f) f λj _=>by
    rw[cG lb,cG i4,rZ]
   rw[q]at h3;exact h3
def bP(f g:Nat->UInt8):Nat->UInt8
 |0=>0
 |k+1=>bP f g k^^^Gf.mul (f k) (g k)
theorem fE(f g:Nat->UInt8):∀k,(∀i,i<k->f i=0)->bP f g k=0
 |0,_=>rfl
 |k+1,h=>by rw[bP,fE f g k λi a=>h i i4,h k i4,Gf.zero_mul];rfl
theorem IX(f g:Nat->UInt8)(x:Nat):∀k,x<k->(∀i,i<k->f i=if x=i then 1 else 0)->bP f g k=g x
 |0,hx,_=>i4
 |k+1,hx,h=>by
  rw[bP];by_cases a:x=k
  ·subst a;rw[fE f g x λi b=>by rw[h i i4,g0 i4],h x i4,f9 i0,Gf.one_mul,wF]
  ·rw[IX f g x k i4 λi b=>h i i4,h k i4,g0 a,Gf.zero_mul,zX]
theorem IY(b a g:Nat->UInt8)(c:UInt8):∀k,bP (λi=>b i^^^Gf.mul c (a i)) g k=bP b g k^^^Gf.mul c (bP a g k)
 |0=>by simp[bP,Gf.mul_zero]
 |k+1=>by
  rw[bP,bP,bP,IY b a g c k,Gf.jV,Gf.WR,Gf.mul_assoc]
  ac_rfl
theorem LP(S:Row->Prop)(c:Nat):leads S (c+1)=leads S c+if Ci S c then 1 else 0:=by simp only[leads,List.range_succ,List.countP_append,List.countP_cons,List.countP_nil];by_cases h:Ci S c<;>simp[h]
theorem aag(c:aZ n m):Way n m 0 0 m:=⟨c,i0,i4,λ_=>Iff.rfl,by simp[leads],⟨λ_=>0,λi a=>i4,λi a=>i4,λi a=>i4,λi j _ b=>i4⟩,λk _ _ j b=>i4⟩
theorem acN(hm:aZ n m){c b:Nat}{rows:aQ}(w:Way n m c b rows)(hc:c<n):Way n m (c+1) (ja (b,rows) c).1 (ja (b,rows) c).2:=by
 obtain⟨F,Y,ab,W,K,⟨p,Q,p2,p3,p4⟩,f⟩:=w;have hS:∀v,Span n rows v↔Span n m v:=W;have S:Span n rows=Span n m:=funext λv=>propext (hS v);unfold ja;dsimp only;cases hb:iN rows b c with
 |none=>
  have T:=Vl hb;dsimp only;have ad:¬Ci (Span n m) c:=by
   rw[<-S];rintro⟨v,hv,hz,am⟩;apply am;have hφ:=Span.lin F (λv=>aP v c^^^bP (λi=>aP v (p i)) (λi=>aP (aD rows i) c) b) (by
     simp only[cm];rw[fE _ _ _ λi _=>rfl];rfl) (λx a t ha ht=>by
     simp only[cG (show a.length=ii t by omega)];rw[IY,Gf.jV];ac_rfl) (λr hr=>by
     obtain⟨k,G,rfl⟩:=eS hr;by_cases O:k<b
     ·rw[IX _ _ k b O λi E=>by rw[p2 i E k G]];exact lH _
     ·rw[T k i4 G,fE _ _ _ λi E=>by rw[p2 i E k G,g0 i4]];rfl) hv
   rw[fE _ _ _ λi E=>hz _ (Q i E),zX]at hφ;exact hφ
  refine⟨F,Y,ab,W,by rw[LP,g0 ad,K];rfl,⟨p,λi E=>by have:=Q i E;omega,p2,p3,p4⟩,λk B y j d=>?_⟩;rcases zn.1 d with h|rfl
  ·exact f k B y j h
  ·exact T k B y
 |some at_=>
  have hh:=sJ hb;obtain⟨h1,R,h3⟩:=hh;dsimp only;have o:b<ii rows:=i4
  obtain⟨g,D⟩:∃g,g=iZ rows b at_:=⟨_,rfl⟩
  have l1:ii g=ii rows:=by rw[D,lG]
  have Z:aZ n g:=by rw[D];exact GF F o R
  have q1:∀k,aD g k=if k=at_ then aD rows b else if k=b then aD rows at_ else aD rows k:=λk=>by rw[D,Ae o R]
  have U:aD g b=aD rows at_:=by
   rw[q1];by_cases h:b=at_
   ·rw[f9 h,h]
   ·rw[g0 h,f9 rfl]
  have M:aP (aD g b) c≠0:=by rw[U];exact h3
  obtain⟨s,u⟩:∃s,s=jM b c g:=⟨_,rfl⟩
  have l2:ii s=ii rows:=by rw[u,oE,l1]
  have z:aZ n s:=by rw[u];exact Bv Z i4
  have q2:∀k,aD s k=if b=k then scaleB (Gf.inv (aP (aD g b) c)) (aD g b)else aD g k:=λk=>by rw[u,Ee i4]
  have ah:∀j,aP (aD g b) j=0->aP (aD s b) j=0:=λj d=>by rw[q2,f9 i0,By,d,Gf.mul_zero]
  have l:aP (aD s b) c=1:=by rw[q2,f9 i0,By,Gf.mul_comm,Gf.Og M]
  obtain⟨L,q⟩:∃L,L=eP b c s rows.length:=⟨_,rfl⟩
  have l3:ii L=ii rows:=by rw[q,oF,l2]
  have q3:∀k,k<ii rows->∀j,aP (aD L k) j=if k=b then aP (aD s b) j else aP (aD g k) j^^^Gf.mul (aP (aD g k) c) (aP (aD s b) j):=λk G j=>by
   rw[q,rY i4];by_cases h:k=b
   ·rw[g0 i4,f9 h,h]
   ·have e:=q2 k;rw[g0 λhh=>h hh.symm]at e;rw[f9 ⟨G,h⟩,g0 h,cG (by rw[cl z,cl z]),e]
  have X:∀j,j<c->aP (aD s b) j=0:=λj d=>ah j (by rw[U];exact f at_ h1 R j d);have keep:∀k,k<ii rows->∀j,j<c->aP (aD L k) j=if k=b then 0 else aP (aD g k) j:=λk G j d=>by
   rw[q3 k G,X j d,Gf.mul_zero,zX]
  have I:∀k,k<b->aD g k=aD rows k:=λk G=>by rw[q1,g0 i4,g0 i4]
  have J:∀k,b<=k->k<ii rows->∀j,j<c->aP (aD g k) j=0:=λk B y j d=>by
   rw[q1];split
   ·exact f b (qn _) o j d
   ·split
    ·exact f at_ h1 R j d
    ·exact f k B y j d
  have A:∀v,Span n L v↔Span n m v:=λv=>by
   rw[q,show rows.length=ii s by omega,aaf z i4,u,aae Z i4 M,D,aad F o R,hS]
  have N:Ci (Span n m) c:=⟨aD L b,(A _).1 (Span.row (by rw[q];exact Bw z i4) (mem_row)),λj d=>by rw[keep b o j d,f9 rfl],by rw[q3 b o,f9 i0,l];decide⟩
  have V:eP b c (jM b c (iZ rows b at_)) rows.length=L:=by rw[q,u,D]
  rw[V];refine⟨by rw[q];exact Bw z i4,i4,i4,A,by rw[LP,f9 N,K],⟨λi=>if i<b then p i else c,λi E=>?_,λi E k G=>?_,λi E j d=>?_,λi j ao d=>?_⟩,λk B y j d=>?_⟩
  ·dsimp only;split
   ·have:=Q i o1;omega
   ·omega
  ·dsimp only;by_cases hit:i<b
   ·rw[f9 hit,keep k i4 _ (Q i hit)];by_cases O:k<b
    ·rw[g0 i4,I k O];exact p2 i hit k i4
    ·rw[g0 (show¬k=i by omega)];split
     ·rfl
     ·exact J k i4 i4 _ (Q i hit)
   ·have P:i=b:=i4
    subst P;rw[g0 hit,q3 k i4];by_cases H:k=i
    ·rw[f9 H,f9 H];exact l
    ·rw[g0 H,g0 H,l,Gf.mul_one];exact lH _
  ·dsimp only at d;by_cases hit:i<b
   ·rw[f9 hit]at d;have:=Q i hit;rw[keep i i4 j i4,g0 i4,I i hit];exact p3 i hit j d
   ·have P:i=b:=i4
    subst P;rw[g0 hit]at d;rw[keep i i4 j d,f9 rfl]
  ·dsimp only;rw[f9 (show i<b by omega)];split
   ·exact p4 i j ao o1
   ·exact Q i i4
  ·rcases zn.1 d with h|rfl
   ·rw[keep k i4 j h,g0 i4];exact J k i4 i4 j h
   ·rw[q3 k i4,g0 i4,l,Gf.mul_one];exact lH _
theorem IZ(a:aZ n m):∀c,c<=n->Way n m c (bG m c).1 (bG m c).2
 |0,_=>aag a
 |c+1,h=>by rw[bG];exact acN a (IZ a c i4) i4
theorem kg:∀c,bG [] c=(0,[])
 |0=>rfl
 |c+1=>by rw[bG,kg c];rfl
theorem lQ(a:aZ n m):bW m=leads (Span n m) n:=by
 rw[<-(IZ a n (qn _)).cnt,bW];cases m with
 |nil=>rw[kg,kg]
 |cons x t=>rw[eu,bA i9];rw[show((x::t)[0]).length=n from a _ i9]
end
section
variable {n:Nat} {m m':aQ}
theorem XV{S a:Row->Prop}(h:∀v,S v->a v)(n:Nat):leads S n<=leads a n:=by refine List.countP_mono_left λj _ b=>?_;simp only[decide_eq_true_eq]at b⊢;obtain⟨v,d,c⟩:=b;exact⟨v,h v d,c⟩
theorem mO(a:aZ n m):bW m<=n:=by rw[lQ a];have:=List.countP_le_length (p:=λj=>decide (Ci (Span n m) j)) (l:=qE n);simpa[leads]using this
theorem PF(b:aZ n m)(a:aZ n m')(h:∀r∈m,r∈m'):bW m<=bW m':=by rw[lQ b,lQ a];exact XV (λv=>Span.mono h) n
theorem count_one{P Q:Nat->Bool}(l:List Nat)(d:l.Nodup)(g:∀a∈l,P a=eL->Q a=eL)(e:∀a∈l,∀b∈l,Q a=eL->P a=false->Q b=eL->P b=false->a=b):l.countP Q<=l.countP P+1:=by
 induction l with
 |nil=>simp
 |cons x t ih=>
  rw[List.nodup_cons]at d;have i:=ih d.2 (λa c=>g a n7) λa c b f=>e a n7 b nq;simp only[List.countP_cons];cases hQ:Q x with
  |false=>
   have:(if P x=eL then 1 else 0)>=0:=i4
   simp;omega
  |true=>
   cases hP:P x with
   |true=>simp;omega
   |false=>
    have:t.countP Q<=t.countP P:=by
     refine List.countP_mono_left λa c h=>?_;cases hpa:P a with
     |true=>rfl
     |false=>
      have:=e x i9 a n7 hQ hP h hpa;subst this;exact absurd c d.1
    simp;omega
theorem PG(g:aZ n m){r:Row}(f:ii r=n){v:Row}(k:Span n (m++[r]) v):∃(c:UInt8) (u:Row),Span n m u/\v=cR c r u:=by
 have o:aZ n (m++[r]):=λx e=>by
  rcases qz.1 e with h|h
  ·exact g x h
  ·rw[qC.1 h];exact f
 induction k with
 |zero=>exact⟨0,aO n,.zero,(ez (n:=n) (by rw[bT (by simp[aO,f])];simp[aO]) k8 λj _=>by rw[cG (by simp[aO,f]),cm,Gf.zero_mul];rfl).symm⟩
 |add d x w e hw ih=>
  obtain⟨c,u,i,rfl⟩:=ih;have a:=i.len g;rcases qz.1 e with h|h
  ·have l:=g x h;refine⟨c,cR d x u,.add d x u h i,ez (n:=n) (by rw[bT lb,bT];exact a) (by rw[bT lb,bT];exact a) λj _=>?_⟩;rw[cG lb,cG i4,cG lb,cG i4]
   ac_rfl
  ·have b:=qC.1 h;subst b;refine⟨c^^^d,u,i,ez (n:=n) (by rw[bT lb,bT];exact a) (by rw[bT];exact a) λj _=>?_⟩;rw[cG lb,cG i4,cG i4,Gf.WR]
   ac_rfl
theorem mP(c:aZ n m){r:Row}(b:ii r=n):aZ n (m++[r]):=λx a=>by
 rcases qz.1 a with h|h
 ·exact c x h
 ·rw[qC.1 h];exact b
theorem aah(e:aZ n m){r:Row}(D:ii r=n):bW m<=bW (m++[r])/\bW (m++[r])<=bW m+1:=by
 have l:=mP e D;refine⟨PF e l λx B=>by simp[B],?_⟩;rw[lQ e,lQ l];refine count_one _ List.nodup_range (λa _ J=>?_) (λa _ b _ E k F q=>?_)
 ·simp only[decide_eq_true_eq]at J⊢;obtain⟨v,I,H⟩:=J;exact⟨v,Span.mono (λx B=>by simp[B]) I,H⟩
 ·simp only[decide_eq_true_eq,decide_eq_false_iff_not]at E k F q;have o:∀a b,Ci (Span n (m++[r])) a->¬Ci (Span n m) a->Ci (Span n (m++[r])) b->¬Ci (Span n m) b->¬a<b:=by
   rintro a b ⟨v,N,M,t⟩ k ⟨w,L,h,p⟩ q A;obtain⟨c,u,K,rfl⟩:=PG e D N;obtain⟨d,s,g,rfl⟩:=PG e D L;have l1:=K.len e;have l2:=g.len e;have O:d≠0:=by
    rintro rfl;apply q;refine⟨s,g,λi G=>?_,?_⟩
    ·have:=h i G;rw[cG i4,Gf.zero_mul,zX]at this;exact this
    ·rw[cG i4,Gf.zero_mul,zX]at p;exact p
   apply k;refine⟨cR (Gf.mul c (Gf.inv d)) s u,g.comb e K _,?_⟩;have f:∀j,aP (cR (Gf.mul c (Gf.inv d)) s u) j=aP (cR c r u) j^^^Gf.mul (Gf.mul c (Gf.inv d)) (aP (cR d r s) j):=λj=>by
    rw[cG i4,cG i4,cG i4,Gf.jV,<-Gf.mul_assoc (Gf.mul c (Gf.inv d)) d,Gf.mul_assoc c (Gf.inv d) d,Gf.mul_comm (Gf.inv d) d,Gf.Og O,Gf.mul_one];have:∀x y z:UInt8,x^^^y=x^^^z^^^(y^^^z):=λx y z=>by
     have:x^^^z^^^(y^^^z)=x^^^y^^^(z^^^z):=by ac_rfl
     rw[this,lH,zX]
    exact this _ _ _
   refine⟨λi G=>?_,?_⟩
   ·rw[f,M i G,h i i4,Gf.mul_zero];rfl
   ·rw[f,h a A,Gf.mul_zero,zX];exact t
  have I:=o a b E k F q;have H:=o b a F q E k;omega
theorem pH(m:aQ)(h:aZ n m):bW m<=ii m:=by
 have a:∀k,k<=ii m->bW (m.take k)<=k:=by
  intro k
  induction k with
  |zero=>intro _;simp[bW,eu,aD,bG]
  |succ k ih=>
   intro f;have b:aZ n (m.take k):=λx c=>h x (zD c);have e:=ih i4;rw[zI i4];have d:=(aah b (h _ (qg (show k<ii m by omega)))).2;omega
 have:=a m.length (qn _)
 rwa [qi (qn _)]at this
end
def Ef(p:Int×Int×Int)(seed:Int)(ids:aF):Nat:=bW (dH p seed ids)
def fJ(p:Int×Int×Int)(seed:Int)(ids:aF):Bool:=bI p&&((Ef p seed ids:Int)==bS p)
def fc(p:Int×Int×Int):aF:=upto (max 0 (min p.1 16)).toNat
theorem oH{p:Int×Int×Int}(h:bI p=eL):bS p=p.1+p.2.1:=by rw[bS,f9 h]
theorem mQ(p:Int×Int×Int)(seed:Int)(ids:aF):aZ (bS p).toNat (dH p seed ids):=by
 intro r a;unfold dH at a;split at a
 ·rename_i b;have:=(ce p).1 b;rcases qz.1 a with h|h
  ·obtain⟨x,_,rfl⟩:=qw.1 h;rw[yS,oH b];omega
  ·obtain⟨x,_,rfl⟩:=qw.1 h;exact SC _ _ _
 ·cases a
theorem acO(p:Int×Int×Int)(seed:Int)(ids:aF):ii (dH p seed ids)<=4+ii ids:=by
 unfold dH;split
 ·rename_i a;have:=(ce p).1 a;have b:=List.length_filter_le bV ids;simp only[qx,bD,qy,zA];omega
 ·simp
theorem LQ(K H:Nat):aZ (K+H) (bD K H):=λr a=>by
 obtain⟨x,_,rfl⟩:=qw.1 a;exact yS _ _ _
def eK(a b:aQ):aQ:=List.zipWith (·++·) a b
def kD(n:Nat)(m:aQ):aQ:=m.map (List.take n)
theorem Kz{r:Row}{n j:Nat}(h:j<n):aP (r.take n) j=aP r j:=by simp only[aP,qe,yL];rw[f9 h]
theorem SI(r:Row)(n j:Nat):aP (r.drop n) j=aP r (n+j):=by simp only[aP,qe,List.getElem?_drop]
theorem va(n:Nat)(m:aQ)(i:Nat):aD (kD n m) i=(aD m i).take n:=by
 simp only[aD,kD,qe,qR];cases m[i]? with
 |none=>simp
 |some r=>rfl
theorem Oh(n:Nat)(m:aQ):ii (kD n m)=ii m:=by simp[kD]
theorem XW{n a bx:Nat}(m:aQ)(h:bx<n):iN (kD n m) a bx=iN m a bx:=by unfold iN;rw[Oh];congr 1;funext i;rw[va,Kz h]
theorem Oi(n:Nat)(m:aQ)(i:Nat)(r:Row):kD n (m.set i r)=(kD n m).set i (r.take n):=by simp[kD,List.map_set]
theorem acP(n:Nat)(m:aQ)(i j:Nat):kD n (iZ m i j)=iZ (kD n m) i j:=by rw[iZ,Oi,Oi,iZ,va,va]
theorem aai(n:Nat)(c:UInt8)(r:Row):(scaleB c r).take n=scaleB c (r.take n):=by simp[scaleB,List.map_take]
theorem afA(n:Nat)(c:UInt8)(a t:Row):(cR c a t).take n=cR c (a.take n) (t.take n):=by simp[cR,List.take_zipWith]
theorem acQ{n bx:Nat}(h:bx<n)(t:Nat)(m:aQ):kD n (jM t bx m)=jM t bx (kD n m):=by rw[jM,Oi,aai,jM,va,Kz h]
theorem acR{n bx:Nat}(h:bx<n)(t k:Nat)(m:aQ):kD n (eP t bx m k)=eP t bx (kD n m) k:=by
 apply List.ext_getElem?;intro i;simp only[kD,eP,qR,List.getElem?_mapIdx];cases m[i]? with
 |none=>rfl
 |some r=>
  simp only[Option.map_some];congr 1;have:=va n m t;rw[kD]at this;rw[this,Kz h];split
  ·exact afA _ _ _ _
  ·rfl
theorem acS{n bx:Nat}(h:bx<n)(s:Nat×aQ):((ja s bx).1,kD n (ja s bx).2)=ja (s.1,kD n s.2) bx:=by
 unfold ja;dsimp only;rw[XW _ h];cases iN s.2 s.1 bx with
 |none=>rfl
 |some i=>dsimp only;rw[acR h,acQ h,acP,Oh]
theorem LR(n:Nat)(m:aQ):∀c,c<=n->((bG m c).1,kD n (bG m c).2)=bG (kD n m) c
 |0,_=>rfl
 |c+1,h=>by
  have a:=LR n m c i4;rw[bG,bG,acS (show c<n by omega),a]
theorem ms{a b:aQ}(h:ii a=ii b):ii (eK a b)=ii a:=by simp[eK,h]
theorem Ja{a b:aQ}(h:ii a=ii b){i:Nat}(c:i<ii a):aD (eK a b) i=aD a i++aD b i:=by rw[bA (by rw[ms h];exact c),bA c,bA i4];simp[eK]
theorem mR{n w:Nat}{a b:aQ}(h:ii a=ii b)(f:aZ n a)(d:aZ w b):aZ (n+w) (eK a b):=λr e=>by
 obtain⟨i,c,rfl⟩:=eS e;rw[ms h]at c;rw[Ja h c,qx,cl f c,cl d]
theorem afB{n:Nat}{a b:aQ}(h:ii a=ii b)(e:aZ n a):kD n (eK a b)=a:=by apply wx (by rw[Oh,ms h]);intro i d c;have:=va n (eK a b) i;rw[bA d,Ja h c,List.take_left' (cl e c),bA c]at this;exact this
theorem acT{n:Nat}{a:aQ}(b:aZ n a):(bG a n).1=bW a:=by
 rw[bW];cases a with
 |nil=>rw[kg,kg]
 |cons x t=>rw[eu,bA i9];rw[show((x::t)[0]).length=n from b _ i9]
theorem KA{n:Nat}{a b:aQ}(h:ii a=ii b)(c:aZ n a):(bG (eK a b) n).1=bW a:=by have:=congrArg Prod.fst (LR n (eK a b) n (qn _));rw[afB h c]at this;rw[<-acT c];exact this
def sa(w:Nat)(r:Row)(X:aQ):Nat->Row
 |0=>aO w
 |k+1=>cR (aP r k) (aD X k) (sa w r X k)
theorem iu{n w:Nat}{X:aQ}(b:aZ w X)(c:ii X=n)(r:Row):∀k,k<=n->ii (sa w r X k)=w
 |0,_=>by simp[sa,aO]
 |k+1,h=>by
  have a:=iu b c r k i4;rw[sa,bT (by rw[cl b,a])];exact a
theorem gN{n w:Nat}{X:aQ}(a:aZ w X)(b:ii X=n)(r:Row)(j:Nat):∀k,k<=n->aP (sa w r X k) j=bP (λi=>aP r i) (λi=>aP (aD X i) j) k
 |0,_=>by rw[sa,cm];rfl
 |k+1,h=>by
  have c:=gN a b r j k i4;rw[sa,cG (by rw[cl a,iu a b r k i4]),c];rfl
def ft(n w:Nat)(a b X:aQ):Prop:=ii X=n/\aZ w X/\∀i,i<ii a->sa w (aD a i) X n=aD b i
theorem acU{m a:aQ}(d:ii m=ii a)(h:∀i,i<ii m->aD m i=aD a i):m=a:=by
 apply wx d;intro i b c;have:=h i b
 rwa [bA b,bA c]at this
def Af(n:Nat)(X:aQ)(k:Nat)(v:Row):UInt8:=aP v (n+k)^^^bP (λi=>aP v i) (λi=>aP (aD X i) k) n
theorem fK{f f' g a:Nat->UInt8}:∀k,(∀i,i<k->f i=f' i)->(∀i,i<k->g i=a i)->bP f g k=bP f' a k
 |0,_,_=>rfl
 |k+1,h1,h2=>by rw[bP,bP,fK k (λi b=>h1 i i4) λi b=>h2 i i4,h1 k i4,h2 k i4]
theorem WU(n:Nat)(X:aQ)(k:Nat)(c:UInt8)(a t:Row)(h:ii a=ii t:=by omega):Af n X k (cR c a t)=Af n X k t^^^Gf.mul c (Af n X k a):=by unfold Af;rw[cG h];have:bP (λi=>aP (cR c a t) i) (λi=>aP (aD X i) k) n=bP (λi=>aP t i^^^Gf.mul c (aP a i)) (λi=>aP (aD X i) k) n:=fK n (λi _=>cG h i) λ_ _=>rfl;rw[this,IY,Gf.jV];ac_rfl
theorem WV{a b:Row}{n:Nat}(c:ii a=n)(k:Nat):aP (a++b) (n+k)=aP b k:=by simp only[aP,qe];rw[qj i4,c,Nat.add_sub_cancel_left]
theorem SJ{a b:Row}{n j:Nat}(d:ii a=n)(c:j<n):aP (a++b) j=aP a j:=by simp only[aP,qe];rw[qm i4]
theorem pI{a b:UInt8}:a^^^b=0↔a=b:=by
 constructor
 ·intro h;have:=congrArg (·^^^b) h;simp only[wF]at this
  rwa [rZ]at this
 ·rintro rfl;exact lH _
theorem LS{n w:Nat}{a b X:aQ}(h:ii a=ii b)(f:aZ n a)(o:aZ w b)(g:ii X=n)(l:aZ w X):ft n w a b X↔∀k,k<w->∀v,Span (n+w) (eK a b) v->Af n X k v=0:=by
 have e:=mR h f o;constructor
 ·intro u k p v q;refine Span.lin e (Af n X k) ?_ (λc a t z y=>WU n X k c a t) (λr s=>?_) q
  ·unfold Af;rw[cm,fE _ _ n λi _=>cm _ _];rfl
  ·obtain⟨i,d,rfl⟩:=eS s;rw[ms h]at d;rw[Ja h d];unfold Af;rw[WV (cl f d),<-u.2.2 i d,gN l g _ k n (qn _),pI];exact fK n (λj m=>(SJ (cl f d) m).symm) λ_ _=>rfl
 ·intro x;refine⟨g,l,λi d=>ez (n:=w) (iu l g _ n (qn _)) (cl o) λk p=>?_⟩;have:=x k p _ (Span.row e (mem_row (show i<ii (eK a b) by rw[ms h];exact d)));rw[Ja h d]at this;unfold Af at this;rw[WV (cl f d),pI]at this;rw[this,gN l g _ k n (qn _)];exact fK n (λj m=>(SJ (cl f d) m).symm) λ_ _=>rfl
theorem agT{n:Nat}{p:Nat->Nat}(d:∀i,i<n->p i<n)(b:∀i j,i<j->j<n->p i<p j):∀i,i<n->p i=i:=by
 have c:∀i,i<n->i<=p i:=by
  intro i
  induction i with
  |zero=>intro _;omega
  |succ i ih=>intro a;have:=ih i4;have:=b i (i+1) i4 a;omega
 have up:∀k i,i+k+1=n->p i<=i:=by
  intro k
  induction k with
  |zero=>intro i a;have:=d i i4;omega
  |succ k ih=>intro i a;have:=ih (i+1) i4;have:=b i (i+1) i4 i4;omega
 intro i a;have:=c i a;have:=up (n-1-i) i i4;omega
def fX(n:Nat)(a b:aQ):aQ:=(((bG (eK a b) n).2).take n).map (List.drop n)
def kT(n:Nat)(a b:aQ):Prop:=∀r∈((bG (eK a b) n).2).drop n,r=aO r.length
section
variable {n w:Nat} {a b:aQ}
theorem vg(h:ii a=ii b)(f:aZ n a)(g:aZ w b)(j:bW a=n):ii (fX n a b)=n/\aZ w (fX n a b):=by have d:=mR h f g;have e:=gG d n;have h3:=pH a f;refine⟨by rw[fX,qy,qU,e.2,ms h];omega,λr c=>?_⟩;obtain⟨x,i,rfl⟩:=qw.1 c;rw[za,e.1 x (zD i)];omega
theorem WW(h:ii a=ii b)(e:aZ n a)(d:bW a=n){i:Nat}(c:i<n):aD (fX n a b) i=(aD (bG (eK a b) n).2 i).drop n:=by
 simp only[aD,fX,qe,qR,yL];rw[f9 c]
 cases(bG (eK a b) n).2[i]? with
 |none=>simp
 |some r=>rfl
theorem SK(h:ii a=ii b)(f:aZ n a)(l:aZ w b)(q:bW a=n):
  (∀v,Span (n+w) (bG (eK a b) n).2 v↔Span (n+w) (eK a b) v)/\(bG (eK a b) n).2.length=ii a/\(∀i,i<n->∀k,k<ii a->aP (aD (bG (eK a b) n).2 k) i=if k=i then 1 else 0):=by
 have c:=mR h f l;have W:=IZ c n i4;have o:(bG (eK a b) n).1=n:=by rw[KA h f,q]
 obtain⟨p,d,e,r,j⟩:=W.piv;rw[o]at d e r j;have hid:=agT d j;have m:(bG (eK a b) n).2.length=ii a:=by rw[W.len,ms h]
 refine⟨W.span,m,λi g k s=>?_⟩;have:=e i g k i4
 rwa [hid i g]at this
theorem SL{X:aQ}{r:Row}{i k:Nat}(a:i<n)(b:∀j,j<n->aP r j=if i=j then 1 else 0):Af n X k r=aP r (n+k)^^^aP (aD X i) k:=by unfold Af;rw[IX _ _ i n a λj c=>b j c]
theorem WX{X:aQ}{r:Row}{k:Nat}(a:∀j,j<n->aP r j=0):Af n X k r=aP r (n+k):=by unfold Af;rw[fE _ _ n a,zX]
theorem lR(h:ii a=ii b)(l:aZ n a)(o:aZ w b)(v:bW a=n){X:aQ}(g:ft n w a b X):X=fX n a b/\kT n a b:=by
 have t:=mR h l o;have q:=gG t n;obtain⟨m,D,x⟩:=SK h l o v;have A:=pH a l;have z:=(LS h l o g.1 g.2.1).1 g;obtain⟨y,s2⟩:=vg h l o v;constructor
 ·refine acU (by rw[g.1,y]) λi d=>ez (n:=w) (cl g.2.1 d) (cl s2 (by rw[y];rw[g.1]at d;exact d)) λk B=>?_;rw[g.1]at d;have h3:=z k B _ ((m _).1 (Span.row q.1 (mem_row (show i<(bG (eK a b) n).2.length by omega))));rw[SL d λj p=>x j p i i4]at h3;rw[WW h l v d,SI];exact(pI.1 h3).symm
 ·intro r u;obtain⟨i,d,rfl⟩:=qH u;rw[za]at d;rw[wA];have f:n+i<(bG (eK a b) n).2.length:=i4
  have e:=bA f;have c:=cl q.1 f;rw[<-e,c];refine ez (n:=n+w) c k8 λj p=>?_;rw[cm];by_cases s:j<n
  ·rw[x j s (n+i) i4,g0 i4]
  ·obtain⟨k,rfl⟩:∃k,j=n+k:=⟨j-n,i4⟩
   have h3:=z k i4 _ ((m _).1 (Span.row q.1 (mem_row f)))
   rwa [WX λj p=>by rw[x j p (n+i) i4,g0 i4]]at h3
theorem pJ(h:ii a=ii b)(e:aZ n a)(g:aZ w b)(p:bW a=n)(B:kT n a b):ft n w a b (fX n a b):=by
 have m:=mR h e g;have s:=gG m n;obtain⟨q,E,u⟩:=SK h e g p;have z:=pH a e;obtain⟨y,s2⟩:=vg h e g p;refine(LS h e g y s2).2 λk G v A=>?_;refine Span.lin s.1 (Af n (fX n a b) k) ?_ (λc x t F s=>WU n _ k c x t) (λr o=>?_) ((q v).2 A)
 ·unfold Af;rw[cm,fE _ _ n λi _=>cm _ _];rfl
 ·obtain⟨i,D,rfl⟩:=eS o;by_cases f:i<n
  ·rw[SL f λj l=>u j l i i4,WW h e p f,SI];exact lH _
  ·rw[WX λj l=>by rw[u j l i i4,g0 i4]];have:aD (bG (eK a b) n).2 i∈(bG (eK a b) n).2.drop n:=by
    rw[bA D];obtain⟨d,rfl⟩:∃d,i=n+d:=⟨i-n,i4⟩
    rw[<-wA (h:=by rw[za];omega)];exact qg _
   rw[B _ this,cm]
theorem Vn(h:ii a=ii b)(g:aZ n a)(f:aZ w b)(i:ii a=n):kT n a b:=by have c:=mR h g f;have e:=gG c n;intro r d;rw[List.drop_of_length_le (by rw[e.2,ms h];omega)]at d;cases d
end
def SM(l:aF):Prop:=∀a b,a<ii l->b<ii l->kZ l a=kZ l b->a=b
theorem Jb{l:aF}{i:Nat}(h:i<ii l):kZ l i=l[i]:=by rw[kZ,qe,qd h];rfl
theorem acV{l:aF}{i j k:Nat}(c:i<ii l)(d:j<ii l):kZ (sI l i j) k=if k=j then kZ l i else if k=i then kZ l j else kZ l k:=by
 simp only[kZ,sI,qe,qY,List.length_set];by_cases a:j=k
 ·subst a;simp[d]
 ·by_cases b:i=k
  ·subst b;simp[a,c];omega
  ·simp[a,b];omega
theorem swap_inj{l:aF}{i j:Nat}(o:i<ii l)(m:j<ii l)(h:SM l):SM (sI l i j):=by
 intro a b n g p;rw[Sz]at n g;have c:∀k,k<ii l->∃σ,σ<ii l/\kZ (sI l i j) k=kZ l σ/\(σ=if k=j then i else if k=i then j else k):=λk w=>by
  rw[acV o m];by_cases f:k=j
  ·rw[f9 f,f9 f];exact⟨i,o,i0,i0⟩
  ·rw[g0 f,g0 f];by_cases e:k=i
   ·rw[f9 e,f9 e];exact⟨j,m,i0,i0⟩
   ·rw[g0 e,g0 e];exact⟨k,w,i0,i0⟩
 obtain⟨s,v,q,u⟩:=c a n;obtain⟨t,r,e2,d⟩:=c b g;rw[q,e2]at p;have:=h s t v r p;subst this;rw[u]at d;split at d<;>split at d<;>(try split at d)<;>(try split at d)<;>omega
theorem aaj{l:aF}(h:SM l):l.Nodup:=by rw[List.nodup_iff_pairwise_ne,List.pairwise_iff_getElem];intro i j a b d c;have:=h i j a b (by rw[Jb a,Jb b];exact c);omega
theorem acW(n:Nat):SM (upto n):=by intro a b e c d;rw[gJ]at e c;rw[Jb (by rw[gJ];exact e),Jb (by rw[gJ];exact c)]at d;simp[upto]at d;omega
theorem SN(n:Nat)(s:Int):∀k,k<=n->n<=64->SM (gq n s (upto n) k).2
 |0,_,_=>acW n
 |k+1,hk,hn=>by
  have a:=xY n s (upto n) k;rw[gJ]at a;have:=xX (gq n s (upto n) k).1 ((n-k:Nat):Int);exact swap_inj i4 i4 (SN n s k i4 hn)
theorem XX(s:Int)(n k:Nat)(b:k<=n)(a:n<=64):(IR s n k).Nodup:=by have h:=(aaj (SN n s k b a)).sublist (List.take_sublist k _);exact(List.mergeSort_perm _ _).nodup_iff.2 h
theorem Eg{n:Nat}(b:1<=n)(a:n<=20)(seed id:Int):(dj n seed id).Nodup:=XX _ _ _ (xZ _ n b a) i4
theorem Vo(n:Nat)(seed id:Int):(dj n seed id).Pairwise (·<=·):=by have:=List.pairwise_mergeSort (le:=λx y:Int=>decide (x<=y)) (by intro a b c;simp;omega) (by intro a b;simp;omega) ((gq n (Fe (Fe (GD seed id))) (upto n) (IU (Fe (GD seed id)) n)).2.take (IU (Fe (GD seed id)) n));exact this.imp i9
theorem Oj{r:Row}{i j:Nat}{x:UInt8}(a:i<ii r):aP (r.set i x) j=if j=i then x else aP r j:=by
 simp only[aP,qe,qY];by_cases h:i=j
 ·subst h;simp[a]
 ·simp[h];intro e;exact absurd e.symm h
theorem PH(n:Nat)(l:aF)(c:Int):ga n (l++[c])=(ga n l).set c.toNat 1:=by rw[ga,zN];rfl
theorem Eh{n:Nat}:∀(l:aF) (_:∀x∈l,0<=x/\x<(n:Int)) (j:Nat),aP (ga n l) j=if(j:Int)∈l then 1 else 0:=by
 intro l;have d:∀k,k<=ii l->(∀x∈l,0<=x/\x<(n:Int))->∀j:Nat,aP (ga n (l.take k)) j=if(j:Int)∈l.take k then 1 else 0:=by
  intro k
  induction k with
  |zero=>intro _ _ j;simp[ga];exact cm n j
  |succ k ih=>
   intro g b j;have f:=b _ (qg (show k<ii l by omega));rw[zI i4,PH,Oj (by rw[rX];omega),ih i4 b];have a:(j:Int)∈l.take k++[l[k]]↔(j:Int)∈l.take k∨(j:Int)=l[k]:=by rw[qz,qC]
   by_cases h:j=l[k].toNat
   ·rw[f9 h,f9 (a.2 (.inr i4))]
   ·rw[g0 h];by_cases c:(j:Int)∈l.take k
    ·rw[f9 c,f9 (a.2 (.inl c))]
    ·rw[g0 c,g0 λe=>(a.1 e).elim c λh3=>h i4]
 intro b j;have:=d l.length (qn _) b j
 rwa [qi (qn _)]at this
theorem KB{f f' g:Nat->UInt8}{c:Nat}(a:f c=0)(b:∀i,f' i=if i=c then 1 else f i):∀k,bP f' g k=bP f g k^^^if c<k then g c else 0
 |0=>by simp[bP]
 |k+1=>by
  rw[bP,bP,KB a b k,b k];by_cases d:k=c
  ·subst d;rw[f9 i0,g0 i4,f9 i4,Gf.one_mul,a,Gf.zero_mul]
  ·rw[g0 d];by_cases h:c<k
   ·rw[f9 h,f9 i4];ac_rfl
   ·rw[g0 h,g0 i4];simp
def fL(w:Nat)(X:aQ)(l:aF):Row:=l.foldl (λs c=>cR 1 (aD X c.toNat) s) (aO w)
theorem Ei(w:Nat)(X:aQ)(l:aF)(c:Int):fL w X (l++[c])=cR 1 (aD X c.toNat) (fL w X l):=by rw[fL,zN];rfl
theorem pK{n w:Nat}{X:aQ}(b:aZ w X)(e:ii X=n){l:aF}(a:∀x∈l,0<=x/\x<(n:Int)):∀k,k<=ii l->ii (fL w X (l.take k))=w:=by
 intro k
 induction k with
 |zero=>intro _;simp[fL,aO]
 |succ k ih=>
  intro d;have c:=a _ (qg (show k<ii l by omega));rw[zI i4,Ei,bT (by rw[cl b,ih i4])];exact ih i4
theorem WY{n w:Nat}{X:aQ}(b:aZ w X)(c:ii X=n){l:aF}(a:∀x∈l,0<=x/\x<(n:Int)):ii (fL w X l)=w:=by
 have:=pK b c a l.length (qn _)
 rwa [qi (qn _)]at this
theorem afC{n w:Nat}{X:aQ}(a:aZ w X)(b:ii X=n){l:aF}(d:∀x∈l,0<=x/\x<(n:Int))(q:l.Nodup):fL w X l=sa w (ga n l) X n:=by
 have h:∀k,k<=ii l->fL w X (l.take k)=sa w (ga n (l.take k)) X n:=by
  intro k
  induction k with
  |zero=>
   intro _;refine ez (n:=w) (by simp[fL,aO]) (iu a b _ n (qn _)) λj _=>?_;rw[gN a b _ j n (qn _),fE _ _ n λi _=>by simp only[vQ,ga,wE];exact cm n i];simp only[vQ,fL,wE];exact cm w j
  |succ k ih=>
   intro r;have o:=d _ (qg (show k<ii l by omega));have p:=pK a b d k i4;rw[zI i4,Ei,PH,ih i4];refine ez (n:=w) ?_ (iu a b _ n (qn _)) λj _=>?_
   ·rw[bT (by rw[cl a,iu a b _ n (qn _)])];exact iu a b _ n (qn _)
   ·rw[cG (by rw[cl a,iu a b _ n (qn _)]),gN a b _ j n (qn _),gN a b _ j n (qn _)];have g:l[k]∉l.take k:=λm=>by
     have e:l=l.take k++l[k]::l.drop (k+1):=by rw[<-List.drop_eq_getElem_cons i4,qA]
     rw[e,List.nodup_append]at q;exact q.2.2 _ m _ List.mem_cons_self i0
    have h0:aP (ga n (l.take k)) l[k].toNat=0:=by
     rw[Eh _ λx o=>d x (zD o),g0];intro m;apply g;have:((l[k].toNat:Nat):Int)=l[k]:=i4
     rwa [this]at m
    rw[KB (f:=λi=>aP (ga n (l.take k)) i) (c:=l[k].toNat) h0 (λi=>Oj (by rw[rX];omega)) n,f9 i4,Gf.one_mul]
 have:=h l.length (qn _)
 rwa [qi (qn _)]at this
open Go Go.Vc
def im(K H w:Nat)(d:Row):aQ:=qh H (aO w)++(qE K).map (Gv d w)
def fd(p:Int×Int×Int)(seed:Int)(d:Row):aQ:=fX (bS p).toNat (dH p seed (fc p)) (im p.1.toNat p.2.1.toNat p.2.2.toNat d)
structure ca (p:Int×Int×Int) (seed:Int) (d:Row) (K H w n:Nat):Prop where
 may:bI p=eL
 full:fJ p seed (fc p)=eL
 k:p.1=K
 h:p.2.1=H
 s:p.2.2=w
 n:n=K+H
 k1:1<=K
 k2:K<=16
 h1:1<=H
 h2:H<=4
 w1:1<=w
 w2:w<=24
 len:ii d=K*w
theorem aeD{p:Int×Int×Int}{seed:Int}{d:Row}(b:bI p=eL)(e:fJ p seed (fc p)=eL)(a:(ii d:Int)=p.1*p.2.2):∃K H w n,ca p seed d K H w n:=by
 have:=(ce p).1 b;refine⟨p.1.toNat,p.2.1.toNat,p.2.2.toNat,p.1.toNat+p.2.1.toNat,b,e,i4,i4,i4,i0,i4,i4,i4,i4,i4,i4,?_⟩;have c:p.1=(p.1.toNat:Int):=i4
 have e2:p.2.2=(p.2.2.toNat:Int):=i4
 rw[c,e2,<-Int.natCast_mul]at a;exact Int.ofNat.inj a
section
variable {p:Int×Int×Int} {seed:Int} {d:Row} {K H w n:Nat}
theorem ca.cS(B:ca p seed d K H w n):bS p=n:=by rw[oH B.may,B.k,B.h,B.n];rfl
theorem ca.pL(B:ca p seed d K H w n):(bS p).toNat=n:=by rw[B.cS];rfl
theorem XY(a:p.1=(K:Int))(h:K<=16):fc p=upto K:=by rw[fc];congr 1;omega
theorem Vp(h:K<=16):(upto K).filter bV=upto K:=by rw[List.filter_eq_self];intro x b;simp[upto]at b;obtain⟨a,c,rfl⟩:=b;simp[bV];omega
theorem ca.Sq(B:ca p seed d K H w n):dH p seed (fc p)=bD K H++(qE K).map λi:Nat=>oC n seed (i:Int):=by rw[dH,f9 B.may,XY B.k B.k2,Vp B.k2,B.k,B.h,B.pL,ql,ql,upto,List.map_map];rfl
theorem ca.GL(B:ca p seed d K H w n):ii (dH p seed (fc p))=n:=by rw[B.Sq,qx,qy,zA,bD,qy,zA,B.n];omega
theorem ca.Jc(B:ca p seed d K H w n):aZ n (dH p seed (fc p)):=by
 have:=mQ p seed (fc p)
 rwa [B.pL]at this
theorem ca.Ol(B:ca p seed d K H w n):bW (dH p seed (fc p))=n:=by have h:=B.full;rw[fJ,B.may,B.cS,Ef]at h;simp at h;exact Int.ofNat.inj h
theorem GM(K H w:Nat)(d:Row):ii (im K H w d)=K+H:=by simp[im];omega
theorem uI(c:ii d=K*w):aZ w (im K H w d):=λr b=>by
 rcases qz.1 b with h|h
 ·rw[(List.mem_replicate.1 h).2];simp[aO]
 ·obtain⟨i,a,rfl⟩:=qw.1 h;rw[List.mem_range]at a;exact afu (by rw[c];exact Nat.mul_le_mul_right w a)
theorem aak{i:Nat}(a:i<H):aD (im K H w d) i=aO w:=by rw[aD,im,qe,qm j7];simp[a]
theorem XZ{i:Nat}(a:i<K):aD (im K H w d) (H+i)=Gv d w i:=by rw[aD,im,qe,qj i9];simp[a]
theorem ca.Fg(B:ca p seed d K H w n):fd p seed d=fX n (dH p seed (fc p)) (im K H w d):=by rw[fd,B.pL,B.k,B.h,B.s];rfl
theorem ca.lens(B:ca p seed d K H w n):ii (dH p seed (fc p))=ii (im K H w d):=by rw[B.GL,GM,B.n]
theorem ca.sX(B:ca p seed d K H w n):ii (fd p seed d)=n/\aZ w (fd p seed d):=by rw[B.Fg];exact vg B.lens B.Jc (uI B.len) B.Ol
theorem ca.ft(B:ca p seed d K H w n):ft n w (dH p seed (fc p)) (im K H w d) (fd p seed d):=by rw[B.Fg];exact pJ B.lens B.Jc (uI B.len) B.Ol (Vn B.lens B.Jc (uI B.len) B.GL)
theorem ca.agU(B:ca p seed d K H w n){i:Nat}(a:i<H):aD (dH p seed (fc p)) i=lO K H i:=by rw[B.Sq,aD,qe,qm (by simpa[bD]using a)];simp[bD,a]
theorem ca.afD(B:ca p seed d K H w n){i:Nat}(a:i<K):aD (dH p seed (fc p)) (H+i)=oC n seed (i:Int):=by rw[B.Sq,aD,qe,qj (by simp[bD])];simp[bD,a]
theorem ca.low(B:ca p seed d K H w n){i:Nat}(a:i<H):sa w (lO K H i) (fd p seed d) n=aO w:=by
 have:=B.ft.2.2 i (by rw[B.GL,B.n];omega)
 rwa [B.agU a,aak a]at this
theorem ca.high(B:ca p seed d K H w n){i:Nat}(a:i<K):sa w (oC n seed (i:Int)) (fd p seed d) n=Gv d w i:=by
 have:=B.ft.2.2 (H+i) (by rw[B.GL,B.n];omega)
 rwa [B.afD a,XZ a]at this
theorem ca.n1(B:ca p seed d K H w n):1<=n:=by have:=B.n;have:=B.k1;omega
theorem ca.n2(B:ca p seed d K H w n):n<=20:=by have:=B.n;have:=B.k2;have:=B.h2;omega
theorem ca.sym(B:ca p seed d K H w n)(id:Int):fL w (fd p seed d) (dj n seed id)=sa w (oC n seed id) (fd p seed d) n:=
 afC B.sX.2 B.sX.1 (λ_ a=>mM B.n1 B.n2 a) (Eg B.n1 B.n2 seed id)
theorem ca.acX(B:ca p seed d K H w n){i:Nat}(a:i<K):fL w (fd p seed d) (dj n seed (i:Int))=Gv d w i:=by rw[B.sym,B.high a]
theorem ca.aal(B:ca p seed d K H w n)(id:Int):ii (fL w (fd p seed d) (dj n seed id))=w:=
 WY B.sX.2 B.sX.1 λ_ a=>mM B.n1 B.n2 a
end
end Wl
namespace Go.Vc
open Go
theorem Vq{α:Type}{c k:Nat}{f:α->be}:∀{rs:List Sl} {ll:List (List α)} (a:List Sl) (b:List (List α)),ii rs=ii ll->bM c k f (rs++a) (ll++b)=bM c k f rs ll++bM c k f a b:=by intro rs ll a b h;unfold bM;exact List.zipWith_append h
theorem aa.acY{B:aB}{a h:Heap}{X:HP}:∀{L M:List HP},aa B a h (L++X::M)->aa B a h (L++M):=λ{L M} H=>by
 have:=H.del L.length
 rwa [List.eraseIdx_append_of_length_le (qn _),zc,List.eraseIdx_cons_zero]at this
section
variable {α:Type} {C:Ctx} {B:aB} {h0 h h':Heap} {As:List HP} {e e2 k t t2 by_:Nat} {s s2:Sl} {f:α->be} {ll l2:List (List α)}
theorem aa.afE(v:C.Ok)(H:aa B h0 h (gy e s e2 k f ll::gy e s2 e2 k f l2::As))(F:bL C.toCM t e 1 [.slice none 0 0] 24)(u:∃i e2,C.T.get t2=some i/\i.cT=.slice e2)(E:ii ll+ii l2<=2^32){ty:Nat}{K:Sl->Heap->Prop}
  (G:∀d h',aa B h0 h' (gy e d e2 k f (ll++l2)::As)->K d h'):
  az C.P (Builtin.append_ #[t,t2] ty #[.slice s.ptr s.len s.cap,.slice s2.ptr s2.len s2.cap]) (.one (.sc .slc)) h K:=by
 obtain⟨rs,o,n⟩:=H.IQ;obtain⟨c,j⟩:∃c,c=bM e2 k f rs ll:=⟨_,rfl⟩
 rw[<-j]at n;have D:aa B h0 h (gy e s2 e2 k f l2::(As++(aq e s 1 bt rs::c))):=n.front;obtain⟨a,m,q⟩:=D.IQ;obtain⟨L2,g⟩:∃L2,L2=bM e2 k f a l2:=⟨_,rfl⟩
 rw[<-g]at q;have r:=q.front;rw[List.append_assoc]at r;have z:=r.front;have p:aa B h0 h (aq e s 1 bt rs::(c++(aq e s2 1 bt a::(L2++As)))):=by
  have y:(aq e s 1 bt rs::c++(aq e s2 1 bt a::L2))++As=aq e s 1 bt rs::(c++(aq e s2 1 bt a::(L2++As))):=i9
  rw[<-y];exact z
 have x:Seq h (λb=>b<h.size) s2 1 bt a:=p.seq (ii c+1) (by rw[List.getElem?_cons_succ,qj (qn _),zc];rfl) λ_=>rfl;refine p.append v 0 i0 F u i0 i5 (λ_=>rfl) x iU i4 λd h' l=>G d h' ?_;have l:aa B h0 h' ((aq e d 1 bt (rs++a)::c)++(aq e s2 1 bt a::(L2++As))):=l;have A:=aa.acY l;refine aa.LG (rs:=rs++a) (by simp[o,m]) ?_;rw[Vq a l2 o,<-j,<-g];have w:(aq e d 1 bt (rs++a)::(c++L2))++As=(aq e d 1 bt (rs++a)::c)++(L2++As):=i9
 rw[w];exact A
end
abbrev gO:=FloatKind.format .f64
theorem GN{P:Program}{a b c:Nat}(h:gO.add a b=some c):aH P (Op.Complex.arith .add .f64 a b) c:=λw=>by
 have h':(FloatKind.format .f64).add a b=some c:=h;unfold Op.Complex.arith Op.floatArith;simp only[h'];rfl
theorem GO{P:Program}{a b c:Nat}(h:gO.sub a b=some c):aH P (Op.Complex.arith .sub .f64 a b) c:=λw=>by
 have h':(FloatKind.format .f64).sub a b=some c:=h;unfold Op.Complex.arith Op.floatArith;simp only[h'];rfl
theorem Bz{P:Program}{a b c:Nat}(h:gO.mul a b=some c):aH P (Op.Complex.arith .mul .f64 a b) c:=λw=>by
 have h':(FloatKind.format .f64).mul a b=some c:=h;unfold Op.Complex.arith Op.floatArith;simp only[h'];rfl
theorem Cj{P:Program}{op:BinOp}(h:op=.add∨op=.sub∨op=.mul)(t:TypeId)(x y:Operand)(a b:Value):aH P (eqGuard op t x y a b) ():=λw=>by
 rcases h with rfl|rfl|rfl<;>rfl
theorem afF{P:Program}{t:TypeId}{x y:Operand}{a b c d e f:Nat}(h:gO.add a c=some e)(g:gO.add b d=some f):ke P .add t x y (.complex .f64 a b) (.complex .f64 c d) (.complex .f64 e f):=
 (Cj (.inl i0) t x y _ _).bind (show aH P (Op.complexOp .add .f64 a b c d) _ from(GN h).bind ((GN g).bind λ_=>rfl))
theorem afG{P:Program}{t:TypeId}{x y:Operand}{a b c d e f:Nat}(h:gO.sub a c=some e)(g:gO.sub b d=some f):ke P .sub t x y (.complex .f64 a b) (.complex .f64 c d) (.complex .f64 e f):=
 (Cj (.inr (.inl i0)) t x y _ _).bind (show aH P (Op.complexOp .sub .f64 a b c d) _ from(GO h).bind ((GO g).bind λ_=>rfl))
theorem afH{P:Program}{t:TypeId}{x y:Operand}{a b c d e f k h i j:Nat}(o:gO.mul a c=some k)(l:gO.mul b d=some h)(h3:gO.sub k h=some e)(m:gO.mul a d=some i)(q:gO.mul b c=some j)(n:gO.add i j=some f):
  ke P .mul t x y (.complex .f64 a b) (.complex .f64 c d) (.complex .f64 e f):=by
 refine(Cj (.inr (.inr i0)) t x y _ _).bind ?_;have p:aH P (Op.Complex.product a b c d) (e,f):=
  (Bz o).bind ((Bz l).bind ((GO h3).bind ((Bz m).bind ((Bz q).bind ((GN n).bind λ_=>rfl)))))
 show aH P (Op.complexOp .mul .f64 a b c d) _;have g:∀x,aH P (Op.Complex.conv .f64 x .f64) x:=λx w=>by unfold Op.Complex.conv;rw[f9 rfl];rfl
 unfold Op.complexOp;refine(g a).bind ((g b).bind ((g c).bind ((g d).bind ?_)));refine aH.bind (v:=(e,f)) ?_ ?_
 ·exact p
 ·exact(g e).bind ((g f).bind λ_=>rfl)
end Go.Vc
