/- Lemmas for the proof of the law; no condition. -/
import Derived.Test.YtcaonbjibhlkcaaGreatDoorPlD
set_option linter.unusedVariables false
set_option linter.unusedSimpArgs false
open List renaming countP_mono_left -> vF, ext_getElem -> wi, filter_append -> zg, foldl_append -> zI, foldl_nil -> wx, getD_eq_getElem?_getD -> qe, getElem?_append_left -> qm, getElem?_append_right -> qj, getElem?_eq_getElem -> qd, getElem?_eq_none -> za, getElem?_map -> qO, getElem?_set -> qV, getElem?_take -> y0, getElem_drop -> wm, getElem_mem -> qh, getElem_of_mem -> qE, length_append -> qw, length_drop -> qZ, length_map -> qD, length_range -> zy, length_take -> qM, mem_append -> qF, mem_cons -> q8, mem_map -> qC, mem_of_mem_take -> zP, mem_range -> qI, mem_singleton -> qG, range -> qy, replicate -> qg, take_append_drop -> qx, take_of_length_le -> qi, take_succ_eq_append_getElem -> zw, take_zero -> vY
open Bool renaming or_eq_true -> wv
open Go.Builtin renaming clear_ -> yU, zeroCells -> yp
open UInt8 renaming lt_iff_toNat_lt -> zR, xor_zero -> z6, zero_xor -> z7
open Nat renaming le_refl -> ql, lt_succ_iff_lt_or_eq -> zb, sub_self -> zd
open Int renaming toNat_natCast -> qp
namespace Wl
open Go
def cE(o b t:Int):Int:=(128*o+16*b+t)%4294967296
def dv(m:aD)(r:cV):Bool:=iC r&&(decide (r.p=m.p)&&m.aL.any fun x=>decide (x.object=r.object)&&(decide (r.block<(x.tries.length:Int))&&decide (r.seed=cE r.object r.block (x.tries.getD r.block.toNat 0))))
def oa(a b:cV):Bool:=decide (a.object<b.object∨(a.object=b.object/\(a.block<b.block∨(a.block=b.block/\a.id<=b.id))))
def kc(a b:cV):Bool:=decide (a.object=b.object/\a.block=b.block/\a.id=b.id)
def Ai:cV:=⟨0,0,0,(0,0,0),0,[]⟩
def oV(l:List cV)(k:Nat):Bool:=decide (k=0)||!kc (l.getD k Ai) (l.getD (k-1) Ai)
def oW(l:List cV):List cV:=((qy l.length).filter (oV l)).map fun i=>l.getD i Ai
def dP(m:aD)(c:aU):Option cV:=match cP c with|some r=>if dv m r then some r else none|none=>none
def jm(m:aD)(l:cv):List cV:=oW ((l.filterMap (dP m)).mergeSort oa)
theorem aas:Ord oa:=⟨fun a b c e d=>by
 unfold oa at*;rw[decide_eq_true_eq]at*;omega,fun a b=>by
 unfold oa;rw[wv,decide_eq_true_eq,decide_eq_true_eq];omega⟩
theorem Vr(m:aD)(l:cv)(i:Nat)(a:i<l.length):(l.take (i+1)).filterMap (dP m)=(l.take i).filterMap (dP m)++(dP m l[i]).toList:=by
 have:l.take (i+1)=l.take i++[l[i]]:=by rw[List.take_add_one,qd a];rfl
 rw[this,List.filterMap_append];cases hg:dP m l[i]with
 |none=>simp[hg]
 |some r=>simp[hg]
end Wl
namespace Go.Vc
open Go
section
variable {B:aA} {α:Type} {C:Ctx} {h0 h:Heap} {As:List HP} {e t k by_:Nat} {s:Sl} {f:α->aV} {l:List α} {z:aV}
theorem DK(z:aV)(n:Nat):(yp z.toArray n).toList.length=n*z.length:=by
 simp[yp]
theorem Og{z:aV}(d:∀v∈z,v.oneCell'=true)(n:Nat):∀v∈(yp z.toArray n).toList,v.oneCell'=true:=by
 intro v c;simp only[yp,Array.toList_map,qC,Array.mem_toList_iff,Array.mem_range]at c;obtain⟨i,b,rfl⟩:=c;simp only[List.size_toArray]at b⊢;have h0:0<z.length:=by
  rcases Nat.eq_zero_or_pos z.length with h|h
  ·rw[h]at b;simp at b
  ·exact h
 have a:=Nat.mod_lt i h0;rw[getElem!_pos z.toArray _ (by simpa using a)];exact d _ (by simp)
theorem Own.rR(y:C.Ok)(o:Own h e s k f l)(A:bN C.toBq t e k z by_)(i:∀x,(f x).length=k)(B:z.length=k)(d:∀v∈z,v.oneCell'=true)(j:Nat)(w:j<=l.length){ty:Nat}{K:Heap->Prop}
  (u:∀h',Own h' e ⟨s.ptr,j,s.cap⟩ k f (l.take j)->aR (fun b=>¬s.on b) h h'->K h'):
  ae C.P (yU #[t] ty #[.slice (if s.cap=j then s.ptr else s.ptr.map (·.add (j*k))) (s.len-j) (s.cap-j)]) h fun _ h'=>K h':=by
 have N:=o.len;have c:=o.cut i j w;unfold yU;refine ae.bind (ae.always (aI (A.under y)) ?_);by_cases r:j=l.length
 ·have E:s.len-j=0:=by omega
  rw[E];generalize (if s.cap=j then s.ptr else s.ptr.map (·.add (j*k)))=q;cases q with
  |none=>exact ae.pure' (u h c (aR.refl _ _))
  |some a=>exact ae.pure' (u h c (aR.refl _ _))
 ·rcases o.head with⟨h1,h2,h3⟩|⟨b,rest,h1,h2,h3,h4⟩
  ·subst h3;simp at w r;omega
  ·have g:s.cap≠j:=by omega
   rw[if_neg g,h1];obtain⟨m,I⟩:∃m,s.len-j=m+1:=⟨s.len-j-1,by omega⟩
   rw[I];obtain⟨R,T,S,O,G,U,D,Q⟩:=A.ex;obtain⟨M,F,L⟩:=rp y.toOk G;refine ae.bind (ae.always F ?_);have p:M.cells=z.toArray:=by apply Array.ext';rw[L,D]
   rw[p];refine ae.bind ?_;have J:((⟨b,0,none⟩:Addr).add (j*k))=⟨b,j*k,none⟩:=by simp[add_eq]
   show ae C.P (storeCells ((⟨b,0,none⟩:Addr).add (j*k)) (yp z.toArray (m+1)).toList) h _;rw[J];have n:(l.drop j).length=m+1:=by simp;omega
   refine db (e:=e) (pre:=(l.take j).flatMap f) (old:=(l.drop j).flatMap f) (post:=rest) ?_ ?_ ?_ (Og d _) ?_
   ·rw[<-List.flatMap_append,qx];exact h2
   ·rw[cF i,n,DK,B]
   ·rw[cF i,qM,Nat.min_eq_left (by omega)];omega
   ·refine ae.pure' (u _ ⟨by simp;omega,.inr ⟨b,(yp z.toArray (m+1)).toList++rest,h1,?_,?_,by dsimp only;omega⟩⟩ ?_)
    ·rw[fA h2,if_pos rfl];simp
    ·rw[qw,DK,B,h3,<-Nat.add_mul];dsimp only;congr 1;omega
    ·exact aR.gx h2 fun H=>H ⟨0,h1⟩
theorem aa.rR(p:C.Ok)(H:aa B h0 h As)(i:Nat)(m:As[i]?=some (an e s k f l))(r:bN C.toBq t e k z by_)(n:∀x,(f x).length=k)(u:z.length=k)(a:∀v∈z,v.oneCell'=true)(j:Nat)(o:j<=l.length){ty:Nat}{K:Heap->Prop}
  (w:∀h',aa B h0 h' (As.set i (an e ⟨s.ptr,j,s.cap⟩ k f (l.take j)))->K h'):
  ae C.P (yU #[t] ty #[.slice (if s.cap=j then s.ptr else s.ptr.map (·.add (j*k))) (s.len-j) (s.cap-j)]) h fun _ h'=>K h':=
 (H.own i m).rR p r n u a j o fun h' x y=>w h' (H.step i m fun q g _=>⟨y.mono fun b _ c d=>c (g.2 b d),x,fun b c=>⟨x.lt c,.inl (g.2 b c)⟩⟩)
end
end Go.Vc
namespace Wl
open Go
theorem OX:∀x y:aU,(Op.bytesLess x y||x==y)=!Op.bytesLess y x
 |[],[]=>rfl
 |[],_::_=>rfl
 |_::_,[]=>by simp[Op.bytesLess]
 |a::x,b::y=>by
  have f:=OX x y;have d:a<b∨a=b∨b<a:=by
   rcases Nat.lt_trichotomy a.toNat b.toNat with h|h|h
   ·exact .inl (zR.2 h)
   ·exact .inr (.inl (UInt8.toNat_inj.1 h))
   ·exact .inr (.inr (zR.2 h))
  rcases d with h|rfl|h
  ·have c:¬b<a:=fun h'=>by have:=zR.1 h;have:=zR.1 h';omega
   have e:b≠a:=fun h'=>by subst h';exact c h
   simp[Op.bytesLess,h,c,e]
  ·have c:¬a<a:=fun h'=>by have:=zR.1 h';omega
   simp only[Op.bytesLess,c,decide_false,Bool.false_or,beq_self_eq_true,Bool.true_and];rw[<-f];congr 1;simp
  ·have c:¬a<b:=fun h'=>by have:=zR.1 h;have:=zR.1 h';omega
   have e:a≠b:=fun h'=>by subst h';exact c h
   simp[Op.bytesLess,h,c,e]
theorem Ha:∀x y z:aU,Op.bytesLess x y=true->Op.bytesLess y z=true->Op.bytesLess x z=true
 |x,[],_,h1,_=>by cases x<;>simp[Op.bytesLess]at h1
 |_,b::y,[],_,h2=>by simp[Op.bytesLess]at h2
 |[],_::_,_::_,_,_=>rfl
 |a::x,b::y,c::z,h1,h2=>by
  simp only[Op.bytesLess,wv,decide_eq_true_eq,Bool.and_eq_true,beq_iff_eq]at h1 h2⊢;rcases h1 with h1|⟨rfl,h1⟩
  ·rcases h2 with h2|⟨rfl,h2⟩
   ·exact .inl (zR.2 (by have:=zR.1 h1;have:=zR.1 h2;omega))
   ·exact .inl h1
  ·rcases h2 with h2|⟨rfl,h2⟩
   ·exact .inl h2
   ·exact .inr ⟨rfl,Ha x y z h1 h2⟩
theorem XH(x:aU):Op.bytesLess x x=false:=by
 have:=OX x x;cases h:Op.bytesLess x x with
 |false=>rfl
 |true=>rw[h]at this;simp at this
def je(a b:ByteArray):Bool:=!eG b a
theorem JK(a b:ByteArray):je a b=true↔eG a b=true∨a.toList=b.toList:=by
 unfold je eG;rw[<-OX,wv,beq_iff_eq]
theorem Ff(a b c:ByteArray)(e:je a b=true)(d:je b c=true):je a c=true:=by
 rw[JK]at e d⊢;unfold eG at*;rcases e with e|e
 ·rcases d with d|d
  ·exact .inl (Ha _ _ _ e d)
  ·rw[<-d];exact .inl e
 ·rw[e];exact d
theorem Fg(a b:ByteArray):(je a b||je b a)=true:=by
 unfold je;cases h:eG b a with
 |false=>rfl
 |true=>
  have:eG a b=false:=by
   cases h2:eG a b with
   |false=>rfl
   |true=>
    have:=Ha _ _ _ h h2;rw[XH]at this;cases this
  rw[this];rfl
def tH(a b:cm):Bool:=je a.name b.name
def df(m:aD)(x:cm):aD:={m with seq:=m.seq+1,next:=m.next+1,aL:=(m.aL++[x]).mergeSort tH}
open Classical
theorem jA(a:UInt8):a^^^a=0:=UInt8.xor_self
theorem ra(a b:UInt8):(a^^^b)^^^b=a:=by rw[UInt8.xor_assoc,jA,z6]
theorem cb{c:UInt8}{a t:Row}(h:a.length=t.length)(j:Nat):aE (ck c a t) j=aE t j^^^Gf.mul c (aE a j):=by
 simp only[aE,ck,qe,List.getElem?_zipWith];by_cases b:j<a.length
 ·rw[qd b,qd (by omega)];rfl
 ·rw[za (by omega),za (by omega)];simp[Gf.mul_zero]
theorem rS(c:UInt8)(a:Row)(j:Nat):aE (scaleB c a) j=Gf.mul c (aE a j):=by
 simp only[aE,scaleB,qe,qO];cases a[j]? with
 |none=>simp[Gf.mul_zero]
 |some x=>rfl
def aM(n:Nat):Row:=qg n 0
theorem bU(n j:Nat):aE (aM n) j=0:=by
 simp only[aE,aM,qe,List.getElem?_replicate];split<;>rfl
theorem dZ{n:Nat}{a b:Row}(f:a.length=n)(e:b.length=n)(h:∀j,j<n->aE a j=aE b j):a=b:=by
 apply wi (by omega);intro j d c;have:=h j (by omega);simpa[aE,qe,qd d,qd c]using this
inductive Span (n:Nat) (m:aQ):Row->Prop
 |zero:Span n m (aM n)
 |add (c:UInt8) (r v:Row):r∈m->Span n m v->Span n m (ck c r v)
section
variable {n:Nat} {m m':aQ}
theorem Span.len(a:aY n m){v:Row}(h:Span n m v):v.length=n:=by
 induction h with
 |zero=>simp[aM]
 |add c r v hr _ ih=>rw[bK (by rw[a r hr,ih])];exact ih
theorem Span.comb(a:aY n m){u v:Row}(e:Span n m u)(b:Span n m v)(c:UInt8):Span n m (ck c u v):=by
 induction e with
 |zero=>
  have:ck c (aM n) v=v:=dZ (n:=n) (by rw[bK (by simp[aM,b.len a])];exact b.len a) (b.len a) fun j _=>by
   rw[cb (by simp[aM,b.len a]),bU,Gf.mul_zero,z6]
  rw[this];exact b
 |add d r w hr hw ih=>
  have l1:=b.len a;have l2:=hw.len a;have f:=a r hr;have:ck c (ck d r w) v=ck (Gf.mul c d) r (ck c w v):=dZ (n:=n) (by rw[bK (by rw[bK (by omega)];omega)];exact l1) (by rw[bK (by rw[bK (by omega)];omega),bK (by omega)];exact l1) fun j _=>by
   rw[cb (by rw[bK (by omega)];omega),cb (by omega),cb (by rw[bK (by omega)];omega),cb (by omega),Gf.iY,Gf.mul_assoc]
   ac_rfl
  rw[this];exact .add _ _ _ hr ih
theorem Span.row(b:aY n m){r:Row}(a:r∈m):Span n m r:=by
 have:=Span.add 1 r _ a (.zero (n:=n) (m:=m));have e:ck 1 r (aM n)=r:=dZ (n:=n) (by rw[bK (by simp[aM,b r a])];simp[aM]) (b r a) fun j _=>by
  rw[cb (by simp[aM,b r a]),bU,Gf.one_mul,z7]
 rwa [e]at this
theorem Span.sub(b:aY n m)(h:∀r∈m',Span n m r){v:Row}(a:Span n m' v):Span n m v:=by
 induction a with
 |zero=>exact .zero
 |add c r v hr _ ih=>exact(h r hr).comb b ih c
theorem Span.mono(h:∀r∈m',r∈m){v:Row}(a:Span n m' v):Span n m v:=by
 induction a with
 |zero=>exact .zero
 |add c r v hr _ ih=>exact .add c r v (h r hr) ih
theorem Span.XI(d:aY n m)(φ:Row->UInt8)(g:φ (aM n)=0)(f:∀c a t,a.length=n->t.length=n->φ (ck c a t)=φ t^^^Gf.mul c (φ a))(e:∀r∈m,φ r=0){v:Row}(b:Span n m v):φ v=0:=by
 induction b with
 |zero=>exact g
 |add c r v hr' b ih=>rw[f c r v (d r hr') (b.len d),ih,e r hr',Gf.mul_zero,z6]
end
def oX(S:Row->Prop)(j:Nat):Prop:=∃v,S v/\(∀i,i<j->aE v i=0)/\aE v j≠0
noncomputable def leads(S:Row->Prop)(n:Nat):Nat:=(qy n).countP fun j=>decide (oX S j)
structure Way (n:Nat) (m:aQ) (c top:Nat) (rows:aQ):Prop where
 even:aY n rows
 len:rows.length=m.length
 tle:top<=rows.length
 span:∀v,Span n rows v↔Span n m v
 cnt:top=leads (Span n m) c
 piv:∃p:Nat->Nat,(∀i,i<top->p i<c)/\(∀i,i<top->∀k,k<rows.length->aE (av rows k) (p i)=if k=i then 1 else 0)/\(∀i,i<top->∀j,j<p i->aE (av rows i) j=0)/\(∀i j,i<j->j<top->p i<p j)
 low:∀k,top<=k->k<rows.length->∀j,j<c->aE (av rows k) j=0
theorem mem_row{m:aQ}{i:Nat}(h:i<m.length:=by omega):av m i∈m:=by rw[bj h];exact qh h
theorem fv{m:aQ}{r:Row}(h:r∈m):∃i,i<m.length/\r=av m i:=by
 obtain⟨i,a,rfl⟩:=qE h;exact⟨i,a,(bj a).symm⟩
theorem kj{m:aQ}{i j:Nat}{r:Row}(a:i<m.length:=by omega):av (m.set i r) j=if i=j then r else av m j:=by
 simp only[av,qe,qV];by_cases h:i=j
 ·subst h;simp[a]
 ·simp[h]
theorem uI{m:aQ}{i j k:Nat}(d:i<m.length)(c:j<m.length):av (fM m i j) k=if k=j then av m i else if k=i then av m j else av m k:=by
 rw[fM,kj (by simpa using c),kj d];by_cases b:j=k
 ·rw[if_pos b,if_pos b.symm]
 ·rw[if_neg b,if_neg (show¬k=j from fun h=>b h.symm)];by_cases a:i=k
  ·rw[if_pos a,if_pos a.symm]
  ·rw[if_neg a,if_neg (show¬k=i from fun h=>a h.symm)]
theorem CK{m:aQ}{t c k:Nat}(a:t<m.length):av (il t c m) k=if t=k then scaleB (Gf.inv (aE (av m t) c)) (av m t)else av m k:=by
 rw[il,kj a]
section
variable {n:Nat} {m:aQ}
theorem XJ(l:aY n m){i j:Nat}(b:i<m.length)(a:j<m.length)(v:Row):Span n (fM m i j) v↔Span n m v:=by
 refine⟨Span.mono fun r d=>?_,Span.mono fun r d=>?_⟩
 ·obtain⟨k,c,rfl⟩:=fv d;rw[jz]at c;rw[uI b a];split
  ·exact mem_row b
  ·split
   ·exact mem_row a
   ·exact mem_row c
 ·obtain⟨k,c,rfl⟩:=fv d;have e:∀x,x<m.length->av (fM m i j) x∈fM m i j:=fun x h=>mem_row (by rw[jz];exact h);by_cases f:k=i
  ·subst f;have:=e j a;rw[uI b a,if_pos rfl]at this;exact this
  ·by_cases g:k=j
   ·subst g;have:=e i b;rw[uI b a]at this;by_cases h3:i=k
    ·exact absurd h3.symm f
    ·rw[if_neg h3,if_pos rfl]at this;exact this
   ·have:=e k c;rw[uI b a,if_neg g,if_neg f]at this;exact this
theorem XK(g:aY n m){t c:Nat}(b:t<m.length)(i:aE (av m t) c≠0)(v:Row):Span n (il t c m) v↔Span n m v:=by
 have a:=rP g (c:=c) b;have f:=bP g b;have p:∀(x:UInt8) (r:Row),r.length=n->scaleB x r=ck x r (aM n):=fun x r d=>dZ (n:=n) (by rw[rO,d]) (by rw[bK (by simp[aM,d])];simp[aM]) fun j _=>by
  rw[rS,cb (by simp[aM,d]),bU,z7]
 refine⟨Span.sub g fun r d=>?_,Span.sub a fun r d=>?_⟩
 ·obtain⟨k,h,rfl⟩:=fv d;rw[lP]at h;rw[CK b];split
  ·rw[p _ _ f];exact .add _ _ _ (mem_row b) .zero
  ·exact Span.row g (mem_row h)
 ·obtain⟨k,h,rfl⟩:=fv d;have e:∀x,x<m.length->Span n (il t c m) (av (il t c m) x):=fun x s=>Span.row a (mem_row (by rw[lP];exact s));by_cases l:t=k
  ·subst l;have:=e t b;rw[CK b,if_pos rfl]at this;have o:=this.comb a .zero (aE (av m t) c);have q:ck (aE (av m t) c) (scaleB (Gf.inv (aE (av m t) c)) (av m t)) (aM n)=av m t:=dZ (n:=n) (by rw[bK (by simp[aM,rO,f])];simp[aM]) f fun j _=>by
    rw[cb (by simp[aM,rO,f]),bU,z7,rS,<-Gf.mul_assoc,Gf.ul i,Gf.one_mul]
   rw[q]at o;exact o
  ·have:=e k h;rw[CK b,if_neg l]at this;exact this
theorem XL(d:aY n m){t c:Nat}(g:t<m.length)(v:Row):Span n (cI t c m m.length) v↔Span n m v:=by
 have b:=Ag d (c:=c) (k:=m.length) g;have s:=bP d g;refine⟨Span.sub d fun r i=>?_,Span.sub b fun r i=>?_⟩
 ·obtain⟨k,a,rfl⟩:=fv i;rw[lQ]at a;rw[lR a];split
  ·exact .add _ _ _ (mem_row g) (Span.row d (mem_row a))
  ·exact Span.row d (mem_row a)
 ·obtain⟨k,a,rfl⟩:=fv i;have e:∀x,x<m.length->Span n (cI t c m m.length) (av (cI t c m m.length) x):=fun x q=>Span.row b (mem_row (by rw[lQ];exact q));have h:=e t g;rw[lR g,if_neg (by simp)]at h;by_cases l:k=t
  ·subst l;exact h
  ·have o:=e k a;rw[lR a,if_pos ⟨a,l⟩]at o;have h3:=h.comb b o (aE (av m k) c);have f:=bP d a;have p:ck (aE (av m k) c) (av m t) (ck (aE (av m k) c) (av m t) (av m k))=av m k:=dZ (n:=n) (by rw[bK (by rw[bK (by omega)];omega),bK (by omega)];exact f) f fun j _=>by
    rw[cb (by rw[bK (by omega)];omega),cb (by omega),ra]
   rw[p]at h3;exact h3
def bG(f g:Nat->UInt8):Nat->UInt8
 |0=>0
 |k+1=>bG f g k^^^Gf.mul (f k) (g k)
theorem fk(f g:Nat->UInt8):∀k,(∀i,i<k->f i=0)->bG f g k=0
 |0,_=>rfl
 |k+1,h=>by rw[bG,fk f g k fun i a=>h i (by omega),h k (by omega),Gf.zero_mul];rfl
theorem Hb(f g:Nat->UInt8)(x:Nat):∀k,x<k->(∀i,i<k->f i=if x=i then 1 else 0)->bG f g k=g x
 |0,hx,_=>by omega
 |k+1,hx,h=>by
  rw[bG];by_cases a:x=k
  ·subst a;rw[fk f g x fun i b=>by rw[h i (by omega),if_neg (by omega)],h x (by omega),if_pos rfl,Gf.one_mul,z7]
  ·rw[Hb f g x k (by omega) fun i b=>h i (by omega),h k (by omega),if_neg a,Gf.zero_mul,z6]
theorem Hd(a b g:Nat->UInt8)(c:UInt8):∀k,bG (fun i=>a i^^^Gf.mul c (b i)) g k=bG a g k^^^Gf.mul c (bG b g k)
 |0=>by simp[bG,Gf.mul_zero]
 |k+1=>by
  rw[bG,bG,bG,Hd a b g c k,Gf.iY,Gf.Ui,Gf.mul_assoc]
  ac_rfl
theorem JL(S:Row->Prop)(c:Nat):leads S (c+1)=leads S c+if oX S c then 1 else 0:=by
 simp only[leads,List.range_succ,List.countP_append,List.countP_cons,List.countP_nil];by_cases h:oX S c<;>simp[h]
theorem XM(c:aY n m):Way n m 0 0 m:=⟨c,rfl,by omega,fun _=>Iff.rfl,by simp[leads],⟨fun _=>0,fun i a=>by omega,fun i a=>by omega,fun i a=>by omega,fun i j _ b=>by omega⟩,fun k _ _ j b=>by omega⟩
theorem aat(hm:aY n m){c b:Nat}{rows:aQ}(w:Way n m c b rows)(hc:c<n):Way n m (c+1) (fY (b,rows) c).1 (fY (b,rows) c).2:=by
 obtain⟨G,R,ax,Y,L,⟨p,O,p2,p3,p4⟩,g⟩:=w;have hS:∀v,Span n rows v↔Span n m v:=Y;have X:Span n rows=Span n m:=funext fun v=>propext (hS v);unfold fY;dsimp only;cases hb:gq rows b c with
 |none=>
  have U:=SB hb;dsimp only;have ap:¬oX (Span n m) c:=by
   rw[<-X];rintro⟨v,hv,hz,ad⟩;apply ad;have hφ:=Span.XI G (fun v=>aE v c^^^bG (fun i=>aE v (p i)) (fun i=>aE (av rows i) c) b) (by
     simp only[bU];rw[fk _ _ _ fun i _=>rfl];rfl) (fun x a t ha ht=>by
     simp only[cb (show a.length=t.length by omega)];rw[Hd,Gf.iY];ac_rfl) (fun r hr=>by
     obtain⟨k,H,rfl⟩:=fv hr;by_cases Q:k<b
     ·rw[Hb _ _ k b Q fun i E=>by rw[p2 i E k H]];exact jA _
     ·rw[U k (by omega) H,fk _ _ _ fun i E=>by rw[p2 i E k H,if_neg (by omega)]];rfl) hv
   rw[fk _ _ _ fun i E=>hz _ (O i E),z6]at hφ;exact hφ
  refine⟨G,R,ax,Y,by rw[JL,if_neg ap,L];rfl,⟨p,fun i E=>by have:=O i E;omega,p2,p3,p4⟩,fun k A B j d=>?_⟩;rcases zb.1 d with h|rfl
  ·exact g k A B j h
  ·exact U k A B
 |some at_=>
  have hh:=mZ hb;obtain⟨h1,S,h3⟩:=hh;dsimp only;have q:b<rows.length:=by omega
  obtain⟨f,u⟩:∃f,f=fM rows b at_:=⟨_,rfl⟩
  have l1:f.length=rows.length:=by rw[u,jz]
  have V:aY n f:=by rw[u];exact Af G q S
  have q1:∀k,av f k=if k=at_ then av rows b else if k=b then av rows at_ else av rows k:=fun k=>by rw[u,uI q S]
  have T:av f b=av rows at_:=by
   rw[q1];by_cases h:b=at_
   ·rw[if_pos h,h]
   ·rw[if_neg h,if_pos rfl]
  have I:aE (av f b) c≠0:=by rw[T];exact h3
  obtain⟨s,y⟩:∃s,s=il b c f:=⟨_,rfl⟩
  have l2:s.length=rows.length:=by rw[y,lP,l1]
  have D:aY n s:=by rw[y];exact rP V (by omega)
  have q2:∀k,av s k=if b=k then scaleB (Gf.inv (aE (av f b) c)) (av f b)else av f k:=fun k=>by rw[y,CK (by omega)]
  have ah:∀j,aE (av f b) j=0->aE (av s b) j=0:=fun j d=>by rw[q2,if_pos rfl,rS,d,Gf.mul_zero]
  have l:aE (av s b) c=1:=by rw[q2,if_pos rfl,rS,Gf.mul_comm,Gf.ul I]
  obtain⟨M,o⟩:∃M,M=cI b c s rows.length:=⟨_,rfl⟩
  have l3:M.length=rows.length:=by rw[o,lQ,l2]
  have q3:∀k,k<rows.length->∀j,aE (av M k) j=if k=b then aE (av s b) j else aE (av f k) j^^^Gf.mul (aE (av f k) c) (aE (av s b) j):=fun k H j=>by
   rw[o,lR (by omega)];by_cases h:k=b
   ·rw[if_neg (by omega),if_pos h,h]
   ·have e:=q2 k;rw[if_neg (fun hh=>h hh.symm)]at e;rw[if_pos ⟨H,h⟩,if_neg h,cb (by rw[bP D,bP D]),e]
  have W:∀j,j<c->aE (av s b) j=0:=fun j d=>ah j (by rw[T];exact g at_ h1 S j d);have keep:∀k,k<rows.length->∀j,j<c->aE (av M k) j=if k=b then 0 else aE (av f k) j:=fun k H j d=>by
   rw[q3 k H,W j d,Gf.mul_zero,z6]
  have K:∀k,k<b->av f k=av rows k:=fun k H=>by rw[q1,if_neg (by omega),if_neg (by omega)]
  have J:∀k,b<=k->k<rows.length->∀j,j<c->aE (av f k) j=0:=fun k A B j d=>by
   rw[q1];split
   ·exact g b (ql _) q j d
   ·split
    ·exact g at_ h1 S j d
    ·exact g k A B j d
  have z:∀v,Span n M v↔Span n m v:=fun v=>by
   rw[o,show rows.length=s.length by omega,XL D (by omega),y,XK V (by omega) I,u,XJ G q S,hS]
  have P:oX (Span n m) c:=⟨av M b,(z _).1 (Span.row (by rw[o];exact Ag D (by omega)) (mem_row)),fun j d=>by rw[keep b q j d,if_pos rfl],by rw[q3 b q,if_pos rfl,l];decide⟩
  have Z:cI b c (il b c (fM rows b at_)) rows.length=M:=by rw[o,y,u]
  rw[Z];refine⟨by rw[o];exact Ag D (by omega),by omega,by omega,z,by rw[JL,if_pos P,L],⟨fun i=>if i<b then p i else c,fun i E=>?_,fun i E k H=>?_,fun i E j d=>?_,fun i j am d=>?_⟩,fun k A B j d=>?_⟩
  ·dsimp only;split
   ·have:=O i (by assumption);omega
   ·omega
  ·dsimp only;by_cases hit:i<b
   ·rw[if_pos hit,keep k (by omega) _ (O i hit)];by_cases Q:k<b
    ·rw[if_neg (by omega),K k Q];exact p2 i hit k (by omega)
    ·rw[if_neg (show¬k=i by omega)];split
     ·rfl
     ·exact J k (by omega) (by omega) _ (O i hit)
   ·have N:i=b:=by omega
    subst N;rw[if_neg hit,q3 k (by omega)];by_cases F:k=i
    ·rw[if_pos F,if_pos F];exact l
    ·rw[if_neg F,if_neg F,l,Gf.mul_one];exact jA _
  ·dsimp only at d;by_cases hit:i<b
   ·rw[if_pos hit]at d;have:=O i hit;rw[keep i (by omega) j (by omega),if_neg (by omega),K i hit];exact p3 i hit j d
   ·have N:i=b:=by omega
    subst N;rw[if_neg hit]at d;rw[keep i (by omega) j d,if_pos rfl]
  ·dsimp only;rw[if_pos (show i<b by omega)];split
   ·exact p4 i j am (by assumption)
   ·exact O i (by omega)
  ·rcases zb.1 d with h|rfl
   ·rw[keep k (by omega) j h,if_neg (by omega)];exact J k (by omega) (by omega) j h
   ·rw[q3 k (by omega),if_neg (by omega),l,Gf.mul_one];exact jA _
theorem He(a:aY n m):∀c,c<=n->Way n m c (bu m c).1 (bu m c).2
 |0,_=>XM a
 |c+1,h=>by rw[bu];exact aat a (He a c (by omega)) (by omega)
theorem iD:∀c,bu [] c=(0,[])
 |0=>rfl
 |c+1=>by rw[bu,iD c];rfl
theorem kM(a:aY n m):bT m=leads (Span n m) n:=by
 rw[<-(He a n (ql _)).cnt,bT];cases m with
 |nil=>rw[iD,iD]
 |cons x t=>rw[dn,bj (by simp)];rw[show((x::t)[0]).length=n from a _ (by simp)]
end
section
variable {n:Nat} {m m':aQ}
theorem Vs{S b:Row->Prop}(h:∀v,S v->b v)(n:Nat):leads S n<=leads b n:=by
 refine vF fun j _ a=>?_;simp only[decide_eq_true_eq]at a⊢;obtain⟨v,d,c⟩:=a;exact⟨v,h v d,c⟩
theorem uJ(a:aY n m):bT m<=n:=by
 rw[kM a];have:=List.countP_le_length (p:=fun j=>decide (oX (Span n m) j)) (l:=qy n);simpa[leads]using this
theorem XN(b:aY n m)(a:aY n m')(h:∀r∈m,r∈m'):bT m<=bT m':=by
 rw[kM b,kM a];exact Vs (fun v=>Span.mono h) n
theorem XO{P Q:Nat->Bool}(l:List Nat)(d:l.Nodup)(h:∀a∈l,P a=true->Q a=true)(e:∀a∈l,∀b∈l,Q a=true->P a=false->Q b=true->P b=false->a=b):l.countP Q<=l.countP P+1:=by
 induction l with
 |nil=>simp
 |cons x t ih=>
  rw[List.nodup_cons]at d;have f:=ih d.2 (fun a c=>h a (by simp[c])) (fun a c b g=>e a (by simp[c]) b (by simp[g]));simp only[List.countP_cons];cases hQ:Q x with
  |false=>
   have:(if P x=true then 1 else 0)>=0:=by omega
   simp;omega
  |true=>
   cases hP:P x with
   |true=>simp;omega
   |false=>
    have:t.countP Q<=t.countP P:=by
     refine vF fun a c i=>?_;cases hpa:P a with
     |true=>rfl
     |false=>
      have:=e x (by simp) a (by simp[c]) hQ hP i hpa;subst this;exact absurd c d.1
    simp;omega
theorem Nd(f:aY n m){r:Row}(g:r.length=n){v:Row}(o:Span n (m++[r]) v):∃(c:UInt8) (u:Row),Span n m u/\v=ck c r u:=by
 have l:aY n (m++[r]):=fun x b=>by
  rcases qF.1 b with h|h
  ·exact f x h
  ·rw[qG.1 h];exact g
 induction o with
 |zero=>exact⟨0,aM n,.zero,(dZ (n:=n) (by rw[bK (by simp[aM,g])];simp[aM]) (by simp[aM]) fun j _=>by rw[cb (by simp[aM,g]),bU,Gf.zero_mul];rfl).symm⟩
 |add d x w b hw ih=>
  obtain⟨c,u,i,rfl⟩:=ih;have a:=i.len f;rcases qF.1 b with h|h
  ·have k:=f x h;refine⟨c,ck d x u,.add d x u h i,dZ (n:=n) (by rw[bK (by rw[bK (by omega)];omega),bK (by omega)];exact a) (by rw[bK (by rw[bK (by omega)];omega),bK (by omega)];exact a) fun j _=>?_⟩;rw[cb (by rw[bK (by omega)];omega),cb (by omega),cb (by rw[bK (by omega)];omega),cb (by omega)]
   ac_rfl
  ·have e:=qG.1 h;subst e;refine⟨c^^^d,u,i,dZ (n:=n) (by rw[bK (by rw[bK (by omega)];omega),bK (by omega)];exact a) (by rw[bK (by omega)];exact a) fun j _=>?_⟩;rw[cb (by rw[bK (by omega)];omega),cb (by omega),cb (by omega),Gf.Ui]
   ac_rfl
theorem Nf(c:aY n m){r:Row}(b:r.length=n):aY n (m++[r]):=fun x a=>by
 rcases qF.1 a with h|h
 ·exact c x h
 ·rw[qG.1 h];exact b
theorem Fh(e:aY n m){r:Row}(G:r.length=n):bT m<=bT (m++[r])/\bT (m++[r])<=bT m+1:=by
 have l:=Nf e G;refine⟨XN e l fun x F=>by simp[F],?_⟩;rw[kM e,kM l];refine XO _ List.nodup_range (fun a _ J=>?_) (fun a _ b _ B q t k=>?_)
 ·simp only[decide_eq_true_eq]at J⊢;obtain⟨v,H,I⟩:=J;exact⟨v,Span.mono (fun x F=>by simp[F]) H,I⟩
 ·simp only[decide_eq_true_eq,decide_eq_false_iff_not]at B q t k;have o:∀a b,oX (Span n (m++[r])) a->¬oX (Span n m) a->oX (Span n (m++[r])) b->¬oX (Span n m) b->¬a<b:=by
   rintro a b ⟨v,M,N,A⟩ q ⟨w,L,h,p⟩ k D;obtain⟨c,u,K,rfl⟩:=Nd e G M;obtain⟨d,s,g,rfl⟩:=Nd e G L;have l1:=K.len e;have l2:=g.len e;have O:d≠0:=by
    rintro rfl;apply k;refine⟨s,g,fun i E=>?_,?_⟩
    ·have:=h i E;rw[cb (by omega),Gf.zero_mul,z6]at this;exact this
    ·rw[cb (by omega),Gf.zero_mul,z6]at p;exact p
   apply q;refine⟨ck (Gf.mul c (Gf.inv d)) s u,g.comb e K _,?_⟩;have f:∀j,aE (ck (Gf.mul c (Gf.inv d)) s u) j=aE (ck c r u) j^^^Gf.mul (Gf.mul c (Gf.inv d)) (aE (ck d r s) j):=fun j=>by
    rw[cb (by omega),cb (by omega),cb (by omega),Gf.iY,<-Gf.mul_assoc (Gf.mul c (Gf.inv d)) d,Gf.mul_assoc c (Gf.inv d) d,Gf.mul_comm (Gf.inv d) d,Gf.ul O,Gf.mul_one];have:∀x y z:UInt8,x^^^y=x^^^z^^^(y^^^z):=fun x y z=>by
     have:x^^^z^^^(y^^^z)=x^^^y^^^(z^^^z):=by ac_rfl
     rw[this,jA,z6]
    exact this _ _ _
   refine⟨fun i E=>?_,?_⟩
   ·rw[f,N i E,h i (by omega),Gf.mul_zero];rfl
   ·rw[f,h a D,Gf.mul_zero,z6];exact A
  have H:=o a b B q t k;have I:=o b a t k B q;omega
theorem oY(m:aQ)(h:aY n m):bT m<=m.length:=by
 have a:∀k,k<=m.length->bT (m.take k)<=k:=by
  intro k
  induction k with
  |zero=>intro _;simp[bT,dn,av,bu]
  |succ k ih=>
   intro d;have c:aY n (m.take k):=fun x b=>h x (zP b);have f:=ih (by omega);rw[zw (by omega)];have e:=(Fh c (h _ (qh (show k<m.length by omega)))).2;omega
 have:=a m.length (ql _)
 rwa [qi (ql _)]at this
theorem Oh(y:aY n m)(b:aY n m')(d:∀r∈m,r∈m')(h:∀j,j<n->oX (Span n m') j->oX (Span n m) j){v:Row}(a:Span n m' v):Span n m v:=by
 have q:∀k j,j+k=n->∀v,Span n m' v->(∀i,i<j->aE v i=0)->Span n m v:=by
  intro k
  induction k with
  |zero=>
   intro j A v a g;have:v=aM n:=dZ (a.len b) (by simp[aM]) fun i f=>by rw[g i (by omega),bU]
   rw[this];exact .zero
  |succ k ih=>
   intro j A v a g;by_cases h0:aE v j=0
   ·exact ih (j+1) (by omega) v a fun i f=>by
     rcases zb.1 f with c|rfl
     ·exact g i c
     ·exact h0
   ·obtain⟨u,s,p,l⟩:=h j (by omega) ⟨v,a,g,h0⟩;have t:Span n m' u:=Span.mono d s;have B:=s.len y;have w:=a.len b;have z:=t.comb b a (Gf.mul (aE v j) (Gf.inv (aE u j)));have o:∀i,i<j+1->aE (ck (Gf.mul (aE v j) (Gf.inv (aE u j))) u v) i=0:=fun i f=>by
     rw[cb (by omega)];rcases zb.1 f with c|rfl
     ·rw[g i c,p i c,Gf.mul_zero];rfl
     ·rw[Gf.mul_assoc,Gf.mul_comm (Gf.inv (aE u i)),Gf.ul l,Gf.mul_one];exact jA _
    have c:=ih (j+1) (by omega) _ z o;have x:=s.comb y c (Gf.mul (aE v j) (Gf.inv (aE u j)));have e:ck (Gf.mul (aE v j) (Gf.inv (aE u j))) u (ck (Gf.mul (aE v j) (Gf.inv (aE u j))) u v)=v:=dZ (n:=n) (by rw[bK (by rw[bK (by omega)];omega),bK (by omega)];exact w) w fun i _=>by
     rw[cb (by rw[bK (by omega)];omega),cb (by omega),ra]
    rw[e]at x;exact x
 exact q n 0 (by omega) v a fun i f=>by omega
theorem count_eq{P Q:Nat->Bool}(l:List Nat)(e:∀a∈l,P a=true->Q a=true)(c:l.countP Q=l.countP P):∀a∈l,Q a=true->P a=true:=by
 induction l with
 |nil=>intro a b;cases b
 |cons x t ih=>
  have h:=vF (l:=t) (p:=P) (q:=Q) fun a b=>e a (by simp[b]);simp only[List.countP_cons]at c;have g:=e x (by simp);intro a b f;cases hP:P x with
  |true=>
   have d:=g hP;simp[hP,d]at c;rcases q8.1 b with rfl|b
   ·exact hP
   ·exact ih (fun a b=>e a (by simp[b])) c a b f
  |false=>
   cases d:Q x with
   |true=>simp[hP,d]at c;omega
   |false=>
    simp[hP,d]at c;rcases q8.1 b with rfl|b
    ·rw[d]at f;cases f
    ·exact ih (fun a b=>e a (by simp[b])) c a b f
theorem PU(d:aY n m)(c:aY n m')(b:∀r∈m,r∈m')(h:bT m'=bT m){v:Row}(i:Span n m' v):Span n m v:=by
 rw[kM d,kM c]at h;refine Oh d c b (fun j k f=>?_) i;have:=count_eq (qy n) (P:=fun j=>decide (oX (Span n m) j)) (Q:=fun j=>decide (oX (Span n m') j)) (fun a _ e=>by
  simp only[decide_eq_true_eq]at e⊢;obtain⟨v,l,g⟩:=e;exact⟨v,Span.mono b l,g⟩) h j (qI.2 k) (by simpa using f)
 simpa using this
end
def io(p:Int×Int×Int)(seed:Int)(ids:aB):Nat:=bT (cG p seed ids)
def dQ(p:Int×Int×Int)(seed:Int)(ids:aB):Bool:=bA p&&((io p seed ids:Int)==bn p)
def dH(p:Int×Int×Int):aB:=upto (max 0 (min p.1 16)).toNat
theorem lT{p:Int×Int×Int}(h:bA p=true):bn p=p.1+p.2.1:=by rw[bn,if_pos h]
theorem iQ(p:Int×Int×Int)(seed:Int)(ids:aB):aY (bn p).toNat (cG p seed ids):=by
 intro r a;unfold cG at a;split at a
 ·rename_i b;have:=(bC p).1 b;rcases qF.1 a with h|h
  ·obtain⟨x,_,rfl⟩:=qC.1 h;rw[oQ,lT b];omega
  ·obtain⟨x,_,rfl⟩:=qC.1 h;exact PO _ _ _
 ·cases a
theorem ID(p:Int×Int×Int)(seed:Int)(ids:aB):(cG p seed ids).length<=4+ids.length:=by
 unfold cG;split
 ·rename_i a;have:=(bC p).1 a;have b:=List.length_filter_le bp ids;simp only[qw,bc,qD,zy];omega
 ·simp
theorem Ng{K H h j:Nat}(a:j<H:=by omega):aE (fj K H h) (K+j)=if j=h then 1 else 0:=by
 rw[aE,fj,qe,qj (by simp)];simp[a]
theorem CL(K H:Nat):aY (K+H) (bc K H):=fun r a=>by
 obtain⟨x,_,rfl⟩:=qC.1 a;exact oQ _ _ _
theorem Vt(K H:Nat):bT (bc K H)=H:=by
 have e:=CL K H;have q:(bc K H).length=H:=by simp[bc]
 have f:∀k,k<=H->bT ((bc K H).take k)=k:=by
  intro k
  induction k with
  |zero=>intro _;simp[bT,dn,av,bu]
  |succ k ih=>
   intro s;have d:aY (K+H) ((bc K H).take k):=fun x n=>e x (zP n);have b:(bc K H)[k]'(by omega)=fj K H k:=by simp[bc]
   have m:=ih (by omega);rw[zw (by omega),b];have o:=Fh d (oQ K H k);refine Nat.le_antisymm (by omega) (Nat.lt_of_le_of_ne (by omega) fun g=>?_);have j:=Nf d (oQ K H k);have h:=PU d j (fun r b=>by simp[b]) (by omega) (Span.row j (r:=fj K H k) (by simp));have h0:=Span.XI d (fun v=>aE v (K+k)) (bU _ _) (fun c a t m o=>cb (by omega) _) (fun r b=>by
    obtain⟨i,l,g⟩:=qE b;rw[List.getElem_take]at g;have p:i<k:=by rw[qM]at l;omega
    have:r=fj K H i:=by rw[<-g];simp[bc]
    rw[this,Ng,if_neg (by omega)]) h
   rw[Ng,if_pos rfl]at h0;cases h0
 have:=f H (ql _)
 rwa [qi (by omega)]at this
theorem XP{p:Int×Int×Int}(seed:Int)(a:bA p=true):(io p seed []:Int)=p.2.1:=by
 have:=(bC p).1 a;have e:cG p seed []=bc p.1.toNat p.2.1.toNat:=by simp[cG,a]
 rw[io,e,Vt];omega
theorem CM(p:Int×Int×Int)(seed:Int)(ids:aB):(io p seed ids:Int)<=bn p:=by
 have h:=uJ (iQ p seed ids);have:0<=bn p:=by
  unfold bn;split
  ·rename_i a;have:=(bC p).1 a;omega
  ·omega
 rw[io];omega
theorem Fi(p:Int×Int×Int)(seed:Int)(ids:aB)(id:Int):cG p seed (ids++[id])=if bA p&&bp id then cG p seed ids++[kL (bn p).toNat seed id]else cG p seed ids:=by
 unfold cG;cases bA p with
 |false=>rfl
 |true=>
  cases h:bp id with
  |false=>simp[zg,h]
  |true=>simp[zg,h]
theorem Vu(p:Int×Int×Int)(seed:Int)(ids:aB)(id:Int):io p seed ids<=io p seed (ids++[id])/\io p seed (ids++[id])<=io p seed ids+1:=by
 unfold io;rw[Fi];split
 ·exact Fh (iQ p seed ids) (PO _ _ _)
 ·omega
def JM(a b c:Int):Int×Int×Int:=(1+a%16,1+b%4,1+c%24)
theorem XQ(a b c:Int):bA (JM a b c)=true:=by rw[bC];simp only[JM];omega
def dU(a b:aQ):aQ:=List.zipWith (·++·) a b
def jP(n:Nat)(m:aQ):aQ:=m.map (List.take n)
theorem IE{r:Row}{n j:Nat}(h:j<n):aE (r.take n) j=aE r j:=by
 simp only[aE,qe,y0];rw[if_pos h]
theorem PW(r:Row)(n j:Nat):aE (r.drop n) j=aE r (n+j):=by
 simp only[aE,qe,List.getElem?_drop]
theorem uo(n:Nat)(m:aQ)(i:Nat):av (jP n m) i=(av m i).take n:=by
 simp only[av,jP,qe,qO];cases m[i]? with
 |none=>simp
 |some r=>rfl
theorem LD(n:Nat)(m:aQ):(jP n m).length=m.length:=by simp[jP]
theorem Vv{n a ba:Nat}(m:aQ)(h:ba<n):gq (jP n m) a ba=gq m a ba:=by
 unfold gq;rw[LD];congr 1;funext i;rw[uo,IE h]
theorem LF(n:Nat)(m:aQ)(i:Nat)(r:Row):jP n (m.set i r)=(jP n m).set i (r.take n):=by simp[jP,List.map_set]
theorem aau(n:Nat)(m:aQ)(i j:Nat):jP n (fM m i j)=fM (jP n m) i j:=by
 rw[fM,LF,LF,fM,uo,uo]
theorem XR(n:Nat)(c:UInt8)(r:Row):(scaleB c r).take n=scaleB c (r.take n):=by simp[scaleB,List.map_take]
theorem ade(n:Nat)(c:UInt8)(a t:Row):(ck c a t).take n=ck c (a.take n) (t.take n):=by simp[ck,List.take_zipWith]
theorem aav{n ba:Nat}(h:ba<n)(t:Nat)(m:aQ):jP n (il t ba m)=il t ba (jP n m):=by
 rw[il,LF,XR,il,uo,IE h]
theorem aaw{n ba:Nat}(h:ba<n)(t k:Nat)(m:aQ):jP n (cI t ba m k)=cI t ba (jP n m) k:=by
 apply List.ext_getElem?;intro i;simp only[jP,cI,qO,List.getElem?_mapIdx];cases m[i]? with
 |none=>rfl
 |some r=>
  simp only[Option.map_some];congr 1;have:=uo n m t;rw[jP]at this;rw[this,IE h];split
  ·exact ade _ _ _ _
  ·rfl
theorem aax{n ba:Nat}(h:ba<n)(s:Nat×aQ):((fY s ba).1,jP n (fY s ba).2)=fY (s.1,jP n s.2) ba:=by
 unfold fY;dsimp only;rw[Vv _ h];cases gq s.2 s.1 ba with
 |none=>rfl
 |some i=>dsimp only;rw[aaw h,aav h,aau,LD]
theorem JN(n:Nat)(m:aQ):∀c,c<=n->((bu m c).1,jP n (bu m c).2)=bu (jP n m) c
 |0,_=>rfl
 |c+1,h=>by
  have a:=JN n m c (by omega);rw[bu,bu,aax (show c<n by omega),a]
theorem lr{a b:aQ}(h:a.length=b.length):(dU a b).length=a.length:=by simp[dU,h]
theorem Hg{a b:aQ}(h:a.length=b.length){i:Nat}(c:i<a.length):av (dU a b) i=av a i++av b i:=by
 rw[bj (by rw[lr h];exact c),bj c,bj (by omega)];simp[dU]
theorem lU{n w:Nat}{a b:aQ}(h:a.length=b.length)(f:aY n a)(d:aY w b):aY (n+w) (dU a b):=fun r e=>by
 obtain⟨i,c,rfl⟩:=fv e;rw[lr h]at c;rw[Hg h c,qw,bP f c,bP d]
theorem adf{n:Nat}{a b:aQ}(h:a.length=b.length)(d:aY n a):jP n (dU a b)=a:=by
 apply wi (by rw[LD,lr h]);intro i e c;have:=uo n (dU a b) i;rw[bj e,Hg h c,List.take_left' (bP d c),bj c]at this;exact this
theorem aay{n:Nat}{a:aQ}(b:aY n a):(bu a n).1=bT a:=by
 rw[bT];cases a with
 |nil=>rw[iD,iD]
 |cons x t=>rw[dn,bj (by simp)];rw[show((x::t)[0]).length=n from b _ (by simp)]
theorem IF{n:Nat}{a b:aQ}(h:a.length=b.length)(c:aY n a):(bu (dU a b) n).1=bT a:=by
 have:=congrArg Prod.fst (JN n (dU a b) n (ql _));rw[adf h c]at this;rw[<-aay c];exact this
def rc(w:Nat)(r:Row)(X:aQ):Nat->Row
 |0=>aM w
 |k+1=>ck (aE r k) (av X k) (rc w r X k)
theorem gK{n w:Nat}{X:aQ}(b:aY w X)(c:X.length=n)(r:Row):∀k,k<=n->(rc w r X k).length=w
 |0,_=>by simp[rc,aM]
 |k+1,h=>by
  have a:=gK b c r k (by omega);rw[rc,bK (by rw[bP b,a])];exact a
theorem ge{n w:Nat}{X:aQ}(a:aY w X)(b:X.length=n)(r:Row)(j:Nat):∀k,k<=n->aE (rc w r X k) j=bG (fun i=>aE r i) (fun i=>aE (av X i) j) k
 |0,_=>by rw[rc,bU];rfl
 |k+1,h=>by
  have c:=ge a b r j k (by omega);rw[rc,cb (by rw[bP a,gK a b r k (by omega)]),c];rfl
def eV(n w:Nat)(a b X:aQ):Prop:=X.length=n/\aY w X/\∀i,i<a.length->rc w (av a i) X n=av b i
theorem aaz{m a:aQ}(c:m.length=a.length)(h:∀i,i<m.length->av m i=av a i):m=a:=by
 apply wi c;intro i b d;have:=h i b
 rwa [bj b,bj d]at this
def uK(n:Nat)(X:aQ)(k:Nat)(v:Row):UInt8:=aE v (n+k)^^^bG (fun i=>aE v i) (fun i=>aE (av X i) k) n
theorem fw{f f' g a:Nat->UInt8}:∀k,(∀i,i<k->f i=f' i)->(∀i,i<k->g i=a i)->bG f g k=bG f' a k
 |0,_,_=>rfl
 |k+1,h1,h2=>by rw[bG,bG,fw k (fun i b=>h1 i (by omega)) (fun i b=>h2 i (by omega)),h1 k (by omega),h2 k (by omega)]
theorem Uk(n:Nat)(X:aQ)(k:Nat)(c:UInt8)(a t:Row)(h:a.length=t.length:=by omega):uK n X k (ck c a t)=uK n X k t^^^Gf.mul c (uK n X k a):=by
 unfold uK;rw[cb h];have:bG (fun i=>aE (ck c a t) i) (fun i=>aE (av X i) k) n=bG (fun i=>aE t i^^^Gf.mul c (aE a i)) (fun i=>aE (av X i) k) n:=fw n (fun i _=>cb h i) fun _ _=>rfl;rw[this,Hd,Gf.iY];ac_rfl
theorem Ul{a b:Row}{n:Nat}(c:a.length=n)(k:Nat):aE (a++b) (n+k)=aE b k:=by
 simp only[aE,qe];rw[qj (by omega),c,Nat.add_sub_cancel_left]
theorem PX{a b:Row}{n j:Nat}(d:a.length=n)(c:j<n):aE (a++b) j=aE a j:=by
 simp only[aE,qe];rw[qm (by omega)]
theorem oZ{a b:UInt8}:a^^^b=0↔a=b:=by
 constructor
 ·intro h;have:=congrArg (·^^^b) h;simp only[z7]at this
  rwa [ra]at this
 ·rintro rfl;exact jA _
theorem JO{n w:Nat}{a b X:aQ}(h:a.length=b.length)(f:aY n a)(o:aY w b)(g:X.length=n)(l:aY w X):eV n w a b X↔∀k,k<w->∀v,Span (n+w) (dU a b) v->uK n X k v=0:=by
 have e:=lU h f o;constructor
 ·intro s k p v q;refine Span.XI e (uK n X k) ?_ (fun c a t y z=>Uk n X k c a t) (fun r x=>?_) q
  ·unfold uK;rw[bU,fk _ _ n fun i _=>bU _ _];rfl
  ·obtain⟨i,d,rfl⟩:=fv x;rw[lr h]at d;rw[Hg h d];unfold uK;rw[Ul (bP f d),<-s.2.2 i d,ge l g _ k n (ql _),oZ];exact fw n (fun j m=>(PX (bP f d) m).symm) fun _ _=>rfl
 ·intro u;refine⟨g,l,fun i d=>dZ (n:=w) (gK l g _ n (ql _)) (bP o) fun k p=>?_⟩;have:=u k p _ (Span.row e (mem_row (show i<(dU a b).length by rw[lr h];exact d)));rw[Hg h d]at this;unfold uK at this;rw[Ul (bP f d),oZ]at this;rw[this,ge l g _ k n (ql _)];exact fw n (fun j m=>(PX (bP f d) m).symm) fun _ _=>rfl
theorem aem{n:Nat}{p:Nat->Nat}(d:∀i,i<n->p i<n)(b:∀i j,i<j->j<n->p i<p j):∀i,i<n->p i=i:=by
 have c:∀i,i<n->i<=p i:=by
  intro i
  induction i with
  |zero=>intro _;omega
  |succ i ih=>intro a;have:=ih (by omega);have:=b i (i+1) (by omega) a;omega
 have up:∀k i,i+k+1=n->p i<=i:=by
  intro k
  induction k with
  |zero=>intro i a;have:=d i (by omega);omega
  |succ k ih=>intro i a;have:=ih (i+1) (by omega);have:=b i (i+1) (by omega) (by omega);omega
 intro i a;have:=c i a;have:=up (n-1-i) i (by omega);omega
def fC(n:Nat)(a b:aQ):aQ:=(((bu (dU a b) n).2).take n).map (List.drop n)
def kd(n:Nat)(a b:aQ):Prop:=∀r∈((bu (dU a b) n).2).drop n,r=aM r.length
section
variable {n w:Nat} {a b:aQ}
theorem uq(h:a.length=b.length)(f:aY n a)(i:aY w b)(j:bT a=n):(fC n a b).length=n/\aY w (fC n a b):=by
 have d:=lU h f i;have e:=fK d n;have h3:=oY a f;refine⟨by rw[fC,qD,qM,e.2,lr h];omega,fun r c=>?_⟩;obtain⟨x,g,rfl⟩:=qC.1 c;rw[qZ,e.1 x (zP g)];omega
theorem Um(h:a.length=b.length)(e:aY n a)(d:bT a=n){i:Nat}(c:i<n):av (fC n a b) i=(av (bu (dU a b) n).2 i).drop n:=by
 simp only[av,fC,qe,qO,y0];rw[if_pos c]
 cases(bu (dU a b) n).2[i]? with
 |none=>simp
 |some r=>rfl
theorem PY(h:a.length=b.length)(j:aY n a)(m:aY w b)(q:bT a=n):
  (∀v,Span (n+w) (bu (dU a b) n).2 v↔Span (n+w) (dU a b) v)/\(bu (dU a b) n).2.length=a.length/\(∀i,i<n->∀k,k<a.length->aE (av (bu (dU a b) n).2 k) i=if k=i then 1 else 0):=by
 have c:=lU h j m;have W:=He c n (by omega);have o:(bu (dU a b) n).1=n:=by rw[IF h j,q]
 obtain⟨p,d,g,r,e⟩:=W.piv;rw[o]at d g r e;have hid:=aem d e;have l:(bu (dU a b) n).2.length=a.length:=by rw[W.len,lr h]
 refine⟨W.span,l,fun i f k s=>?_⟩;have:=g i f k (by omega)
 rwa [hid i f]at this
theorem PZ{X:aQ}{r:Row}{i k:Nat}(c:i<n)(b:∀j,j<n->aE r j=if i=j then 1 else 0):uK n X k r=aE r (n+k)^^^aE (av X i) k:=by
 unfold uK;rw[Hb _ _ i n c fun j a=>b j a]
theorem Un{X:aQ}{r:Row}{k:Nat}(a:∀j,j<n->aE r j=0):uK n X k r=aE r (n+k):=by
 unfold uK;rw[fk _ _ n a,z6]
theorem kN(h:a.length=b.length)(l:aY n a)(o:aY w b)(x:bT a=n){X:aQ}(f:eV n w a b X):X=fC n a b/\kd n a b:=by
 have s:=lU h l o;have t:=fK s n;obtain⟨m,D,v⟩:=PY h l o x;have A:=oY a l;have z:=(JO h l o f.1 f.2.1).1 f;obtain⟨y,s2⟩:=uq h l o x;constructor
 ·refine aaz (by rw[f.1,y]) fun i c=>dZ (n:=w) (bP f.2.1 c) (bP s2 (by rw[y];rw[f.1]at c;exact c)) fun k B=>?_;rw[f.1]at c;have h3:=z k B _ ((m _).1 (Span.row t.1 (mem_row (show i<(bu (dU a b) n).2.length by omega))));rw[PZ c fun j p=>v j p i (by omega)]at h3;rw[Um h l x c,PW];exact(oZ.1 h3).symm
 ·intro r q;obtain⟨i,c,rfl⟩:=qE q;rw[qZ]at c;rw[wm];have g:n+i<(bu (dU a b) n).2.length:=by omega
  have e:=bj g;have d:=bP t.1 g;rw[<-e,d];refine dZ (n:=n+w) d (by simp[aM]) fun j p=>?_;rw[bU];by_cases u:j<n
  ·rw[v j u (n+i) (by omega),if_neg (by omega)]
  ·obtain⟨k,rfl⟩:∃k,j=n+k:=⟨j-n,by omega⟩
   have h3:=z k (by omega) _ ((m _).1 (Span.row t.1 (mem_row g)))
   rwa [Un fun j p=>by rw[v j p (n+i) (by omega),if_neg (by omega)]]at h3
theorem pc(h:a.length=b.length)(e:aY n a)(g:aY w b)(q:bT a=n)(B:kd n a b):eV n w a b (fC n a b):=by
 have o:=lU h e g;have s:=fK o n;obtain⟨p,E,u⟩:=PY h e g q;have y:=oY a e;obtain⟨D,s2⟩:=uq h e g q;refine(JO h e g D s2).2 fun k G v z=>?_;refine Span.XI s.1 (uK n (fC n a b) k) ?_ (fun c x t F s=>Uk n _ k c x t) (fun r l=>?_) ((p v).2 z)
 ·unfold uK;rw[bU,fk _ _ n fun i _=>bU _ _];rfl
 ·obtain⟨i,A,rfl⟩:=fv l;by_cases f:i<n
  ·rw[PZ f fun j m=>u j m i (by omega),Um h e q f,PW];exact jA _
  ·rw[Un fun j m=>by rw[u j m i (by omega),if_neg (by omega)]];have:av (bu (dU a b) n).2 i∈(bu (dU a b) n).2.drop n:=by
    rw[bj A];obtain⟨d,rfl⟩:∃d,i=n+d:=⟨i-n,by omega⟩
    rw[<-wm (h:=by rw[qZ];omega)];exact qh _
   rw[B _ this,bU]
theorem SD(h:a.length=b.length)(g:aY n a)(e:aY w b)(i:a.length=n):kd n a b:=by
 have c:=lU h g e;have f:=fK c n;intro r d;rw[List.drop_of_length_le (by rw[f.2,lr h];omega)]at d;cases d
end
def Qa(l:aB):Prop:=∀a b,a<l.length->b<l.length->dN l a=dN l b->a=b
theorem Hi{l:aB}{i:Nat}(h:i<l.length):dN l i=l[i]:=by rw[dN,qe,qd h];rfl
theorem aaA{l:aB}{i j k:Nat}(d:i<l.length)(c:j<l.length):dN (ik l i j) k=if k=j then dN l i else if k=i then dN l j else dN l k:=by
 simp only[dN,ik,qe,qV,List.length_set];by_cases a:j=k
 ·subst a;simp[c]
 ·by_cases b:i=k
  ·subst b;simp[a,d];omega
  ·simp[a,b];omega
theorem swap_inj{l:aB}{i j:Nat}(n:i<l.length)(m:j<l.length)(h:Qa l):Qa (ik l i j):=by
 intro a b p g o;rw[pX]at p g;have d:∀k,k<l.length->∃σ,σ<l.length/\dN (ik l i j) k=dN l σ/\(σ=if k=j then i else if k=i then j else k):=fun k v=>by
  rw[aaA n m];by_cases e:k=j
  ·rw[if_pos e,if_pos e];exact⟨i,n,rfl,rfl⟩
  ·rw[if_neg e,if_neg e];by_cases f:k=i
   ·rw[if_pos f,if_pos f];exact⟨j,m,rfl,rfl⟩
   ·rw[if_neg f,if_neg f];exact⟨k,v,rfl,rfl⟩
 obtain⟨s,r,u,q⟩:=d a p;obtain⟨t,w,e2,c⟩:=d b g;rw[u,e2]at o;have:=h s t r w o;subst this;rw[q]at c;split at c<;>split at c<;>(try split at c)<;>(try split at c)<;>omega
theorem XS{l:aB}(h:Qa l):l.Nodup:=by
 rw[List.nodup_iff_pairwise_ne,List.pairwise_iff_getElem];intro i j b a c d;have:=h i j b a (by rw[Hi b,Hi a];exact d);omega
theorem aaB(n:Nat):Qa (upto n):=by
 intro a b d c e;rw[fB]at d c;rw[Hi (by rw[fB];exact d),Hi (by rw[fB];exact c)]at e;simp[upto]at e;omega
theorem Qb(n:Nat)(s:Int):∀k,k<=n->n<=64->Qa (dm n s (upto n) k).2
 |0,_,_=>aaB n
 |k+1,hk,hn=>by
  have a:=pY n s (upto n) k;rw[fB]at a;have:=nN (dm n s (upto n) k).1 ((n-k:Nat):Int);exact swap_inj (by omega) (by omega) (Qb n s k (by omega) hn)
theorem Vw(s:Int)(n k:Nat)(b:k<=n)(a:n<=64):(Ae s n k).Nodup:=by
 have h:=(XS (Qb n s k b a)).sublist (List.take_sublist k _);exact(List.mergeSort_perm _ _).nodup_iff.2 h
theorem CN{n:Nat}(b:1<=n)(a:n<=20)(seed id:Int):(cA n seed id).Nodup:=Vw _ _ _ (pZ _ n b a) (by omega)
theorem SE(n:Nat)(seed id:Int):(cA n seed id).Pairwise (·<=·):=by
 have:=List.pairwise_mergeSort (le:=fun x y:Int=>decide (x<=y)) (by intro a b c;simp;omega) (by intro a b;simp;omega) ((dm n (oP (oP (rL seed id))) (upto n) (tE (oP (rL seed id)) n)).2.take (tE (oP (rL seed id)) n));exact this.imp (by simp)
theorem LG{r:Row}{i j:Nat}{x:UInt8}(a:i<r.length):aE (r.set i x) j=if j=i then x else aE r j:=by
 simp only[aE,qe,qV];by_cases h:i=j
 ·subst h;simp[a]
 ·simp[h];intro e;exact absurd e.symm h
theorem Nh(n:Nat)(l:aB)(c:Int):dL n (l++[c])=(dL n l).set c.toNat 1:=by rw[dL,zI];rfl
theorem CO{n:Nat}:∀(l:aB) (_:∀x∈l,0<=x/\x<(n:Int)) (j:Nat),aE (dL n l) j=if(j:Int)∈l then 1 else 0:=by
 intro l;have d:∀k,k<=l.length->(∀x∈l,0<=x/\x<(n:Int))->∀j:Nat,aE (dL n (l.take k)) j=if(j:Int)∈l.take k then 1 else 0:=by
  intro k
  induction k with
  |zero=>intro _ _ j;simp[dL];exact bU n j
  |succ k ih=>
   intro g b j;have f:=b _ (qh (show k<l.length by omega));rw[zw (by omega),Nh,LG (by rw[nO];omega),ih (by omega) b];have a:(j:Int)∈l.take k++[l[k]]↔(j:Int)∈l.take k∨(j:Int)=l[k]:=by rw[qF,qG]
   by_cases h:j=l[k].toNat
   ·rw[if_pos h,if_pos (a.2 (.inr (by omega)))]
   ·rw[if_neg h];by_cases c:(j:Int)∈l.take k
    ·rw[if_pos c,if_pos (a.2 (.inl c))]
    ·rw[if_neg c,if_neg (fun e=>(a.1 e).elim c fun h3=>h (by omega))]
 intro b j;have:=d l.length (ql _) b j
 rwa [qi (ql _)]at this
theorem IG{f f' g:Nat->UInt8}{c:Nat}(b:f c=0)(d:∀i,f' i=if i=c then 1 else f i):∀k,bG f' g k=bG f g k^^^if c<k then g c else 0
 |0=>by simp[bG]
 |k+1=>by
  rw[bG,bG,IG b d k,d k];by_cases a:k=c
  ·subst a;rw[if_pos rfl,if_neg (by omega),if_pos (by omega),Gf.one_mul,b,Gf.zero_mul]
  ·rw[if_neg a];by_cases h:c<k
   ·rw[if_pos h,if_pos (by omega)];ac_rfl
   ·rw[if_neg h,if_neg (by omega)];simp
def ff(w:Nat)(X:aQ)(l:aB):Row:=l.foldl (fun s c=>ck 1 (av X c.toNat) s) (aM w)
theorem CP(w:Nat)(X:aQ)(l:aB)(c:Int):ff w X (l++[c])=ck 1 (av X c.toNat) (ff w X l):=by rw[ff,zI];rfl
theorem pd{n w:Nat}{X:aQ}(b:aY w X)(e:X.length=n){l:aB}(a:∀x∈l,0<=x/\x<(n:Int)):∀k,k<=l.length->(ff w X (l.take k)).length=w:=by
 intro k
 induction k with
 |zero=>intro _;simp[ff,aM]
 |succ k ih=>
  intro d;have c:=a _ (qh (show k<l.length by omega));rw[zw (by omega),CP,bK (by rw[bP b,ih (by omega)])];exact ih (by omega)
theorem Uo{n w:Nat}{X:aQ}(c:aY w X)(b:X.length=n){l:aB}(a:∀x∈l,0<=x/\x<(n:Int)):(ff w X l).length=w:=by
 have:=pd c b a l.length (ql _)
 rwa [qi (ql _)]at this
theorem adg{n w:Nat}{X:aQ}(a:aY w X)(b:X.length=n){l:aB}(d:∀x∈l,0<=x/\x<(n:Int))(q:l.Nodup):ff w X l=rc w (dL n l) X n:=by
 have h:∀k,k<=l.length->ff w X (l.take k)=rc w (dL n (l.take k)) X n:=by
  intro k
  induction k with
  |zero=>
   intro _;refine dZ (n:=w) (by simp[ff,aM]) (gK a b _ n (ql _)) fun j _=>?_;rw[ge a b _ j n (ql _),fk _ _ n fun i _=>by simp only[vY,dL,wx];exact bU n i];simp only[vY,ff,wx];exact bU w j
  |succ k ih=>
   intro r;have o:=d _ (qh (show k<l.length by omega));have p:=pd a b d k (by omega);rw[zw (by omega),CP,Nh,ih (by omega)];refine dZ (n:=w) ?_ (gK a b _ n (ql _)) fun j _=>?_
   ·rw[bK (by rw[bP a,gK a b _ n (ql _)])];exact gK a b _ n (ql _)
   ·rw[cb (by rw[bP a,gK a b _ n (ql _)]),ge a b _ j n (ql _),ge a b _ j n (ql _)];have g:l[k]∉l.take k:=fun m=>by
     have e:l=l.take k++l[k]::l.drop (k+1):=by rw[<-List.drop_eq_getElem_cons (by omega),qx]
     rw[e,List.nodup_append]at q;exact q.2.2 _ m _ List.mem_cons_self rfl
    have h0:aE (dL n (l.take k)) l[k].toNat=0:=by
     rw[CO _ (fun x o=>d x (zP o)),if_neg];intro m;apply g;have:((l[k].toNat:Nat):Int)=l[k]:=by omega
     rwa [this]at m
    rw[IG (f:=fun i=>aE (dL n (l.take k)) i) (c:=l[k].toNat) h0 (fun i=>LG (by rw[nO];omega)) n,if_pos (by omega),Gf.one_mul]
 have:=h l.length (ql _)
 rwa [qi (ql _)]at this
open Go Go.Vc
def jf(K H w:Nat)(d:Row):aQ:=qg H (aM w)++(qy K).map (ES d w)
def dE(p:Int×Int×Int)(seed:Int)(d:Row):aQ:=fC (bn p).toNat (cG p seed (dH p)) (jf p.1.toNat p.2.1.toNat p.2.2.toNat d)
structure bM (p:Int×Int×Int) (seed:Int) (d:Row) (K H w n:Nat):Prop where
 may:bA p=true
 full:dQ p seed (dH p)=true
 k:p.1=K
 h:p.2.1=H
 s:p.2.2=w
 n:n=K+H
 k1:1<=K
 k2:K<=16
 h1:1<=H
 h2:H<=4
 w1:1<=w
 w2:w<=24
 len:d.length=K*w
theorem abZ{p:Int×Int×Int}{seed:Int}{d:Row}(b:bA p=true)(c:dQ p seed (dH p)=true)(a:(d.length:Int)=p.1*p.2.2):∃K H w n,bM p seed d K H w n:=by
 have:=(bC p).1 b;refine⟨p.1.toNat,p.2.1.toNat,p.2.2.toNat,p.1.toNat+p.2.1.toNat,b,c,by omega,by omega,by omega,rfl,by omega,by omega,by omega,by omega,by omega,by omega,?_⟩;have e:p.1=(p.1.toNat:Int):=by omega
 have e2:p.2.2=(p.2.2.toNat:Int):=by omega
 rw[e,e2,<-Int.natCast_mul]at a;exact Int.ofNat.inj a
section
variable {p:Int×Int×Int} {seed:Int} {d:Row} {K H w n:Nat}
theorem bM.cC(B:bM p seed d K H w n):bn p=n:=by rw[lT B.may,B.k,B.h,B.n];rfl
theorem bM.nD(B:bM p seed d K H w n):(bn p).toNat=n:=by rw[B.cC];rfl
theorem Vx(a:p.1=(K:Int))(h:K<=16):dH p=upto K:=by
 rw[dH];congr 1;omega
theorem SF(h:K<=16):(upto K).filter bp=upto K:=by
 rw[List.filter_eq_self];intro x b;simp[upto]at b;obtain⟨a,c,rfl⟩:=b;simp[bp];omega
theorem bM.JA(B:bM p seed d K H w n):cG p seed (dH p)=bc K H++(qy K).map fun i:Nat=>kL n seed (i:Int):=by
 rw[cG,if_pos B.may,Vx B.k B.k2,SF B.k2,B.k,B.h,B.nD,qp,qp,upto,List.map_map];rfl
theorem bM.Fj(B:bM p seed d K H w n):(cG p seed (dH p)).length=n:=by
 rw[B.JA,qw,qD,zy,bc,qD,zy,B.n];omega
theorem bM.Hj(B:bM p seed d K H w n):aY n (cG p seed (dH p)):=by
 have:=iQ p seed (dH p)
 rwa [B.nD]at this
theorem bM.LH(B:bM p seed d K H w n):bT (cG p seed (dH p))=n:=by
 have h:=B.full;rw[dQ,B.may,B.cC,io]at h;simp at h;exact Int.ofNat.inj h
theorem Fk(K H w:Nat)(d:Row):(jf K H w d).length=K+H:=by simp[jf];omega
theorem tI(b:d.length=K*w):aY w (jf K H w d):=fun r c=>by
 rcases qF.1 c with h|h
 ·rw[(List.mem_replicate.1 h).2];simp[aM]
 ·obtain⟨i,a,rfl⟩:=qC.1 h;rw[qI]at a;exact acY (by rw[b];exact Nat.mul_le_mul_right w a)
theorem XT{i:Nat}(a:i<H):av (jf K H w d) i=aM w:=by
 rw[av,jf,qe,qm (by simpa using a)];simp[a]
theorem Vy{i:Nat}(a:i<K):av (jf K H w d) (H+i)=ES d w i:=by
 rw[av,jf,qe,qj (by simp)];simp[a]
theorem bM.DL(B:bM p seed d K H w n):dE p seed d=fC n (cG p seed (dH p)) (jf K H w d):=by
 rw[dE,B.nD,B.k,B.h,B.s];rfl
theorem bM.lens(B:bM p seed d K H w n):(cG p seed (dH p)).length=(jf K H w d).length:=by rw[B.Fj,Fk,B.n]
theorem bM.rT(B:bM p seed d K H w n):(dE p seed d).length=n/\aY w (dE p seed d):=by
 rw[B.DL];exact uq B.lens B.Hj (tI B.len) B.LH
theorem bM.eV(B:bM p seed d K H w n):eV n w (cG p seed (dH p)) (jf K H w d) (dE p seed d):=by
 rw[B.DL];exact pc B.lens B.Hj (tI B.len) B.LH (SD B.lens B.Hj (tI B.len) B.Fj)
theorem bM.aen(B:bM p seed d K H w n){i:Nat}(a:i<H):av (cG p seed (dH p)) i=fj K H i:=by
 rw[B.JA,av,qe,qm (by simpa[bc]using a)];simp[bc,a]
theorem bM.adh(B:bM p seed d K H w n){i:Nat}(a:i<K):av (cG p seed (dH p)) (H+i)=kL n seed (i:Int):=by
 rw[B.JA,av,qe,qj (by simp[bc])];simp[bc,a]
theorem bM.low(B:bM p seed d K H w n){i:Nat}(a:i<H):rc w (fj K H i) (dE p seed d) n=aM w:=by
 have:=B.eV.2.2 i (by rw[B.Fj,B.n];omega)
 rwa [B.aen a,XT a]at this
theorem bM.high(B:bM p seed d K H w n){i:Nat}(a:i<K):rc w (kL n seed (i:Int)) (dE p seed d) n=ES d w i:=by
 have:=B.eV.2.2 (H+i) (by rw[B.Fj,B.n];omega)
 rwa [B.adh a,Vy a]at this
theorem bM.n1(B:bM p seed d K H w n):1<=n:=by have:=B.n;have:=B.k1;omega
theorem bM.n2(B:bM p seed d K H w n):n<=20:=by have:=B.n;have:=B.k2;have:=B.h2;omega
theorem bM.sym(B:bM p seed d K H w n)(id:Int):ff w (dE p seed d) (cA n seed id)=rc w (kL n seed id) (dE p seed d) n:=
 adg B.rT.2 B.rT.1 (fun _ a=>kB B.n1 B.n2 a) (CN B.n1 B.n2 seed id)
theorem bM.aaC(B:bM p seed d K H w n){i:Nat}(a:i<K):ff w (dE p seed d) (cA n seed (i:Int))=ES d w i:=by rw[B.sym,B.high a]
theorem bM.Qc(B:bM p seed d K H w n)(id:Int):(ff w (dE p seed d) (cA n seed id)).length=w:=
 Uo B.rT.2 B.rT.1 fun _ a=>kB B.n1 B.n2 a
end
end Wl
namespace Go.Vc
open Go
theorem SG{α:Type}{c k:Nat}{f:α->aV}:∀{rs:List Sl} {ll:List (List α)} (b:List Sl) (a:List (List α)),rs.length=ll.length->bz c k f (rs++b) (ll++a)=bz c k f rs ll++bz c k f b a:=by
 intro rs ll b a h;unfold bz;exact List.zipWith_append h
theorem aa.aaD{B:aA}{a h:Heap}{X:HP}:∀{L M:List HP},aa B a h (L++X::M)->aa B a h (L++M):=fun{L M} H=>by
 have:=H.del L.length
 rwa [List.eraseIdx_append_of_length_le (ql _),zd,List.eraseIdx_cons_zero]at this
section
variable {α:Type} {C:Ctx} {B:aA} {h0 h h':Heap} {As:List HP} {e e2 k t t2 by_:Nat} {s s2:Sl} {f:α->aV} {ll l2:List (List α)}
theorem aa.adi(w:C.Ok)(H:aa B h0 h (lG e s e2 k f ll::lG e s2 e2 k f l2::As))(y:bN C.toBq t e 1 [.slice none 0 0] 24)(A:∃i e2,C.T.get t2=some i/\i.cu=.slice e2)(F:ll.length+l2.length<=2^32){ty:Nat}{K:Sl->Heap->Prop}
  (E:∀d h',aa B h0 h' (lG e d e2 k f (ll++l2)::As)->K d h'):
  aw C.P (Builtin.append_ #[t,t2] ty #[.slice s.ptr s.len s.cap,.slice s2.ptr s2.len s2.cap]) (.one (.sc .slc)) h K:=by
 obtain⟨rs,o,q⟩:=H.JF;obtain⟨c,j⟩:∃c,c=bz e2 k f rs ll:=⟨_,rfl⟩
 rw[<-j]at q;have G:aa B h0 h (lG e s2 e2 k f l2::(As++(an e s 1 bD rs::c))):=q.front;obtain⟨a,m,r⟩:=G.JF;obtain⟨L2,g⟩:∃L2,L2=bz e2 k f a l2:=⟨_,rfl⟩
 rw[<-g]at r;have p:=r.front;rw[List.append_assoc]at p;have z:=p.front;have n:aa B h0 h (an e s 1 bD rs::(c++(an e s2 1 bD a::(L2++As)))):=by
  have u:(an e s 1 bD rs::c++(an e s2 1 bD a::L2))++As=an e s 1 bD rs::(c++(an e s2 1 bD a::(L2++As))):=by simp
  rw[<-u];exact z
 have x:Seq h (fun b=>b<h.size) s2 1 bD a:=n.seq (c.length+1) (by rw[List.getElem?_cons_succ,qj (ql _),zd];rfl) fun _=>rfl;refine n.append w 0 rfl y A rfl (by decide) (fun _=>rfl) x kY (by omega) fun d h' l=>E d h' ?_;have l:aa B h0 h' ((an e d 1 bD (rs++a)::c)++(an e s2 1 bD a::(L2++As))):=l;have v:=aa.aaD l;refine aa.PH (rs:=rs++a) (by simp[o,m]) ?_;rw[SG a l2 o,<-j,<-g];have D:(an e d 1 bD (rs++a)::(c++L2))++As=(an e d 1 bD (rs++a)::c)++(L2++As):=by simp
 rw[D];exact v
end
abbrev gf:=FloatKind.format .f64
theorem Fl{P:Program}{a b c:Nat}(h:gf.add a b=some c):aJ P (Op.Complex.arith .add .f64 a b) c:=fun w=>by
 have h':(FloatKind.format .f64).add a b=some c:=h;unfold Op.Complex.arith Op.floatArith;simp only[h'];rfl
theorem Fm{P:Program}{a b c:Nat}(h:gf.sub a b=some c):aJ P (Op.Complex.arith .sub .f64 a b) c:=fun w=>by
 have h':(FloatKind.format .f64).sub a b=some c:=h;unfold Op.Complex.arith Op.floatArith;simp only[h'];rfl
theorem Aj{P:Program}{a b c:Nat}(h:gf.mul a b=some c):aJ P (Op.Complex.arith .mul .f64 a b) c:=fun w=>by
 have h':(FloatKind.format .f64).mul a b=some c:=h;unfold Op.Complex.arith Op.floatArith;simp only[h'];rfl
theorem AM{P:Program}{op:BinOp}(h:op=.add∨op=.sub∨op=.mul)(t:TypeId)(x y:Operand)(a b:Value):aJ P (eqGuard op t x y a b) ():=fun w=>by
 rcases h with rfl|rfl|rfl<;>rfl
theorem adj{P:Program}{t:TypeId}{x y:Operand}{a b c d e f:Nat}(h:gf.add a c=some e)(g:gf.add b d=some f):jy P .add t x y (.complex .f64 a b) (.complex .f64 c d) (.complex .f64 e f):=
 (AM (.inl rfl) t x y _ _).bind (show aJ P (Op.complexOp .add .f64 a b c d) _ from(Fl h).bind ((Fl g).bind fun _=>rfl))
theorem adk{P:Program}{t:TypeId}{x y:Operand}{a b c d e f:Nat}(h:gf.sub a c=some e)(g:gf.sub b d=some f):jy P .sub t x y (.complex .f64 a b) (.complex .f64 c d) (.complex .f64 e f):=
 (AM (.inr (.inl rfl)) t x y _ _).bind (show aJ P (Op.complexOp .sub .f64 a b c d) _ from(Fm h).bind ((Fm g).bind fun _=>rfl))
theorem adl{P:Program}{t:TypeId}{x y:Operand}{a b c d e f i k h j:Nat}(m:gf.mul a c=some i)(n:gf.mul b d=some k)(h3:gf.sub i k=some e)(q:gf.mul a d=some h)(o:gf.mul b c=some j)(l:gf.add h j=some f):
  jy P .mul t x y (.complex .f64 a b) (.complex .f64 c d) (.complex .f64 e f):=by
 refine(AM (.inr (.inr rfl)) t x y _ _).bind ?_;have p:aJ P (Op.Complex.product a b c d) (e,f):=
  (Aj m).bind ((Aj n).bind ((Fm h3).bind ((Aj q).bind ((Aj o).bind ((Fl l).bind fun _=>rfl)))))
 show aJ P (Op.complexOp .mul .f64 a b c d) _;have g:∀x,aJ P (Op.Complex.conv .f64 x .f64) x:=fun x w=>by unfold Op.Complex.conv;rw[if_pos rfl];rfl
 unfold Op.complexOp;refine(g a).bind ((g b).bind ((g c).bind ((g d).bind ?_)));refine aJ.bind (v:=(e,f)) ?_ ?_
 ·exact p
 ·exact(g e).bind ((g f).bind fun _=>rfl)
end Go.Vc
