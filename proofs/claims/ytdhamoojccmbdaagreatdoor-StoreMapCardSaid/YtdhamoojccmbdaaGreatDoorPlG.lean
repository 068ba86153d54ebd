/- Part of the proofs that the laws of this seat answer true whatever the input reads, and leave it as it was; no condition. -/
import Derived.Test.YtdhamoojccmbdaaGreatDoorPlD
import Derived.Test.YtdhamoojccmbdaaGreatDoorPlA
set_option linter.unusedVariables false
set_option linter.unusedSimpArgs false
open List renaming append_assoc -> qp, countP_le_length -> vB, drop -> vW, drop_eq_getElem_cons -> qW, drop_of_length_le -> zg, ext_getElem -> wk, ext_getElem? -> zK, filter_eq_self -> wq, flatMap_append -> zc, foldl_append -> wM, foldl_nil -> wQ, getD_eq_getElem?_getD -> qe, getElem?_append_left -> qn, getElem?_append_right -> qj, getElem?_cons_succ -> qy, getElem?_drop -> wB, getElem?_eq_getElem -> qd, getElem?_eq_none -> zf, getElem?_map -> qP, getElem?_mapIdx -> y7, getElem?_replicate -> zY, getElem?_set -> q8, getElem?_take -> vo, getElem?_zipWith -> wO, getElem_drop -> zZ, getElem_mem -> qg, getElem_of_mem -> qG, length_append -> qw, length_drop -> q7, length_filter_le -> qY, length_map -> qx, length_range -> zw, length_set -> zH, length_take -> qZ, map_map -> wS, mem_append -> qB, mem_cons_self -> qU, mem_map -> qu, mem_of_mem_take -> zM, mem_range -> qF, mem_replicate -> wT, mem_singleton -> qH, mergeSort_perm -> yn, nodup_cons -> wR, nodup_range -> yR, pairwise_iff_getElem -> zd, pairwise_mergeSort -> yQ, range -> qC, range_succ -> zI, replicate -> qh, size_toArray -> wZ, take_append_drop -> qE, take_of_length_le -> qi, take_succ_eq_append_getElem -> zu, take_zero -> vO, zipWith -> zm, zipWith_append -> yM
open Bool renaming and_eq_true -> qz, false_or -> vi, or_eq_true -> wc, true_and -> zU
open Go.Builtin renaming append_ -> qt, clear_ -> yt, zeroCells -> yf
open Array renaming ext' -> yj, toList_map -> vE
open Nat renaming add_sub_cancel_left -> zn, le_refl -> ql, lt_succ_iff_lt_or_eq -> zq, lt_trichotomy -> yg, min_eq_left -> w6, mod_lt -> yJ, mul_le_mul_right -> zr, sub_self -> zj
open UInt8 renaming lt_iff_toNat_lt -> zP, toNat_inj -> yl, xor_zero -> zS, zero_xor -> wg
open Option renaming map_some -> qN
open Prod renaming fst -> qJ
open Int renaming natCast_mul -> wh, toNat_natCast -> qo
namespace Wl
open Go
def cJ(o b t:Int):Int:=(128*o+16*b+t)%4294967296
def cX(m:aE)(r:cT):Bool:=iU r&&(decide (r.p=m.p)&&m.objs.any fun x=>decide (x.object=r.object)&&(decide (r.block<(x.tries.length:Int))&&decide (r.seed=cJ r.object r.block (x.tries.getD r.block.toNat 0))))
def rD(a b:cT):Bool:=decide (a.object<b.object∨(a.object=b.object/\(a.block<b.block∨(a.block=b.block/\a.id<=b.id))))
def pE(a b:cT):Bool:=decide (a.object=b.object/\a.block=b.block/\a.id=b.id)
def LJ:cT:=⟨0,0,0,(0,0,0),0,[]⟩
def pF(l:List cT)(k:Nat):Bool:=decide (k=0)||!pE (l.getD k LJ) (l.getD (k-1) LJ)
def sa(l:List cT):List cT:=((qC l.length).filter (pF l)).map fun i=>l.getD i LJ
def jH(m:aE)(c:List UInt8):Option cT:=match dm c with|some r=>if cX m r then some r else none|none=>none
def fQ(m:aE)(l:List (List UInt8)):List cT:=sa ((l.filterMap (jH m)).mergeSort rD)
theorem agE:Ord rD:=⟨fun a b c e d=>by
 unfold rD at*;rw[decide_eq_true_eq]at*;omega,fun a b=>by
 unfold rD;rw[wc,decide_eq_true_eq,decide_eq_true_eq];omega⟩
theorem Yl(m:aE)(l:List (List UInt8))(i:Nat)(a:i<l.length):(l.take (i+1)).filterMap (jH m)=(l.take i).filterMap (jH m)++(jH m l[i]).toList:=by
 have:l.take (i+1)=l.take i++[l[i]]:=by rw[List.take_add_one,qd a];rfl
 rw[this,List.filterMap_append];cases hg:jH m l[i]with
 |none=>simp[hg]
 |some r=>simp[hg]
end Wl
namespace Go.Vc
open Go
section
variable {B:aA} {α:Type} {C:Ctx} {h0 h:Heap} {As:List HP} {e t k by_:Nat} {s:Sl} {f:α->List Value} {l:List α} {z:List Value}
theorem EX(z:List Value)(n:Nat):(yf z.toArray n).toList.length=n*z.length:=by
 simp[yf]
theorem QO{z:List Value}(d:∀v∈z,v.oneCell'=true)(n:Nat):∀v∈(yf z.toArray n).toList,v.oneCell'=true:=by
 intro v c;simp only[yf,vE,qu,Array.mem_toList_iff,Array.mem_range]at c;obtain⟨i,a,rfl⟩:=c;simp only[wZ]at a⊢;have h0:0<z.length:=by
  rcases Nat.eq_zero_or_pos z.length with h|h
  ·rw[h]at a;simp at a
  ·exact h
 have b:=yJ i h0;rw[getElem!_pos z.toArray _ (by simpa using b)];exact d _ (by simp)
theorem Own.oK(B:C.Ok)(o:Own h e s k f l)(w:bN C.toCB t e k z by_)(r:∀x,(f x).length=k)(y:z.length=k)(d:∀v∈z,v.oneCell'=true)(j:Nat)(A:j<=l.length){ty:Nat}{K:Heap->Prop}
  (i:∀h',Own h' e ⟨s.ptr,j,s.cap⟩ k f (l.take j)->aU (fun b=>¬s.on b) h h'->K h'):
  ac C.P (yt #[t] ty #[.slice (if s.cap=j then s.ptr else s.ptr.map (·.add (j*k))) (s.len-j) (s.cap-j)]) h fun _ h'=>K h':=by
 have U:=o.len;have c:=o.cut r j A;unfold yt;refine ac.bind (ac.always (aG (w.under B)) ?_);by_cases n:j=l.length
 ·have G:s.len-j=0:=by omega
  rw[G];generalize (if s.cap=j then s.ptr else s.ptr.map (·.add (j*k)))=q;cases q with
  |none=>exact ac.pure' (i h c (aU.refl _ _))
  |some a=>exact ac.pure' (i h c (aU.refl _ _))
 ·rcases o.head with⟨h1,h2,h3⟩|⟨b,rest,h1,h2,h3,h4⟩
  ·subst h3;simp at A n;omega
  ·have g:s.cap≠j:=by omega
   rw[if_neg g,h1];obtain⟨m,H⟩:∃m,s.len-j=m+1:=⟨s.len-j-1,by omega⟩
   rw[H];obtain⟨O,S,N,R,F,Q,I,T⟩:=w.ex;obtain⟨D,E,L⟩:=sF B.toOk F;refine ac.bind (ac.always E ?_);have p:D.cells=z.toArray:=by apply yj;rw[L,I]
   rw[p];refine ac.bind ?_;have J:((⟨b,0,none⟩:Addr).add (j*k))=⟨b,j*k,none⟩:=by simp[add_eq]
   show ac C.P (storeCells ((⟨b,0,none⟩:Addr).add (j*k)) (yf z.toArray (m+1)).toList) h _;rw[J];have u:(l.drop j).length=m+1:=by simp;omega
   refine eP (e:=e) (pre:=(l.take j).flatMap f) (old:=(l.drop j).flatMap f) (post:=rest) ?_ ?_ ?_ (QO d _) ?_
   ·rw[<-zc,qE];exact h2
   ·rw[dg r,u,EX,y]
   ·rw[dg r,qZ,w6 (by omega)];omega
   ·refine ac.pure' (i _ ⟨by simp;omega,.inr ⟨b,(yf z.toArray (m+1)).toList++rest,h1,?_,?_,by dsimp only;omega⟩⟩ ?_)
    ·rw[hJ h2,if_pos rfl];simp
    ·rw[qw,EX,y,h3,<-Nat.add_mul];dsimp only;congr 1;omega
    ·exact aU.iG h2 fun M=>M ⟨0,h1⟩
theorem aa.oK(w:C.Ok)(H:aa B h0 h As)(i:Nat)(m:As[i]?=some (an e s k f l))(o:bN C.toCB t e k z by_)(p:∀x,(f x).length=k)(r:z.length=k)(a:∀v∈z,v.oneCell'=true)(j:Nat)(u:j<=l.length){ty:Nat}{K:Heap->Prop}
  (n:∀h',aa B h0 h' (As.set i (an e ⟨s.ptr,j,s.cap⟩ k f (l.take j)))->K h'):
  ac C.P (yt #[t] ty #[.slice (if s.cap=j then s.ptr else s.ptr.map (·.add (j*k))) (s.len-j) (s.cap-j)]) h fun _ h'=>K h':=
 (H.own i m).oK w o p r a j u fun h' x y=>n h' (H.step i m fun q g _=>⟨y.mono fun b _ c d=>c (g.2 b d),x,fun b c=>⟨x.lt c,.inl (g.2 b c)⟩⟩)
end
end Go.Vc
namespace Wl
open Go
theorem RU:∀x y:List UInt8,(Op.bytesLess x y||x==y)=!Op.bytesLess y x
 |[],[]=>rfl
 |[],_::_=>rfl
 |_::_,[]=>by simp[Op.bytesLess]
 |a::x,b::y=>by
  have f:=RU x y;have d:a<b∨a=b∨b<a:=by
   rcases yg a.toNat b.toNat with h|h|h
   ·exact .inl (zP.2 h)
   ·exact .inr (.inl (yl.1 h))
   ·exact .inr (.inr (zP.2 h))
  rcases d with h|rfl|h
  ·have c:¬b<a:=fun h'=>by have:=zP.1 h;have:=zP.1 h';omega
   have e:b≠a:=fun h'=>by subst h';exact c h
   simp[Op.bytesLess,h,c,e]
  ·have c:¬a<a:=fun h'=>by have:=zP.1 h';omega
   simp only[Op.bytesLess,c,decide_false,vi,beq_self_eq_true,zU];rw[<-f];congr 1;simp
  ·have c:¬a<b:=fun h'=>by have:=zP.1 h;have:=zP.1 h';omega
   have e:a≠b:=fun h'=>by subst h';exact c h
   simp[Op.bytesLess,h,c,e]
theorem IR:∀x y z:List UInt8,Op.bytesLess x y=true->Op.bytesLess y z=true->Op.bytesLess x z=true
 |x,[],_,h1,_=>by cases x<;>simp[Op.bytesLess]at h1
 |_,b::y,[],_,h2=>by simp[Op.bytesLess]at h2
 |[],_::_,_::_,_,_=>rfl
 |a::x,b::y,c::z,h1,h2=>by
  simp only[Op.bytesLess,wc,decide_eq_true_eq,qz,beq_iff_eq]at h1 h2⊢;rcases h1 with h1|⟨rfl,h1⟩
  ·rcases h2 with h2|⟨rfl,h2⟩
   ·exact .inl (zP.2 (by have:=zP.1 h1;have:=zP.1 h2;omega))
   ·exact .inl h1
  ·rcases h2 with h2|⟨rfl,h2⟩
   ·exact .inl h2
   ·exact .inr ⟨rfl,IR x y z h1 h2⟩
theorem aax(x:List UInt8):Op.bytesLess x x=false:=by
 have:=RU x x;cases h:Op.bytesLess x x with
 |false=>rfl
 |true=>rw[h]at this;simp at this
def jx(a b:ByteArray):Bool:=!eG b a
theorem LK(a b:ByteArray):jx a b=true↔eG a b=true∨a.toList=b.toList:=by
 unfold jx eG;rw[<-RU,wc,beq_iff_eq]
theorem GH(a b c:ByteArray)(e:jx a b=true)(d:jx b c=true):jx a c=true:=by
 rw[LK]at e d⊢;unfold eG at*;rcases e with e|e
 ·rcases d with d|d
  ·exact .inl (IR _ _ _ e d)
  ·rw[<-d];exact .inl e
 ·rw[e];exact d
theorem GI(a b:ByteArray):(jx a b||jx b a)=true:=by
 unfold jx;cases h:eG b a with
 |false=>rfl
 |true=>
  have:eG a b=false:=by
   cases h2:eG a b with
   |false=>rfl
   |true=>
    have:=IR _ _ _ h h2;rw[aax]at this;cases this
  rw[this];rfl
def sK(a b:bY):Bool:=jx a.name b.name
def cM(m:aE)(x:bY):aE:={m with seq:=m.seq+1,next:=m.next+1,objs:=(m.objs++[x]).mergeSort sK}
open Classical
theorem kY(a:UInt8):a^^^a=0:=UInt8.xor_self
theorem wt(a b:UInt8):(a^^^b)^^^b=a:=by rw[UInt8.xor_assoc,kY,zS]
theorem cH{c:UInt8}{a t:Row}(h:a.length=t.length)(j:Nat):aN (df c a t) j=aN t j^^^Gf.mul c (aN a j):=by
 simp only[aN,df,qe,wO];by_cases b:j<a.length
 ·rw[qd b,qd (by omega)];rfl
 ·rw[zf (by omega),zf (by omega)];simp[Gf.mul_zero]
theorem Ba(c:UInt8)(a:Row)(j:Nat):aN (scaleB c a) j=Gf.mul c (aN a j):=by
 simp only[aN,scaleB,qe,qP];cases a[j]? with
 |none=>simp[Gf.mul_zero]
 |some x=>rfl
def aL(n:Nat):Row:=qh n 0
theorem ct(n j:Nat):aN (aL n) j=0:=by
 simp only[aN,aL,qe,zY];split<;>rfl
theorem fq{n:Nat}{a b:Row}(e:a.length=n)(f:b.length=n)(h:∀j,j<n->aN a j=aN b j):a=b:=by
 apply wk (by omega);intro j d c;have:=h j (by omega);simpa[aN,qe,qd d,qd c]using this
inductive Span (n:Nat) (m:aS):Row->Prop
 |zero:Span n m (aL n)
 |add (c:UInt8) (r v:Row):r∈m->Span n m v->Span n m (df c r v)
section
variable {n:Nat} {m m':aS}
theorem Span.len(a:bh n m){v:Row}(h:Span n m v):v.length=n:=by
 induction h with
 |zero=>simp[aL]
 |add c r v hr _ ih=>rw[ca (by rw[a r hr,ih])];exact ih
theorem Span.comb(a:bh n m){u v:Row}(e:Span n m u)(b:Span n m v)(c:UInt8):Span n m (df c u v):=by
 induction e with
 |zero=>
  have:df c (aL n) v=v:=fq (n:=n) (by rw[ca (by simp[aL,b.len a])];exact b.len a) (b.len a) fun j _=>by
   rw[cH (by simp[aL,b.len a]),ct,Gf.mul_zero,zS]
  rw[this];exact b
 |add d r w hr hw ih=>
  have l1:=b.len a;have l2:=hw.len a;have f:=a r hr;have:df c (df d r w) v=df (Gf.mul c d) r (df c w v):=fq (n:=n) (by rw[ca (by rw[ca (by omega)];omega)];exact l1) (by rw[ca (by rw[ca (by omega)];omega),ca (by omega)];exact l1) fun j _=>by
   rw[cH (by rw[ca (by omega)];omega),cH (by omega),cH (by rw[ca (by omega)];omega),cH (by omega),Gf.jP,Gf.mul_assoc]
   ac_rfl
  rw[this];exact .add _ _ _ hr ih
theorem Span.row(b:bh n m){r:Row}(a:r∈m):Span n m r:=by
 have:=Span.add 1 r _ a (.zero (n:=n) (m:=m));have e:df 1 r (aL n)=r:=fq (n:=n) (by rw[ca (by simp[aL,b r a])];simp[aL]) (b r a) fun j _=>by
  rw[cH (by simp[aL,b r a]),ct,Gf.one_mul,wg]
 rwa [e]at this
theorem Span.sub(a:bh n m)(h:∀r∈m',Span n m r){v:Row}(b:Span n m' v):Span n m v:=by
 induction b with
 |zero=>exact .zero
 |add c r v hr _ ih=>exact(h r hr).comb a ih c
theorem Span.mono(h:∀r∈m',r∈m){v:Row}(a:Span n m' v):Span n m v:=by
 induction a with
 |zero=>exact .zero
 |add c r v hr _ ih=>exact .add c r v (h r hr) ih
theorem Span.lin(d:bh n m)(φ:Row->UInt8)(f:φ (aL n)=0)(e:∀c a t,a.length=n->t.length=n->φ (df c a t)=φ t^^^Gf.mul c (φ a))(g:∀r∈m,φ r=0){v:Row}(b:Span n m v):φ v=0:=by
 induction b with
 |zero=>exact f
 |add c r v hr' b ih=>rw[e c r v (d r hr') (b.len d),ih,g r hr',Gf.mul_zero,zS]
end
def BJ(S:Row->Prop)(j:Nat):Prop:=∃v,S v/\(∀i,i<j->aN v i=0)/\aN v j≠0
noncomputable def leads(S:Row->Prop)(n:Nat):Nat:=(qC n).countP fun j=>decide (BJ S j)
structure Way (n:Nat) (m:aS) (c top:Nat) (rows:aS):Prop where
 even:bh n rows
 len:rows.length=m.length
 tle:top<=rows.length
 span:∀v,Span n rows v↔Span n m v
 cnt:top=leads (Span n m) c
 piv:∃p:Nat->Nat,(∀i,i<top->p i<c)/\(∀i,i<top->∀k,k<rows.length->aN (az rows k) (p i)=if k=i then 1 else 0)/\(∀i,i<top->∀j,j<p i->aN (az rows i) j=0)/\(∀i j,i<j->j<top->p i<p j)
 low:∀k,top<=k->k<rows.length->∀j,j<c->aN (az rows k) j=0
theorem mem_row{m:aS}{i:Nat}(h:i<m.length):az m i∈m:=by rw[bu h];exact qg h
theorem ft{m:aS}{r:Row}(h:r∈m):∃i,i<m.length/\r=az m i:=by
 obtain⟨i,a,rfl⟩:=qG h;exact⟨i,a,(bu a).symm⟩
theorem kM{m:aS}{i j:Nat}{r:Row}(a:i<m.length):az (m.set i r) j=if i=j then r else az m j:=by
 simp only[az,qe,q8];by_cases h:i=j
 ·subst h;simp[a]
 ·simp[h]
theorem xF{m:aS}{i j k:Nat}(c:i<m.length)(d:j<m.length):az (iR m i j) k=if k=j then az m i else if k=i then az m j else az m k:=by
 rw[iR,kM (by simpa using d),kM c];by_cases b:j=k
 ·rw[if_pos b,if_pos b.symm]
 ·rw[if_neg b,if_neg (show¬k=j from fun h=>b h.symm)];by_cases a:i=k
  ·rw[if_pos a,if_pos a.symm]
  ·rw[if_neg a,if_neg (show¬k=i from fun h=>a h.symm)]
theorem DY{m:aS}{t c k:Nat}(a:t<m.length):az (jF t c m) k=if t=k then scaleB (Gf.inv (aN (az m t) c)) (az m t)else az m k:=by
 rw[jF,kM a]
section
variable {n:Nat} {m:aS}
theorem aay(l:bh n m){i j:Nat}(a:i<m.length)(b:j<m.length)(v:Row):Span n (iR m i j) v↔Span n m v:=by
 refine⟨Span.mono fun r f=>?_,Span.mono fun r f=>?_⟩
 ·obtain⟨k,c,rfl⟩:=ft f;rw[kX]at c;rw[xF a b];split
  ·exact mem_row a
  ·split
   ·exact mem_row b
   ·exact mem_row c
 ·obtain⟨k,c,rfl⟩:=ft f;have e:∀x,x<m.length->az (iR m i j) x∈iR m i j:=fun x h=>mem_row (by rw[kX];exact h);by_cases d:k=i
  ·subst d;have:=e j b;rw[xF a b,if_pos rfl]at this;exact this
  ·by_cases g:k=j
   ·subst g;have:=e i a;rw[xF a b]at this;by_cases h3:i=k
    ·exact absurd h3.symm d
    ·rw[if_neg h3,if_pos rfl]at this;exact this
   ·have:=e k c;rw[xF a b,if_neg g,if_neg d]at this;exact this
theorem aaz(g:bh n m){t c:Nat}(a:t<m.length)(i:aN (az m t) c≠0)(v:Row):Span n (jF t c m) v↔Span n m v:=by
 have b:=AX g (c:=c) a;have h:=cb g a;have p:∀(x:UInt8) (r:Row),r.length=n->scaleB x r=df x r (aL n):=fun x r d=>fq (n:=n) (by rw[AW,d]) (by rw[ca (by simp[aL,d])];simp[aL]) fun j _=>by
  rw[Ba,cH (by simp[aL,d]),ct,wg]
 refine⟨Span.sub g fun r d=>?_,Span.sub b fun r d=>?_⟩
 ·obtain⟨k,f,rfl⟩:=ft d;rw[oy]at f;rw[DY a];split
  ·rw[p _ _ h];exact .add _ _ _ (mem_row a) .zero
  ·exact Span.row g (mem_row f)
 ·obtain⟨k,f,rfl⟩:=ft d;have e:∀x,x<m.length->Span n (jF t c m) (az (jF t c m) x):=fun x s=>Span.row b (mem_row (by rw[oy];exact s));by_cases o:t=k
  ·subst o;have:=e t a;rw[DY a,if_pos rfl]at this;have l:=this.comb b .zero (aN (az m t) c);have q:df (aN (az m t) c) (scaleB (Gf.inv (aN (az m t) c)) (az m t)) (aL n)=az m t:=fq (n:=n) (by rw[ca (by simp[aL,AW,h])];simp[aL]) h fun j _=>by
    rw[cH (by simp[aL,AW,h]),ct,wg,Ba,<-Gf.mul_assoc,Gf.Od i,Gf.one_mul]
   rw[q]at l;exact l
  ·have:=e k f;rw[DY a,if_neg o]at this;exact this
theorem aaA(d:bh n m){t c:Nat}(g:t<m.length)(v:Row):Span n (ez t c m m.length) v↔Span n m v:=by
 have b:=AY d (c:=c) (k:=m.length) g;have s:=cb d g;refine⟨Span.sub d fun r h=>?_,Span.sub b fun r h=>?_⟩
 ·obtain⟨k,a,rfl⟩:=ft h;rw[oz]at a;rw[rZ a];split
  ·exact .add _ _ _ (mem_row g) (Span.row d (mem_row a))
  ·exact Span.row d (mem_row a)
 ·obtain⟨k,a,rfl⟩:=ft h;have e:∀x,x<m.length->Span n (ez t c m m.length) (az (ez t c m m.length) x):=fun x q=>Span.row b (mem_row (by rw[oz];exact q));have i:=e t g;rw[rZ g,if_neg (by simp)]at i;by_cases o:k=t
  ·subst o;exact i
  ·have l:=e k a;rw[rZ a,if_pos ⟨a,o⟩]at l;have h3:=i.comb b l (aN (az m k) c);have f:=cb d a;have p:df (aN (az m k) c) (az m t) (df (aN (az m k) c) (az m t) (az m k))=az m k:=fq (n:=n) (by rw[ca (by rw[ca (by omega)];omega),ca (by omega)];exact f) f fun j _=>by
    rw[cH (by rw[ca (by omega)];omega),cH (by omega),wt]
   rw[p]at h3;exact h3
def bE(f g:Nat->UInt8):Nat->UInt8
 |0=>0
 |k+1=>bE f g k^^^Gf.mul (f k) (g k)
theorem fl(f g:Nat->UInt8):∀k,(∀i,i<k->f i=0)->bE f g k=0
 |0,_=>rfl
 |k+1,h=>by rw[bE,fl f g k fun i a=>h i (by omega),h k (by omega),Gf.zero_mul];rfl
theorem IS(f g:Nat->UInt8)(x:Nat):∀k,x<k->(∀i,i<k->f i=if x=i then 1 else 0)->bE f g k=g x
 |0,hx,_=>by omega
 |k+1,hx,h=>by
  rw[bE];by_cases a:x=k
  ·subst a;rw[fl f g x fun i b=>by rw[h i (by omega),if_neg (by omega)],h x (by omega),if_pos rfl,Gf.one_mul,wg]
  ·rw[IS f g x k (by omega) fun i b=>h i (by omega),h k (by omega),if_neg a,Gf.zero_mul,zS]
theorem IT(a b g:Nat->UInt8)(c:UInt8):∀k,bE (fun i=>a i^^^Gf.mul c (b i)) g k=bE a g k^^^Gf.mul c (bE b g k)
 |0=>by simp[bE,Gf.mul_zero]
 |k+1=>by
  rw[bE,bE,bE,IT a b g c k,Gf.jP,Gf.Xf,Gf.mul_assoc]
  ac_rfl
theorem LL(S:Row->Prop)(c:Nat):leads S (c+1)=leads S c+if BJ S c then 1 else 0:=by
 simp only[leads,zI,List.countP_append,List.countP_cons,List.countP_nil];by_cases h:BJ S c<;>simp[h]
theorem aaB(c:bh n m):Way n m 0 0 m:=⟨c,rfl,by omega,fun _=>Iff.rfl,by simp[leads],⟨fun _=>0,fun i a=>by omega,fun i a=>by omega,fun i a=>by omega,fun i j _ b=>by omega⟩,fun k _ _ j b=>by omega⟩
theorem adf(hm:bh n m){c b:Nat}{rows:aS}(w:Way n m c b rows)(hc:c<n):Way n m (c+1) (iS (b,rows) c).1 (iS (b,rows) c).2:=by
 obtain⟨I,V,am,Z,M,⟨p,Q,p2,p3,p4⟩,g⟩:=w;have hS:∀v,Span n rows v↔Span n m v:=Z;have X:Span n rows=Span n m:=funext fun v=>propext (hS v);unfold iS;dsimp only;cases hb:iz rows b c with
 |none=>
  have ab:=Vm hb;dsimp only;have ad:¬BJ (Span n m) c:=by
   rw[<-X];rintro⟨v,hv,hz,ah⟩;apply ah;have hφ:=Span.lin I (fun v=>aN v c^^^bE (fun i=>aN v (p i)) (fun i=>aN (az rows i) c) b) (by
     simp only[ct];rw[fl _ _ _ fun i _=>rfl];rfl) (fun x a t ha ht=>by
     simp only[cH (show a.length=t.length by omega)];rw[IT,Gf.jP];ac_rfl) (fun r hr=>by
     obtain⟨k,H,rfl⟩:=ft hr;by_cases P:k<b
     ·rw[IS _ _ k b P fun i F=>by rw[p2 i F k H]];exact kY _
     ·rw[ab k (by omega) H,fl _ _ _ fun i F=>by rw[p2 i F k H,if_neg (by omega)]];rfl) hv
   rw[fl _ _ _ fun i F=>hz _ (Q i F),zS]at hφ;exact hφ
  refine⟨I,V,am,Z,by rw[LL,if_neg ad,M];rfl,⟨p,fun i F=>by have:=Q i F;omega,p2,p3,p4⟩,fun k B A j f=>?_⟩;rcases zq.1 f with h|rfl
  ·exact g k B A j h
  ·exact ab k B A
 |some at_=>
  have hh:=sJ hb;obtain⟨h1,S,h3⟩:=hh;dsimp only;have s:b<rows.length:=by omega
  obtain⟨l,z⟩:∃l,l=iR rows b at_:=⟨_,rfl⟩
  have l1:l.length=rows.length:=by rw[z,kX]
  have W:bh n l:=by rw[z];exact GB I s S
  have q1:∀k,az l k=if k=at_ then az rows b else if k=b then az rows at_ else az rows k:=fun k=>by rw[z,xF s S]
  have U:az l b=az rows at_:=by
   rw[q1];by_cases h:b=at_
   ·rw[if_pos h,h]
   ·rw[if_neg h,if_pos rfl]
  have K:aN (az l b) c≠0:=by rw[U];exact h3
  obtain⟨u,y⟩:∃u,u=jF b c l:=⟨_,rfl⟩
  have l2:u.length=rows.length:=by rw[y,oy,l1]
  have E:bh n u:=by rw[y];exact AX W (by omega)
  have q2:∀k,az u k=if b=k then scaleB (Gf.inv (aN (az l b) c)) (az l b)else az l k:=fun k=>by rw[y,DY (by omega)]
  have ap:∀j,aN (az l b) j=0->aN (az u b) j=0:=fun j f=>by rw[q2,if_pos rfl,Ba,f,Gf.mul_zero]
  have o:aN (az u b) c=1:=by rw[q2,if_pos rfl,Ba,Gf.mul_comm,Gf.Od K]
  obtain⟨N,q⟩:∃N,N=ez b c u rows.length:=⟨_,rfl⟩
  have l3:N.length=rows.length:=by rw[q,oz,l2]
  have q3:∀k,k<rows.length->∀j,aN (az N k) j=if k=b then aN (az u b) j else aN (az l k) j^^^Gf.mul (aN (az l k) c) (aN (az u b) j):=fun k H j=>by
   rw[q,rZ (by omega)];by_cases h:k=b
   ·rw[if_neg (by omega),if_pos h,h]
   ·have e:=q2 k;rw[if_neg (fun hh=>h hh.symm)]at e;rw[if_pos ⟨H,h⟩,if_neg h,cH (by rw[cb E (by omega),cb E (by omega)]),e]
  have T:∀j,j<c->aN (az u b) j=0:=fun j f=>ap j (by rw[U];exact g at_ h1 S j f);have keep:∀k,k<rows.length->∀j,j<c->aN (az N k) j=if k=b then 0 else aN (az l k) j:=fun k H j f=>by
   rw[q3 k H,T j f,Gf.mul_zero,zS]
  have L:∀k,k<b->az l k=az rows k:=fun k H=>by rw[q1,if_neg (by omega),if_neg (by omega)]
  have J:∀k,b<=k->k<rows.length->∀j,j<c->aN (az l k) j=0:=fun k B A j f=>by
   rw[q1];split
   ·exact g b (ql _) s j f
   ·split
    ·exact g at_ h1 S j f
    ·exact g k B A j f
  have D:∀v,Span n N v↔Span n m v:=fun v=>by
   rw[q,show rows.length=u.length by omega,aaA E (by omega),y,aaz W (by omega) K,z,aay I s S,hS]
  have R:BJ (Span n m) c:=⟨az N b,(D _).1 (Span.row (by rw[q];exact AY E (by omega)) (mem_row (by omega))),fun j f=>by rw[keep b s j f,if_pos rfl],by rw[q3 b s,if_pos rfl,o];decide⟩
  have Y:ez b c (jF b c (iR rows b at_)) rows.length=N:=by rw[q,y,z]
  rw[Y];refine⟨by rw[q];exact AY E (by omega),by omega,by omega,D,by rw[LL,if_pos R,M],⟨fun i=>if i<b then p i else c,fun i F=>?_,fun i F k H=>?_,fun i F j f=>?_,fun i j ao f=>?_⟩,fun k B A j f=>?_⟩
  ·dsimp only;split
   ·have:=Q i (by assumption);omega
   ·omega
  ·dsimp only;by_cases d:i<b
   ·rw[if_pos d,keep k (by omega) _ (Q i d)];by_cases P:k<b
    ·rw[if_neg (by omega),L k P];exact p2 i d k (by omega)
    ·rw[if_neg (show¬k=i by omega)];split
     ·rfl
     ·exact J k (by omega) (by omega) _ (Q i d)
   ·have O:i=b:=by omega
    subst O;rw[if_neg d,q3 k (by omega)];by_cases G:k=i
    ·rw[if_pos G,if_pos G];exact o
    ·rw[if_neg G,if_neg G,o,Gf.mul_one];exact kY _
  ·dsimp only at f;by_cases d:i<b
   ·rw[if_pos d]at f;have:=Q i d;rw[keep i (by omega) j (by omega),if_neg (by omega),L i d];exact p3 i d j f
   ·have O:i=b:=by omega
    subst O;rw[if_neg d]at f;rw[keep i (by omega) j f,if_pos rfl]
  ·dsimp only;rw[if_pos (show i<b by omega)];split
   ·exact p4 i j ao (by assumption)
   ·exact Q i (by omega)
  ·rcases zq.1 f with h|rfl
   ·rw[keep k (by omega) j h,if_neg (by omega)];exact J k (by omega) (by omega) j h
   ·rw[q3 k (by omega),if_neg (by omega),o,Gf.mul_one];exact kY _
theorem IU(a:bh n m):∀c,c<=n->Way n m c (bF m c).1 (bF m c).2
 |0,_=>aaB a
 |c+1,h=>by rw[bF];exact adf a (IU a c (by omega)) (by omega)
theorem lr:∀c,bF [] c=(0,[])
 |0=>rfl
 |c+1=>by rw[bF,lr c];rfl
theorem pG(a:bh n m):cL m=leads (Span n m) n:=by
 rw[<-(IU a n (ql _)).cnt,cL];cases m with
 |nil=>rw[lr,lr]
 |cons x t=>rw[fM,bu (by simp)];rw[show((x::t)[0]).length=n from a _ (by simp)]
end
section
variable {n:Nat} {m m':aS}
theorem Ym{S b:Row->Prop}(h:∀v,S v->b v)(n:Nat):leads S n<=leads b n:=by
 refine List.countP_mono_left fun j _ a=>?_;simp only[decide_eq_true_eq]at a⊢;obtain⟨v,d,c⟩:=a;exact⟨v,h v d,c⟩
theorem GJ(a:bh n m):cL m<=n:=by
 rw[pG a];have:=vB (p:=fun j=>decide (BJ (Span n m) j)) (l:=qC n);simpa[leads]using this
theorem aaC(b:bh n m)(a:bh n m')(h:∀r∈m,r∈m'):cL m<=cL m':=by
 rw[pG b,pG a];exact Ym (fun v=>Span.mono h) n
theorem aaD{P Q:Nat->Bool}(l:List Nat)(d:l.Nodup)(i:∀a∈l,P a=true->Q a=true)(e:∀a∈l,∀b∈l,Q a=true->P a=false->Q b=true->P b=false->a=b):l.countP Q<=l.countP P+1:=by
 induction l with
 |nil=>simp
 |cons x t ih=>
  rw[wR]at d;have g:=ih d.2 (fun a c=>i a (by simp[c])) (fun a c b h=>e a (by simp[c]) b (by simp[h]));simp only[List.countP_cons];cases hQ:Q x with
  |false=>
   have:(if P x=true then 1 else 0)>=0:=by omega
   simp;omega
  |true=>
   cases hP:P x with
   |true=>simp;omega
   |false=>
    have:t.countP Q<=t.countP P:=by
     refine List.countP_mono_left fun a c f=>?_;cases hpa:P a with
     |true=>rfl
     |false=>
      have:=e x (by simp) a (by simp[c]) hQ hP f hpa;subst this;exact absurd c d.1
    simp;omega
theorem PN(e:bh n m){r:Row}(i:r.length=n){v:Row}(l:Span n (m++[r]) v):∃(c:UInt8) (u:Row),Span n m u/\v=df c r u:=by
 have o:bh n (m++[r]):=fun x f=>by
  rcases qB.1 f with h|h
  ·exact e x h
  ·rw[qH.1 h];exact i
 induction l with
 |zero=>exact⟨0,aL n,.zero,(fq (n:=n) (by rw[ca (by simp[aL,i])];simp[aL]) (by simp[aL]) fun j _=>by rw[cH (by simp[aL,i]),ct,Gf.zero_mul];rfl).symm⟩
 |add d x w f hw ih=>
  obtain⟨c,u,b,rfl⟩:=ih;have a:=b.len e;rcases qB.1 f with h|h
  ·have k:=e x h;refine⟨c,df d x u,.add d x u h b,fq (n:=n) (by rw[ca (by rw[ca (by omega)];omega),ca (by omega)];exact a) (by rw[ca (by rw[ca (by omega)];omega),ca (by omega)];exact a) fun j _=>?_⟩;rw[cH (by rw[ca (by omega)];omega),cH (by omega),cH (by rw[ca (by omega)];omega),cH (by omega)]
   ac_rfl
  ·have g:=qH.1 h;subst g;refine⟨c^^^d,u,b,fq (n:=n) (by rw[ca (by rw[ca (by omega)];omega),ca (by omega)];exact a) (by rw[ca (by omega)];exact a) fun j _=>?_⟩;rw[cH (by rw[ca (by omega)];omega),cH (by omega),cH (by omega),Gf.Xf]
   ac_rfl
theorem aaE(a:bh n m){r:Row}(c:r.length=n):bh n (m++[r]):=fun x b=>by
 rcases qB.1 b with h|h
 ·exact a x h
 ·rw[qH.1 h];exact c
theorem aaF(f:bh n m){r:Row}(E:r.length=n):cL m<=cL (m++[r])/\cL (m++[r])<=cL m+1:=by
 have p:=aaE f E;refine⟨aaC f p fun x F=>by simp[F],?_⟩;rw[pG f,pG p];refine aaD _ yR (fun a _ J=>?_) (fun a _ b _ G k B o=>?_)
 ·simp only[decide_eq_true_eq]at J⊢;obtain⟨v,I,H⟩:=J;exact⟨v,Span.mono (fun x F=>by simp[F]) I,H⟩
 ·simp only[decide_eq_true_eq,decide_eq_false_iff_not]at G k B o;have l:∀a b,BJ (Span n (m++[r])) a->¬BJ (Span n m) a->BJ (Span n (m++[r])) b->¬BJ (Span n m) b->¬a<b:=by
   rintro a b ⟨v,O,N,t⟩ k ⟨w,M,h,q⟩ o D;obtain⟨c,u,K,rfl⟩:=PN f E O;obtain⟨d,s,g,rfl⟩:=PN f E M;have l1:=K.len f;have l2:=g.len f;have L:d≠0:=by
    rintro rfl;apply o;refine⟨s,g,fun i A=>?_,?_⟩
    ·have:=h i A;rw[cH (by omega),Gf.zero_mul,zS]at this;exact this
    ·rw[cH (by omega),Gf.zero_mul,zS]at q;exact q
   apply k;refine⟨df (Gf.mul c (Gf.inv d)) s u,g.comb f K _,?_⟩;have e:∀j,aN (df (Gf.mul c (Gf.inv d)) s u) j=aN (df c r u) j^^^Gf.mul (Gf.mul c (Gf.inv d)) (aN (df d r s) j):=fun j=>by
    rw[cH (by omega),cH (by omega),cH (by omega),Gf.jP,<-Gf.mul_assoc (Gf.mul c (Gf.inv d)) d,Gf.mul_assoc c (Gf.inv d) d,Gf.mul_comm (Gf.inv d) d,Gf.Od L,Gf.mul_one];have:∀x y z:UInt8,x^^^y=x^^^z^^^(y^^^z):=fun x y z=>by
     have:x^^^z^^^(y^^^z)=x^^^y^^^(z^^^z):=by ac_rfl
     rw[this,kY,zS]
    exact this _ _ _
   refine⟨fun i A=>?_,?_⟩
   ·rw[e,N i A,h i (by omega),Gf.mul_zero];rfl
   ·rw[e,h a D,Gf.mul_zero,zS];exact t
  have I:=l a b G k B o;have H:=l b a B o G k;omega
theorem pH(m:aS)(h:bh n m):cL m<=m.length:=by
 have a:∀k,k<=m.length->cL (m.take k)<=k:=by
  intro k
  induction k with
  |zero=>intro _;simp[cL,fM,az,bF]
  |succ k ih=>
   intro d;have b:bh n (m.take k):=fun x c=>h x (zM c);have f:=ih (by omega);rw[zu (by omega)];have e:=(aaF b (h _ (qg (show k<m.length by omega)))).2;omega
 have:=a m.length (ql _)
 rwa [qi (ql _)]at this
end
def LM(p:Int×Int×Int)(seed:Int)(ids:List Int):Nat:=cL (dM p seed ids)
def fR(p:Int×Int×Int)(seed:Int)(ids:List Int):Bool:=bJ p&&((LM p seed ids:Int)==bZ p)
def eI(p:Int×Int×Int):List Int:=upto (max 0 (min p.1 16)).toNat
theorem se{p:Int×Int×Int}(h:bJ p=true):bZ p=p.1+p.2.1:=by rw[bZ,if_pos h]
theorem mJ(p:Int×Int×Int)(seed:Int)(ids:List Int):bh (bZ p).toNat (dM p seed ids):=by
 intro r a;unfold dM at a;split at a
 ·rename_i b;have:=(bK p).1 b;rcases qB.1 a with h|h
  ·obtain⟨x,_,rfl⟩:=qu.1 h;rw[GA,se b];omega
  ·obtain⟨x,_,rfl⟩:=qu.1 h;exact adb _ _ _
 ·cases a
theorem adg(p:Int×Int×Int)(seed:Int)(ids:List Int):(dM p seed ids).length<=4+ids.length:=by
 unfold dM;split
 ·rename_i a;have:=(bK p).1 a;have b:=qY bU ids;simp only[qw,bw,qx,zw];omega
 ·simp
theorem LN(K H:Nat):bh (K+H) (bw K H):=fun r a=>by
 obtain⟨x,_,rfl⟩:=qu.1 a;exact GA _ _ _
def dX(a b:aS):aS:=zm (·++·) a b
def km(n:Nat)(m:aS):aS:=m.map (List.take n)
theorem Ko{r:Row}{n j:Nat}(h:j<n):aN (r.take n) j=aN r j:=by
 simp only[aN,qe,vo];rw[if_pos h]
theorem SQ(r:Row)(n j:Nat):aN (r.drop n) j=aN r (n+j):=by
 simp only[aN,qe,wB]
theorem ww(n:Nat)(m:aS)(i:Nat):az (km n m) i=(az m i).take n:=by
 simp only[az,km,qe,qP];cases m[i]? with
 |none=>simp
 |some r=>rfl
theorem Oe(n:Nat)(m:aS):(km n m).length=m.length:=by simp[km]
theorem Yn{n a bp:Nat}(m:aS)(h:bp<n):iz (km n m) a bp=iz m a bp:=by
 unfold iz;rw[Oe];congr 1;funext i;rw[ww,Ko h]
theorem Of(n:Nat)(m:aS)(i:Nat)(r:Row):km n (m.set i r)=(km n m).set i (r.take n):=by simp[km,List.map_set]
theorem adh(n:Nat)(m:aS)(i j:Nat):km n (iR m i j)=iR (km n m) i j:=by
 rw[iR,Of,Of,iR,ww,ww]
theorem aaG(n:Nat)(c:UInt8)(r:Row):(scaleB c r).take n=scaleB c (r.take n):=by simp[scaleB,List.map_take]
theorem afs(n:Nat)(c:UInt8)(a t:Row):(df c a t).take n=df c (a.take n) (t.take n):=by simp[df,List.take_zipWith]
theorem adi{n bp:Nat}(h:bp<n)(t:Nat)(m:aS):km n (jF t bp m)=jF t bp (km n m):=by
 rw[jF,Of,aaG,jF,ww,Ko h]
theorem adj{n bp:Nat}(h:bp<n)(t k:Nat)(m:aS):km n (ez t bp m k)=ez t bp (km n m) k:=by
 apply zK;intro i;simp only[km,ez,qP,y7];cases m[i]? with
 |none=>rfl
 |some r=>
  simp only[qN];congr 1;have:=ww n m t;rw[km]at this;rw[this,Ko h];split
  ·exact afs _ _ _ _
  ·rfl
theorem adk{n bp:Nat}(h:bp<n)(s:Nat×aS):((iS s bp).1,km n (iS s bp).2)=iS (s.1,km n s.2) bp:=by
 unfold iS;dsimp only;rw[Yn _ h];cases iz s.2 s.1 bp with
 |none=>rfl
 |some i=>dsimp only;rw[adj h,adi h,adh,Oe]
theorem LO(n:Nat)(m:aS):∀c,c<=n->((bF m c).1,km n (bF m c).2)=bF (km n m) c
 |0,_=>rfl
 |c+1,h=>by
  have a:=LO n m c (by omega);rw[bF,bF,adk (show c<n by omega),a]
theorem lS{a b:aS}(h:a.length=b.length):(dX a b).length=a.length:=by simp[dX,h]
theorem IV{a b:aS}(h:a.length=b.length){i:Nat}(c:i<a.length):az (dX a b) i=az a i++az b i:=by
 rw[bu (by rw[lS h];exact c),bu c,bu (by omega)];simp[dX]
theorem mK{n w:Nat}{a b:aS}(h:a.length=b.length)(d:bh n a)(e:bh w b):bh (n+w) (dX a b):=fun r f=>by
 obtain⟨i,c,rfl⟩:=ft f;rw[lS h]at c;rw[IV h c,qw,cb d c,cb e (by omega)]
theorem aft{n:Nat}{a b:aS}(h:a.length=b.length)(d:bh n a):km n (dX a b)=a:=by
 apply wk (by rw[Oe,lS h]);intro i e c;have:=ww n (dX a b) i;rw[bu e,IV h c,List.take_left' (cb d c),bu c]at this;exact this
theorem adl{n:Nat}{a:aS}(b:bh n a):(bF a n).1=cL a:=by
 rw[cL];cases a with
 |nil=>rw[lr,lr]
 |cons x t=>rw[fM,bu (by simp)];rw[show((x::t)[0]).length=n from b _ (by simp)]
theorem Kp{n:Nat}{a b:aS}(h:a.length=b.length)(c:bh n a):(bF (dX a b) n).1=cL a:=by
 have:=congrArg qJ (LO n (dX a b) n (ql _));rw[aft h c]at this;rw[<-adl c];exact this
def sf(w:Nat)(r:Row)(X:aS):Nat->Row
 |0=>aL w
 |k+1=>df (aN r k) (az X k) (sf w r X k)
theorem hO{n w:Nat}{X:aS}(a:bh w X)(c:X.length=n)(r:Row):∀k,k<=n->(sf w r X k).length=w
 |0,_=>by simp[sf,aL]
 |k+1,h=>by
  have b:=hO a c r k (by omega);rw[sf,ca (by rw[cb a (by omega),b])];exact b
theorem gw{n w:Nat}{X:aS}(a:bh w X)(b:X.length=n)(r:Row)(j:Nat):∀k,k<=n->aN (sf w r X k) j=bE (fun i=>aN r i) (fun i=>aN (az X i) j) k
 |0,_=>by rw[sf,ct];rfl
 |k+1,h=>by
  have c:=gw a b r j k (by omega);rw[sf,cH (by rw[cb a (by omega),hO a b r k (by omega)]),c];rfl
def fc(n w:Nat)(a b X:aS):Prop:=X.length=n/\bh w X/\∀i,i<a.length->sf w (az a i) X n=az b i
theorem adm{m a:aS}(d:m.length=a.length)(h:∀i,i<m.length->az m i=az a i):m=a:=by
 apply wk d;intro i b c;have:=h i b
 rwa [bu b,bu c]at this
def xG(n:Nat)(X:aS)(k:Nat)(v:Row):UInt8:=aN v (n+k)^^^bE (fun i=>aN v i) (fun i=>aN (az X i) k) n
theorem fu{f f' g a:Nat->UInt8}:∀k,(∀i,i<k->f i=f' i)->(∀i,i<k->g i=a i)->bE f g k=bE f' a k
 |0,_,_=>rfl
 |k+1,h1,h2=>by rw[bE,bE,fu k (fun i b=>h1 i (by omega)) (fun i b=>h2 i (by omega)),h1 k (by omega),h2 k (by omega)]
theorem Xj(n:Nat)(X:aS)(k:Nat)(c:UInt8)(a t:Row)(h:a.length=t.length):xG n X k (df c a t)=xG n X k t^^^Gf.mul c (xG n X k a):=by
 unfold xG;rw[cH h];have:bE (fun i=>aN (df c a t) i) (fun i=>aN (az X i) k) n=bE (fun i=>aN t i^^^Gf.mul c (aN a i)) (fun i=>aN (az X i) k) n:=fu n (fun i _=>cH h i) fun _ _=>rfl;rw[this,IT,Gf.jP];ac_rfl
theorem Xk{a b:Row}{n:Nat}(c:a.length=n)(k:Nat):aN (a++b) (n+k)=aN b k:=by
 simp only[aN,qe];rw[qj (by omega),c,zn]
theorem SS{a b:Row}{n j:Nat}(c:a.length=n)(d:j<n):aN (a++b) j=aN a j:=by
 simp only[aN,qe];rw[qn (by omega)]
theorem pI{a b:UInt8}:a^^^b=0↔a=b:=by
 constructor
 ·intro h;have:=congrArg (·^^^b) h;simp only[wg]at this
  rwa [wt]at this
 ·rintro rfl;exact kY _
theorem LP{n w:Nat}{a b X:aS}(h:a.length=b.length)(f:bh n a)(p:bh w b)(g:X.length=n)(l:bh w X):fc n w a b X↔∀k,k<w->∀v,Span (n+w) (dX a b) v->xG n X k v=0:=by
 have e:=mK h f p;constructor
 ·intro x k o v u;refine Span.lin e (xG n X k) ?_ (fun c a t z y=>Xj n X k c a t (by omega)) (fun r s=>?_) u
  ·unfold xG;rw[ct,fl _ _ n fun i _=>ct _ _];rfl
  ·obtain⟨i,d,rfl⟩:=ft s;rw[lS h]at d;rw[IV h d];unfold xG;rw[Xk (cb f d),<-x.2.2 i d,gw l g _ k n (ql _),pI];exact fu n (fun j m=>(SS (cb f d) m).symm) fun _ _=>rfl
 ·intro q;refine⟨g,l,fun i d=>fq (n:=w) (hO l g _ n (ql _)) (cb p (by omega)) fun k o=>?_⟩;have:=q k o _ (Span.row e (mem_row (show i<(dX a b).length by rw[lS h];exact d)));rw[IV h d]at this;unfold xG at this;rw[Xk (cb f d),pI]at this;rw[this,gw l g _ k n (ql _)];exact fu n (fun j m=>(SS (cb f d) m).symm) fun _ _=>rfl
theorem agF{n:Nat}{p:Nat->Nat}(c:∀i,i<n->p i<n)(b:∀i j,i<j->j<n->p i<p j):∀i,i<n->p i=i:=by
 have d:∀i,i<n->i<=p i:=by
  intro i
  induction i with
  |zero=>intro _;omega
  |succ i ih=>intro a;have:=ih (by omega);have:=b i (i+1) (by omega) a;omega
 have up:∀k i,i+k+1=n->p i<=i:=by
  intro k
  induction k with
  |zero=>intro i a;have:=c i (by omega);omega
  |succ k ih=>intro i a;have:=ih (i+1) (by omega);have:=b i (i+1) (by omega) (by omega);omega
 intro i a;have:=d i a;have:=up (n-1-i) i (by omega);omega
def fD(n:Nat)(a b:aS):aS:=(((bF (dX a b) n).2).take n).map (vW n)
def kE(n:Nat)(a b:aS):Prop:=∀r∈((bF (dX a b) n).2).drop n,r=aL r.length
section
variable {n w:Nat} {a b:aS}
theorem xm(h:a.length=b.length)(e:bh n a)(g:bh w b)(j:cL a=n):(fD n a b).length=n/\bh w (fD n a b):=by
 have d:=mK h e g;have f:=ik d n;have h3:=pH a e;refine⟨by rw[fD,qx,qZ,f.2,lS h];omega,fun r c=>?_⟩;obtain⟨x,i,rfl⟩:=qu.1 c;rw[q7,f.1 x (zM i)];omega
theorem Xl(h:a.length=b.length)(d:bh n a)(e:cL a=n){i:Nat}(c:i<n):az (fD n a b) i=(az (bF (dX a b) n).2 i).drop n:=by
 simp only[az,fD,qe,qP,vo];rw[if_pos c]
 cases(bF (dX a b) n).2[i]? with
 |none=>simp
 |some r=>rfl
theorem SU(h:a.length=b.length)(e:bh n a)(q:bh w b)(o:cL a=n):
  (∀v,Span (n+w) (bF (dX a b) n).2 v↔Span (n+w) (dX a b) v)/\(bF (dX a b) n).2.length=a.length/\(∀i,i<n->∀k,k<a.length->aN (az (bF (dX a b) n).2 k) i=if k=i then 1 else 0):=by
 have c:=mK h e q;have W:=IU c n (by omega);have l:(bF (dX a b) n).1=n:=by rw[Kp h e,o]
 obtain⟨p,g,j,m,f⟩:=W.piv;rw[l]at g j m f;have hid:=agF g f;have r:(bF (dX a b) n).2.length=a.length:=by rw[W.len,lS h]
 refine⟨W.span,r,fun i d k s=>?_⟩;have:=j i d k (by omega)
 rwa [hid i d]at this
theorem SV{X:aS}{r:Row}{i k:Nat}(a:i<n)(c:∀j,j<n->aN r j=if i=j then 1 else 0):xG n X k r=aN r (n+k)^^^aN (az X i) k:=by
 unfold xG;rw[IS _ _ i n a fun j b=>c j b]
theorem Xm{X:aS}{r:Row}{k:Nat}(a:∀j,j<n->aN r j=0):xG n X k r=aN r (n+k):=by
 unfold xG;rw[fl _ _ n a,zS]
theorem lu(h:a.length=b.length)(l:bh n a)(p:bh w b)(x:cL a=n){X:aS}(g:fc n w a b X):X=fD n a b/\kE n a b:=by
 have u:=mK h l p;have t:=ik u n;obtain⟨m,D,s⟩:=SU h l p x;have B:=pH a l;have y:=(LP h l p g.1 g.2.1).1 g;obtain⟨z,s2⟩:=xm h l p x;constructor
 ·refine adm (by rw[g.1,z]) fun i c=>fq (n:=w) (cb g.2.1 c) (cb s2 (by rw[z];rw[g.1]at c;exact c)) fun k A=>?_;rw[g.1]at c;have h3:=y k A _ ((m _).1 (Span.row t.1 (mem_row (show i<(bF (dX a b) n).2.length by omega))));rw[SV c fun j o=>s j o i (by omega)]at h3;rw[Xl h l x c,SQ];exact(pI.1 h3).symm
 ·intro r q;obtain⟨i,c,rfl⟩:=qG q;rw[q7]at c;rw[zZ];have f:n+i<(bF (dX a b) n).2.length:=by omega
  have e:=bu f;have d:=cb t.1 f;rw[<-e,d];refine fq (n:=n+w) d (by simp[aL]) fun j o=>?_;rw[ct];by_cases v:j<n
  ·rw[s j v (n+i) (by omega),if_neg (by omega)]
  ·obtain⟨k,rfl⟩:∃k,j=n+k:=⟨j-n,by omega⟩
   have h3:=y k (by omega) _ ((m _).1 (Span.row t.1 (mem_row f)))
   rwa [Xm fun j o=>by rw[s j o (n+i) (by omega),if_neg (by omega)]]at h3
theorem pJ(h:a.length=b.length)(e:bh n a)(g:bh w b)(p:cL a=n)(z:kE n a b):fc n w a b (fD n a b):=by
 have o:=mK h e g;have u:=ik o n;obtain⟨m,G,s⟩:=SU h e g p;have A:=pH a e;obtain⟨D,s2⟩:=xm h e g p;refine(LP h e g D s2).2 fun k E v B=>?_;refine Span.lin u.1 (xG n (fD n a b) k) ?_ (fun c x t F u=>Xj n _ k c x t (by omega)) (fun r l=>?_) ((m v).2 B)
 ·unfold xG;rw[ct,fl _ _ n fun i _=>ct _ _];rfl
 ·obtain⟨i,y,rfl⟩:=ft l;by_cases f:i<n
  ·rw[SV f fun j q=>s j q i (by omega),Xl h e p f,SQ];exact kY _
  ·rw[Xm fun j q=>by rw[s j q i (by omega),if_neg (by omega)]];have:az (bF (dX a b) n).2 i∈(bF (dX a b) n).2.drop n:=by
    rw[bu y];obtain⟨d,rfl⟩:∃d,i=n+d:=⟨i-n,by omega⟩
    rw[<-zZ (h:=by rw[q7];omega)];exact qg _
   rw[z _ this,ct]
theorem Vo(h:a.length=b.length)(e:bh n a)(f:bh w b)(i:a.length=n):kE n a b:=by
 have c:=mK h e f;have g:=ik c n;intro r d;rw[zg (by rw[g.2,lS h];omega)]at d;cases d
end
def SX(l:List Int):Prop:=∀a b,a<l.length->b<l.length->kL l a=kL l b->a=b
theorem IW{l:List Int}{i:Nat}(h:i<l.length):kL l i=l[i]:=by rw[kL,qe,qd h];rfl
theorem adn{l:List Int}{i j k:Nat}(c:i<l.length)(d:j<l.length):kL (sI l i j) k=if k=j then kL l i else if k=i then kL l j else kL l k:=by
 simp only[kL,sI,qe,q8,zH];by_cases a:j=k
 ·subst a;simp[d]
 ·by_cases b:i=k
  ·subst b;simp[a,c];omega
  ·simp[a,b];omega
theorem swap_inj{l:List Int}{i j:Nat}(g:i<l.length)(o:j<l.length)(h:SX l):SX (sI l i j):=by
 intro a b m p n;rw[SH]at m p;have c:∀k,k<l.length->∃σ,σ<l.length/\kL (sI l i j) k=kL l σ/\(σ=if k=j then i else if k=i then j else k):=fun k r=>by
  rw[adn g o];by_cases f:k=j
  ·rw[if_pos f,if_pos f];exact⟨i,g,rfl,rfl⟩
  ·rw[if_neg f,if_neg f];by_cases e:k=i
   ·rw[if_pos e,if_pos e];exact⟨j,o,rfl,rfl⟩
   ·rw[if_neg e,if_neg e];exact⟨k,r,rfl,rfl⟩
 obtain⟨s,w,u,v⟩:=c a m;obtain⟨t,q,e2,d⟩:=c b p;rw[u,e2]at n;have:=h s t w q n;subst this;rw[v]at d;split at d<;>split at d<;>(try split at d)<;>(try split at d)<;>omega
theorem aaH{l:List Int}(h:SX l):l.Nodup:=by
 rw[List.nodup_iff_pairwise_ne,zd];intro i j a b c d;have:=h i j a b (by rw[IW a,IW b];exact d);omega
theorem ado(n:Nat):SX (upto n):=by
 intro a b c d e;rw[gu]at c d;rw[IW (by rw[gu];exact c),IW (by rw[gu];exact d)]at e;simp[upto]at e;omega
theorem SY(n:Nat)(s:Int):∀k,k<=n->n<=64->SX (fZ n s (upto n) k).2
 |0,_,_=>ado n
 |k+1,hk,hn=>by
  have a:=xB n s (upto n) k;rw[gu]at a;have:=xA (fZ n s (upto n) k).1 ((n-k:Nat):Int) (by omega) (by omega);exact swap_inj (by omega) (by omega) (SY n s k (by omega) hn)
theorem Yo(s:Int)(n k:Nat)(a:k<=n)(b:n<=64):(IL s n k).Nodup:=by
 have h:=(aaH (SY n s k a b)).sublist (List.take_sublist k _);exact(yn _ _).nodup_iff.2 h
theorem DZ{n:Nat}(b:1<=n)(a:n<=20)(seed id:Int):(de n seed id).Nodup:=Yo _ _ _ (xC _ n b a) (by omega)
theorem Vp(n:Nat)(seed id:Int):(de n seed id).Pairwise (·<=·):=by
 have:=yQ (le:=fun x y:Int=>decide (x<=y)) (by intro a b c;simp;omega) (by intro a b;simp;omega) ((fZ n (EW (EW (Gz seed id))) (upto n) (IP (EW (Gz seed id)) n)).2.take (IP (EW (Gz seed id)) n));exact this.imp (by simp)
theorem Og{r:Row}{i j:Nat}{x:UInt8}(a:i<r.length):aN (r.set i x) j=if j=i then x else aN r j:=by
 simp only[aN,qe,q8];by_cases h:i=j
 ·subst h;simp[a]
 ·simp[h];intro e;exact absurd e.symm h
theorem PO(n:Nat)(l:List Int)(c:Int):fH n (l++[c])=(fH n l).set c.toNat 1:=by rw[fH,wM];rfl
theorem Ea{n:Nat}:∀(l:List Int) (_:∀x∈l,0<=x/\x<(n:Int)) (j:Nat),aN (fH n l) j=if(j:Int)∈l then 1 else 0:=by
 intro l;have d:∀k,k<=l.length->(∀x∈l,0<=x/\x<(n:Int))->∀j:Nat,aN (fH n (l.take k)) j=if(j:Int)∈l.take k then 1 else 0:=by
  intro k
  induction k with
  |zero=>intro _ _ j;simp[fH];exact ct n j
  |succ k ih=>
   intro f b j;have g:=b _ (qg (show k<l.length by omega));rw[zu (by omega),PO,Og (by rw[rX];omega),ih (by omega) b];have a:(j:Int)∈l.take k++[l[k]]↔(j:Int)∈l.take k∨(j:Int)=l[k]:=by rw[qB,qH]
   by_cases h:j=l[k].toNat
   ·rw[if_pos h,if_pos (a.2 (.inr (by omega)))]
   ·rw[if_neg h];by_cases c:(j:Int)∈l.take k
    ·rw[if_pos c,if_pos (a.2 (.inl c))]
    ·rw[if_neg c,if_neg (fun e=>(a.1 e).elim c fun h3=>h (by omega))]
 intro b j;have:=d l.length (ql _) b j
 rwa [qi (ql _)]at this
theorem Kq{f f' g:Nat->UInt8}{c:Nat}(b:f c=0)(d:∀i,f' i=if i=c then 1 else f i):∀k,bE f' g k=bE f g k^^^if c<k then g c else 0
 |0=>by simp[bE]
 |k+1=>by
  rw[bE,bE,Kq b d k,d k];by_cases a:k=c
  ·subst a;rw[if_pos rfl,if_neg (by omega),if_pos (by omega),Gf.one_mul,b,Gf.zero_mul]
  ·rw[if_neg a];by_cases h:c<k
   ·rw[if_pos h,if_pos (by omega)];ac_rfl
   ·rw[if_neg h,if_neg (by omega)];simp
def fv(w:Nat)(X:aS)(l:List Int):Row:=l.foldl (fun s c=>df 1 (az X c.toNat) s) (aL w)
theorem Eb(w:Nat)(X:aS)(l:List Int)(c:Int):fv w X (l++[c])=df 1 (az X c.toNat) (fv w X l):=by rw[fv,wM];rfl
theorem pK{n w:Nat}{X:aS}(b:bh w X)(e:X.length=n){l:List Int}(a:∀x∈l,0<=x/\x<(n:Int)):∀k,k<=l.length->(fv w X (l.take k)).length=w:=by
 intro k
 induction k with
 |zero=>intro _;simp[fv,aL]
 |succ k ih=>
  intro c;have d:=a _ (qg (show k<l.length by omega));rw[zu (by omega),Eb,ca (by rw[cb b (by omega),ih (by omega)])];exact ih (by omega)
theorem Xn{n w:Nat}{X:aS}(b:bh w X)(c:X.length=n){l:List Int}(a:∀x∈l,0<=x/\x<(n:Int)):(fv w X l).length=w:=by
 have:=pK b c a l.length (ql _)
 rwa [qi (ql _)]at this
theorem afu{n w:Nat}{X:aS}(a:bh w X)(b:X.length=n){l:List Int}(d:∀x∈l,0<=x/\x<(n:Int))(o:l.Nodup):fv w X l=sf w (fH n l) X n:=by
 have h:∀k,k<=l.length->fv w X (l.take k)=sf w (fH n (l.take k)) X n:=by
  intro k
  induction k with
  |zero=>
   intro _;refine fq (n:=w) (by simp[fv,aL]) (hO a b _ n (ql _)) fun j _=>?_;rw[gw a b _ j n (ql _),fl _ _ n fun i _=>by simp only[vO,fH,wQ];exact ct n i];simp only[vO,fv,wQ];exact ct w j
  |succ k ih=>
   intro r;have q:=d _ (qg (show k<l.length by omega));have p:=pK a b d k (by omega);rw[zu (by omega),Eb,PO,ih (by omega)];refine fq (n:=w) ?_ (hO a b _ n (ql _)) fun j _=>?_
   ·rw[ca (by rw[cb a (by omega),hO a b _ n (ql _)])];exact hO a b _ n (ql _)
   ·rw[cH (by rw[cb a (by omega),hO a b _ n (ql _)]),gw a b _ j n (ql _),gw a b _ j n (ql _)];have g:l[k]∉l.take k:=fun m=>by
     have e:l=l.take k++l[k]::l.drop (k+1):=by rw[<-qW (by omega),qE]
     rw[e,List.nodup_append]at o;exact o.2.2 _ m _ qU rfl
    have h0:aN (fH n (l.take k)) l[k].toNat=0:=by
     rw[Ea _ (fun x q=>d x (zM q)),if_neg];intro m;apply g;have:((l[k].toNat:Nat):Int)=l[k]:=by omega
     rwa [this]at m
    rw[Kq (f:=fun i=>aN (fH n (l.take k)) i) (c:=l[k].toNat) h0 (fun i=>Og (by rw[rX];omega)) n,if_pos (by omega),Gf.one_mul]
 have:=h l.length (ql _)
 rwa [qi (ql _)]at this
open Go Go.Vc
def jy(K H w:Nat)(d:Row):aS:=qh H (aL w)++(qC K).map (Gu d w)
def eJ(p:Int×Int×Int)(seed:Int)(d:Row):aS:=fD (bZ p).toNat (dM p seed (eI p)) (jy p.1.toNat p.2.1.toNat p.2.2.toNat d)
structure bV (p:Int×Int×Int) (seed:Int) (d:Row) (K H w n:Nat):Prop where
 may:bJ p=true
 full:fR p seed (eI p)=true
 k:p.1=K
 h:p.2.1=H
 s:p.2.2=w
 n:n=K+H
 k1:1<=K
 k2:K<=16
 h1:1<=H
 h2:H<=4
 w1:1<=w
 w2:w<=24
 len:d.length=K*w
theorem aeR{p:Int×Int×Int}{seed:Int}{d:Row}(a:bJ p=true)(c:fR p seed (eI p)=true)(b:(d.length:Int)=p.1*p.2.2):∃K H w n,bV p seed d K H w n:=by
 have:=(bK p).1 a;refine⟨p.1.toNat,p.2.1.toNat,p.2.2.toNat,p.1.toNat+p.2.1.toNat,a,c,by omega,by omega,by omega,rfl,by omega,by omega,by omega,by omega,by omega,by omega,?_⟩;have e:p.1=(p.1.toNat:Int):=by omega
 have e2:p.2.2=(p.2.2.toNat:Int):=by omega
 rw[e,e2,<-wh]at b;exact Int.ofNat.inj b
section
variable {p:Int×Int×Int} {seed:Int} {d:Row} {K H w n:Nat}
theorem bV.cF(B:bV p seed d K H w n):bZ p=n:=by rw[se B.may,B.k,B.h,B.n];rfl
theorem bV.pL(B:bV p seed d K H w n):(bZ p).toNat=n:=by rw[B.cF];rfl
theorem Yp(a:p.1=(K:Int))(h:K<=16):eI p=upto K:=by
 rw[eI];congr 1;omega
theorem Vq(h:K<=16):(upto K).filter bU=upto K:=by
 rw[wq];intro x b;simp[upto]at b;obtain⟨a,c,rfl⟩:=b;simp[bU];omega
theorem bV.Sz(B:bV p seed d K H w n):dM p seed (eI p)=bw K H++(qC K).map fun i:Nat=>rY n seed (i:Int):=by
 rw[dM,if_pos B.may,Yp B.k B.k2,Vq B.k2,B.k,B.h,B.pL,qo,qo,upto,wS];rfl
theorem bV.GK(B:bV p seed d K H w n):(dM p seed (eI p)).length=n:=by
 rw[B.Sz,qw,qx,zw,bw,qx,zw,B.n];omega
theorem bV.IX(B:bV p seed d K H w n):bh n (dM p seed (eI p)):=by
 have:=mJ p seed (eI p)
 rwa [B.pL]at this
theorem bV.Oh(B:bV p seed d K H w n):cL (dM p seed (eI p))=n:=by
 have h:=B.full;rw[fR,B.may,B.cF,LM]at h;simp at h;exact Int.ofNat.inj h
theorem GL(K H w:Nat)(d:Row):(jy K H w d).length=K+H:=by simp[jy];omega
theorem uF(b:d.length=K*w):bh w (jy K H w d):=fun r c=>by
 rcases qB.1 c with h|h
 ·rw[(wT.1 h).2];simp[aL]
 ·obtain⟨i,a,rfl⟩:=qu.1 h;rw[qF]at a;exact afn (by rw[b];exact zr w a)
theorem aaI{i:Nat}(a:i<H):az (jy K H w d) i=aL w:=by
 rw[az,jy,qe,qn (by simpa using a)];simp[a]
theorem Yq{i:Nat}(a:i<K):az (jy K H w d) (H+i)=Gu d w i:=by
 rw[az,jy,qe,qj (by simp)];simp[a]
theorem bV.EY(B:bV p seed d K H w n):eJ p seed d=fD n (dM p seed (eI p)) (jy K H w d):=by
 rw[eJ,B.pL,B.k,B.h,B.s];rfl
theorem bV.lens(B:bV p seed d K H w n):(dM p seed (eI p)).length=(jy K H w d).length:=by rw[B.GK,GL,B.n]
theorem bV.sX(B:bV p seed d K H w n):(eJ p seed d).length=n/\bh w (eJ p seed d):=by
 rw[B.EY];exact xm B.lens B.IX (uF B.len) B.Oh
theorem bV.fc(B:bV p seed d K H w n):fc n w (dM p seed (eI p)) (jy K H w d) (eJ p seed d):=by
 rw[B.EY];exact pJ B.lens B.IX (uF B.len) B.Oh (Vo B.lens B.IX (uF B.len) B.GK)
theorem bV.agG(B:bV p seed d K H w n){i:Nat}(a:i<H):az (dM p seed (eI p)) i=lq K H i:=by
 rw[B.Sz,az,qe,qn (by simpa[bw]using a)];simp[bw,a]
theorem bV.afv(B:bV p seed d K H w n){i:Nat}(a:i<K):az (dM p seed (eI p)) (H+i)=rY n seed (i:Int):=by
 rw[B.Sz,az,qe,qj (by simp[bw])];simp[bw,a]
theorem bV.low(B:bV p seed d K H w n){i:Nat}(a:i<H):sf w (lq K H i) (eJ p seed d) n=aL w:=by
 have:=B.fc.2.2 i (by rw[B.GK,B.n];omega)
 rwa [B.agG a,aaI a]at this
theorem bV.high(B:bV p seed d K H w n){i:Nat}(a:i<K):sf w (rY n seed (i:Int)) (eJ p seed d) n=Gu d w i:=by
 have:=B.fc.2.2 (H+i) (by rw[B.GK,B.n];omega)
 rwa [B.afv a,Yq a]at this
theorem bV.n1(B:bV p seed d K H w n):1<=n:=by have:=B.n;have:=B.k1;omega
theorem bV.n2(B:bV p seed d K H w n):n<=20:=by have:=B.n;have:=B.k2;have:=B.h2;omega
theorem bV.sym(B:bV p seed d K H w n)(id:Int):fv w (eJ p seed d) (de n seed id)=sf w (rY n seed id) (eJ p seed d) n:=
 afu B.sX.2 B.sX.1 (fun _ a=>mG B.n1 B.n2 a) (DZ B.n1 B.n2 seed id)
theorem bV.adp(B:bV p seed d K H w n){i:Nat}(a:i<K):fv w (eJ p seed d) (de n seed (i:Int))=Gu d w i:=by rw[B.sym,B.high a]
theorem bV.aaJ(B:bV p seed d K H w n)(id:Int):(fv w (eJ p seed d) (de n seed id)).length=w:=
 Xn B.sX.2 B.sX.1 fun _ a=>mG B.n1 B.n2 a
end
end Wl
namespace Go.Vc
open Go
theorem Vr{α:Type}{c k:Nat}{f:α->List Value}:∀{rs:List Sl} {ll:List (List α)} (a:List Sl) (b:List (List α)),rs.length=ll.length->bT c k f (rs++a) (ll++b)=bT c k f rs ll++bT c k f a b:=by
 intro rs ll a b h;unfold bT;exact yM h
theorem aa.adq{B:aA}{a h:Heap}{X:HP}:∀{L M:List HP},aa B a h (L++X::M)->aa B a h (L++M):=fun{L M} H=>by
 have:=H.del L.length
 rwa [List.eraseIdx_append_of_length_le (ql _),zj,List.eraseIdx_cons_zero]at this
section
variable {α:Type} {C:Ctx} {B:aA} {h0 h h':Heap} {As:List HP} {e e2 k t t2 by_:Nat} {s s2:Sl} {f:α->List Value} {ll l2:List (List α)}
theorem aa.afw(F:C.Ok)(H:aa B h0 h (mi e s e2 k f ll::mi e s2 e2 k f l2::As))(z:bN C.toCB t e 1 [.slice none 0 0] 24)(v:∃i e2,C.T.get t2=some i/\i.cG=.slice e2)(D:ll.length+l2.length<=2^32){ty:Nat}{K:Sl->Heap->Prop}
  (u:∀d h',aa B h0 h' (mi e d e2 k f (ll++l2)::As)->K d h'):
  av C.P (qt #[t,t2] ty #[.slice s.ptr s.len s.cap,.slice s2.ptr s2.len s2.cap]) (.one (.sc .slc)) h K:=by
 obtain⟨rs,r,q⟩:=H.LB;obtain⟨c,j⟩:∃c,c=bT e2 k f rs ll:=⟨_,rfl⟩
 rw[<-j]at q;have y:aa B h0 h (mi e s2 e2 k f l2::(As++(an e s 1 bQ rs::c))):=q.front;obtain⟨a,l,o⟩:=y.LB;obtain⟨L2,g⟩:∃L2,L2=bT e2 k f a l2:=⟨_,rfl⟩
 rw[<-g]at o;have p:=o.front;rw[qp]at p;have E:=p.front;have n:aa B h0 h (an e s 1 bQ rs::(c++(an e s2 1 bQ a::(L2++As)))):=by
  have x:(an e s 1 bQ rs::c++(an e s2 1 bQ a::L2))++As=an e s 1 bQ rs::(c++(an e s2 1 bQ a::(L2++As))):=by simp
  rw[<-x];exact E
 have G:Seq h (fun b=>b<h.size) s2 1 bQ a:=n.seq (c.length+1) (by rw[qy,qj (ql _),zj];rfl) fun _=>rfl;refine n.append F 0 rfl z v rfl (by decide) (fun _=>rfl) G nW (by omega) fun d h' m=>u d h' ?_;have m:aa B h0 h' ((an e d 1 bQ (rs++a)::c)++(an e s2 1 bQ a::(L2++As))):=m;have w:=aa.adq m;refine aa.SB (rs:=rs++a) (by simp[r,l]) ?_;rw[Vr a l2 r,<-j,<-g];have A:(an e d 1 bQ (rs++a)::(c++L2))++As=(an e d 1 bQ (rs++a)::c)++(L2++As):=by simp
 rw[A];exact w
end
abbrev gx:=FloatKind.format .f64
theorem GM{P:Program}{a b c:Nat}(h:gx.add a b=some c):aI P (Op.Complex.arith .add .f64 a b) c:=fun w=>by
 have h':(FloatKind.format .f64).add a b=some c:=h;unfold Op.Complex.arith Op.floatArith;simp only[h'];rfl
theorem GN{P:Program}{a b c:Nat}(h:gx.sub a b=some c):aI P (Op.Complex.arith .sub .f64 a b) c:=fun w=>by
 have h':(FloatKind.format .f64).sub a b=some c:=h;unfold Op.Complex.arith Op.floatArith;simp only[h'];rfl
theorem Bb{P:Program}{a b c:Nat}(h:gx.mul a b=some c):aI P (Op.Complex.arith .mul .f64 a b) c:=fun w=>by
 have h':(FloatKind.format .f64).mul a b=some c:=h;unfold Op.Complex.arith Op.floatArith;simp only[h'];rfl
theorem BL{P:Program}{op:BinOp}(h:op=.add∨op=.sub∨op=.mul)(t:TypeId)(x y:Operand)(a b:Value):aI P (eqGuard op t x y a b) ():=fun w=>by
 rcases h with rfl|rfl|rfl<;>rfl
theorem afx{P:Program}{t:TypeId}{x y:Operand}{a b c d e f:Nat}(g:gx.add a c=some e)(h:gx.add b d=some f):kI P .add t x y (.complex .f64 a b) (.complex .f64 c d) (.complex .f64 e f):=
 (BL (.inl rfl) t x y _ _).bind (show aI P (Op.complexOp .add .f64 a b c d) _ from(GM g).bind ((GM h).bind fun _=>rfl))
theorem afy{P:Program}{t:TypeId}{x y:Operand}{a b c d e f:Nat}(g:gx.sub a c=some e)(h:gx.sub b d=some f):kI P .sub t x y (.complex .f64 a b) (.complex .f64 c d) (.complex .f64 e f):=
 (BL (.inr (.inl rfl)) t x y _ _).bind (show aI P (Op.complexOp .sub .f64 a b c d) _ from(GN g).bind ((GN h).bind fun _=>rfl))
theorem afz{P:Program}{t:TypeId}{x y:Operand}{a b c d e f h k j i:Nat}(m:gx.mul a c=some h)(l:gx.mul b d=some k)(h3:gx.sub h k=some e)(q:gx.mul a d=some j)(n:gx.mul b c=some i)(o:gx.add j i=some f):
  kI P .mul t x y (.complex .f64 a b) (.complex .f64 c d) (.complex .f64 e f):=by
 refine(BL (.inr (.inr rfl)) t x y _ _).bind ?_;have p:aI P (Op.Complex.product a b c d) (e,f):=
  (Bb m).bind ((Bb l).bind ((GN h3).bind ((Bb q).bind ((Bb n).bind ((GM o).bind fun _=>rfl)))))
 show aI P (Op.complexOp .mul .f64 a b c d) _;have g:∀x,aI P (Op.Complex.conv .f64 x .f64) x:=fun x w=>by unfold Op.Complex.conv;rw[if_pos rfl];rfl
 unfold Op.complexOp;refine(g a).bind ((g b).bind ((g c).bind ((g d).bind ?_)));refine aI.bind (v:=(e,f)) ?_ ?_
 ·exact p
 ·exact(g e).bind ((g f).bind fun _=>rfl)
end Go.Vc
