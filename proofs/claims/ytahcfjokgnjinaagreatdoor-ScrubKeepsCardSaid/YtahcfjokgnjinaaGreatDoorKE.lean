/- Lemmas for the proof of the law; no condition. -/
import Derived.Test.YtahcfjokgnjinaaGreatDoorKD
import Derived.Lib.BufferWrite
import Derived.Lib.UnsafeStr
set_option linter.unusedVariables false
set_option maxHeartbeats 4000000
set_option linter.unusedSimpArgs false
open Go.Proofs.Tryz renaming prog -> xD
open BitVec renaming eq_of_toNat_eq -> wG, getLsbD_and -> xh, ofNat -> wK, toNat -> xp, toNat_ushiftRight -> y8, xor_assoc -> wD, xor_self -> yW, xor_zero -> vZ, zero_xor -> xd
open Nat renaming shiftRight_eq_div_pow -> yT
open List renaming filter_congr -> y5, length -> vL, mem_append_right -> zW, pairwise_lt_range -> yj, range -> qz, sum_cons -> wW
open Int renaming fdiv -> qZ
open Prod renaming fst -> qK
open Go.Value renaming bool -> xx, int -> xt, pointer -> xv, slice -> xu
open Go.IntKind renaming i64 -> xz, u32 -> xB, wrap -> qc
open Option renaming some -> zP
set_option maxRecDepth 100000
open Option renaming some -> dB, none -> eH
open Bool renaming true -> eR, false -> eS
open List renaming length -> ii
namespace Wl
open Go
theorem FE(a:jw):a&&&1#32=0#32∨a&&&1#32=1#32:=by
 have h:((a&&&1#32).toNat)=a.toNat%2:=by rw[BitVec.toNat_and];exact Nat.and_one_is_mod _
 rcases Nat.mod_two_eq_zero_or_one a.toNat with e|e
 ·left;apply wG;rw[h,e];rfl
 ·right;apply wG;rw[h,e];rfl
theorem jD{a:jw}(h:a&&&1#32=0#32):jM a=a>>>1:=by unfold jM;rw[g0 (by rw[h];decide)]
theorem lU{a:jw}(h:a&&&1#32=1#32):jM a=(a>>>1)^^^3988292384#32:=by unfold jM;rw[f9 h]
theorem Rq(a b c:jw):a^^^b^^^c=a^^^c^^^b:=by rw[wD,BitVec.xor_comm b c,<-wD]
theorem WA(a b:jw):jM (a^^^b)=jM a^^^jM b:=by
 have e:(a^^^b)&&&1#32=(a&&&1#32)^^^(b&&&1#32):=by apply BitVec.eq_of_getLsbD_eq;intro i _;rw[xh,BitVec.getLsbD_xor,BitVec.getLsbD_xor,xh,xh,Bool.and_xor_distrib_right]
 have s:(a^^^b)>>>1=(a>>>1)^^^(b>>>1):=BitVec.ushiftRight_xor_distrib a b 1;rcases FE a with ha|ha<;>rcases FE b with hb|hb
 ·rw[jD ha,jD hb,jD o4,s]
 ·rw[jD ha,lU hb,lU o4,s,wD]
 ·rw[lU ha,jD hb,lU o4,s,Rq]
 ·rw[lU ha,lU hb,jD o4,s,<-wD,Rq _ 3988292384#32,wD _ 3988292384#32 3988292384#32,yW,vZ]
theorem Tu{a:jw}(h:jM a=0#32):a=0#32:=by
 rcases FE a with ha|ha
 ·rw[jD ha]at h;apply wG;have c:=congrArg xp h;have b:=congrArg xp ha;rw[y8,yT]at c;have h3:(a&&&1#32).toNat=a.toNat%2:=by rw[BitVec.toNat_and];exact Nat.and_one_is_mod _
  rw[h3]at b;simp at c b⊢;omega
 ·rw[lU ha]at h;exfalso;have c:a>>>1=3988292384#32:=by have:=congrArg (λz=>z^^^3988292384#32) h;simp only[wD,yW,vZ,xd]at this;exact this
  have b:=congrArg xp c;rw[y8,yT]at b;have:=a.isLt;simp at b;omega
theorem nJ:∀(n:Nat) (a b:jw),eC n (a^^^b)=eC n a^^^eC n b
 |0,_,_=>rfl
 |n+1,a,b=>by unfold eC;rw[nJ n,WA]
theorem FF:∀(n:Nat) {a:jw},eC n a=0#32->a=0#32
 |0,_,h=>h
 |n+1,_,h=>FF n (Tu h)
theorem abO{a b:jw}(h:a^^^b=0#32):a=b:=by have:=congrArg (λz=>z^^^b) h;simp only[wD,yW,vZ,xd]at this;exact this
theorem GW{n:Nat}{a b:jw}(h:eC n a=eC n b):a=b:=
 abO (FF n (by rw[nJ,h,yW]))
theorem rJ:∀(m n:Nat) (a:jw),eC (m+n) a=eC m (eC n a)
 |0,n,a=>by rw[wh];rfl
 |m+1,n,a=>by rw[show m+1+n=(m+n)+1 by omega];show jM (eC (m+n) a)=jM (eC m (eC n a));rw[rJ m n a]
theorem Km:∀(n x:Nat),x<2^(32-n)->n<=32->eC n (wK 32 (x*2^n))=wK 32 x
 |0,x,_,_=>by rw[Nat.pow_zero,z8];rfl
 |n+1,x,h,hn=>by
  have b:x*2<2^(32-n):=by
   have:2^(32-n)=2^(32-(n+1))*2:=by rw[<-Nat.pow_succ];congr 1;omega
   omega
  show jM (eC n (wK 32 (x*2^(n+1))))=_;rw[show x*2^(n+1)=x*2*2^n by rw[Nat.pow_succ,Nat.mul_assoc,vu 2],Km n (x*2) b i4];have a:x*2<2^32:=qY b (Nat.pow_le_pow_right i5 i4);rw[jD]
  ·apply wG;rw[y8,wQ,wQ,wi a,wi i4,yT];omega
  ·apply wG;rw[BitVec.toNat_and,wQ,wi a];show(x*2)&&&1=0;rw[Nat.and_one_is_mod];omega
def Rs(a b c d:UInt8):jw:=wK 32 (a.toNat*2^0)^^^wK 32 (b.toNat*2^8)^^^wK 32 (c.toNat*2^16)^^^wK 32 (d.toNat*2^24)
theorem abP(s:jw)(a b c d:UInt8):mg (mg (mg (mg s a) b) c) d=eC 32 (s^^^Rs a b c d):=by
 have g:=a.toNat_lt;have h:=b.toNat_lt;have k:=c.toNat_lt;have j:=d.toNat_lt;have e:∀(n:Nat) (x:UInt8),n<=24->wK 32 x.toNat=eC n (wK 32 (x.toNat*2^n)):=λn x i=>by
  have f:=x.toNat_lt;refine(Km n x.toNat ?_ i4).symm;exact qY (show x.toNat<2^8 from f) (Nat.pow_le_pow_right i5 i4)
 unfold mg Rs;rw[e 8 b i5,<-nJ,<-rJ,e 16 c i5,<-nJ,<-rJ,e 24 d i5,<-nJ,<-rJ];simp only[Nat.pow_zero,z8,wD]
theorem LK(a b c d:UInt8):(Rs a b c d).toNat=a.toNat+b.toNat*256+c.toNat*65536+d.toNat*16777216:=by
 have l:=a.toNat_lt;have m:=b.toNat_lt;have o:=c.toNat_lt;have n:=d.toNat_lt;have e:∀(k x y:Nat),x<2^k->x^^^(y*2^k)=x+y*2^k:=λk x y g=>by
  rw[vu y];have h:=Nat.two_pow_add_eq_or_of_lt g y;have j:x^^^(2^k*y)=(2^k*y)|||x:=by
   apply Nat.eq_of_testBit_eq;intro i;rw[Nat.testBit_xor,Nat.testBit_or,Nat.testBit_two_pow_mul];by_cases f:k<=i
   ·have:x.testBit i=eS:=Nat.testBit_lt_two_pow (qY g (Nat.pow_le_pow_right i5 f));simp[this]
   ·simp[f]
  rw[j,<-h];omega
 unfold Rs;rw[BitVec.toNat_xor,BitVec.toNat_xor,BitVec.toNat_xor,wQ,wQ,wQ,wQ];rw[wi i4,wi i4,wi i4,wi i4];rw[Nat.pow_zero,z8,e 8 _ _ i4,e 16 _ _ i4,e 24 _ _ i4]
theorem aeg{a b c d f e g i:UInt8}(h:Rs a b c d=Rs f e g i):a=f/\b=e/\c=g/\d=i:=by have j:=congrArg xp h;rw[LK,LK]at j;have:=a.toNat_lt;have:=b.toNat_lt;have:=c.toNat_lt;have:=d.toNat_lt;have:=f.toNat_lt;have:=e.toNat_lt;have:=g.toNat_lt;have:=i.toNat_lt;refine⟨wT.1 ?_,wT.1 ?_,wT.1 ?_,wT.1 ?_⟩<;>omega
theorem Rv:∀{q:aV} {s t:jw},q.foldl mg s=q.foldl mg t->s=t
 |[],_,_,h=>h
 |x::q,s,t,h=>by
  have:=GW (Rv (q:=q) h);have:=congrArg (λz=>z^^^wK 32 x.toNat) this;simp only[wD,yW,vZ]at this;exact this
theorem ZA{p q:aV}{a b c d e f g i:UInt8}(h:kU (p++([a,b,c,d]++q))=kU (p++([e,f,g,i]++q))):[a,b,c,d]=[e,f,g,i]:=by unfold kU at h;rw[zQ,zQ,zQ,zQ]at h;have h:=Rv h;simp only[zE,wv]at h;rw[abP,abP]at h;have h:=GW h;have h:=congrArg (λz=>List.foldl mg 4294967295#32 p^^^z) h;simp only[<-wD,yW,xd]at h;obtain⟨rfl,rfl,rfl,rfl⟩:=aeg h;rfl
theorem aeh(s:jw):∃a b c d,li s=[a,b,c,d]/\Rs a b c d=s:=by
 refine⟨_,_,_,_,i0,?_⟩;apply wG;rw[LK];have m:=s.isLt;have e:∀n:Int,((b8 n).toNat:Int)=n%256:=λn=>by have:=oH n;omega
 have f:∀k:Nat,qZ (s.toNat:Int) (2^(8*k))=((s.toNat/2^(8*k):Nat):Int):=λk=>by
  rw[Int.fdiv_eq_ediv_of_nonneg _ (by exact_mod_cast zo _)];norm_cast
 have g:∀k:Nat,(b8 (qZ (s.toNat:Int) (2^(8*k)))).toNat=s.toNat/2^(8*k)%256:=λk=>by
  have:=e (qZ (s.toNat:Int) (2^(8*k)));rw[f k]at this;rw[f k];omega
 have l:=g 0;have h:=g 1;have i:=g 2;have j:=g 3;simp only[Nat.mul_zero,z8,Nat.pow_zero,Nat.div_one,Nat.reduceMul,Nat.reducePow]at l h i j;simp only[Nat.mul_zero,z8,Nat.reduceMul];rw[l,h,i,j];omega
theorem aei(x:aV):kU (x++li (lX x))=eC 32 4294967295#32:=by obtain⟨a,b,c,d,e,f⟩:=aeh (lX x);rw[e];unfold kU;rw[zQ];simp only[zE,wv];rw[abP,f];unfold lX kU;congr 1;rw[BitVec.xor_comm 4294967295#32,<-wD,yW,xd]
theorem MT{c:aV}{k:Int}{x:aV}(h:fu c=dB (k,x)):ii c=64/\c=c.take 59++(li (lX (c.take 59))++[165]):=by
 unfold fu at h;split at h
 ·rename_i d;obtain⟨b,a⟩:=d;refine⟨b,?_⟩;unfold dX at a;split at a
  ·rename_i e;have g:=ub (kind:=((c.getD 3 0).toNat:Int)) e.2.2;have f:c.take 59=dU ((c.getD 3 0).toNat:Int) ((c.drop 4).take 55):=by
    conv=>lhs;rw[<-a]
    rw[qp,wq i4,qi i4]
   rw[f];rw[<-qp];exact a.symm
  ·rw[<-a]at b;simp at b
 ·cases h
theorem ZB{l:aV}{p:Nat}(h:p+4<=ii l)(a:Int):∃u v,ii u=4/\v.length=4/\l=l.take p++(u++l.drop (p+4))/\fw l p a 4=l.take p++(v++l.drop (p+4)):=by
 have b:∀k,k<=4->(fw l p a k).take p=l.take p/\(fw l p a k).drop (p+4)=l.drop (p+4):=by
  intro k
  induction k with
  |zero=>exactλ_=>⟨i0,i0⟩
  |succ k ih=>
   intro n;obtain⟨g,i⟩:=ih i4;unfold fw;rw[List.take_set_of_le i4,List.drop_set_of_lt i4];exact⟨g,i⟩
 have d:∀m:aV,ii m=ii l->m=m.take p++((m.drop p).take 4++m.drop (p+4)):=λm j=>by
  rw[<-List.drop_drop,qF,qF]
 obtain⟨e,f⟩:=b 4 (qm _);have c:=Ac l p a 4;refine⟨(l.drop p).take 4,((fw l p a 4).drop p).take 4,i7,by simp[c];omega,d l i0,?_⟩;rw[<-e,<-f];exact d _ c
theorem WB{c:aV}{k:Int}{x:aV}(h:fu c=dB (k,x)){a b:Int}(G:0<=a/\a<=60)(d:Ab c a b≠c):fu (Ab c a b)=eH:=by
 obtain⟨F,o⟩:=MT h;cases hb:fu (Ab c a b)with
 |none=>rfl
 |some y=>
  exfalso;obtain⟨g,e⟩:=MT (k:=y.1) (x:=y.2) hb;obtain⟨f,r⟩:∃f,f=Ab c a b:=⟨_,rfl⟩
  rw[<-r]at g e d;by_cases i:f.take 59=c.take 59
  ·apply d;rw[o,e,i,<-o]
  ·obtain⟨p,rfl⟩:∃p:Nat,a=p:=⟨a.toNat,i4⟩
   obtain⟨u,v,q,s,t,m⟩:=ZB (l:=c) (p:=p) i4 b;have m:f=c.take p++(v++c.drop (p+4)):=by rw[r];unfold Ab;rw[ql];exact m
   have I:p<=59:=by refine Decidable.byContradiction λH=>i ?_;rw[m,wq i7,List.take_take,Nat.min_eq_left i4]
   have B:∀z:aV,z=z.take 59++(li (lX (z.take 59))++[165])->ii z=64->kU (z.take 63)=eC 32 4294967295#32:=λz n E=>by
    have:z.take 63=z.take 59++li (lX (z.take 59)):=by
     conv=>lhs;rw[n]
     rw[<-qp,wq (by simp[BO];omega),qi (by simp[BO];omega)]
    rw[this,aei]
   have w:∀z:aV,ii z=4->(c.take p++(z++c.drop (p+4))).take 63=c.take p++(z++(c.drop (p+4)).take (59-p)):=λz n=>by
    have j:ii (c.take p)=p:=i7
    generalize c.take p=P at j⊢;rw[List.take_append,qi i4,List.take_append,qi i4,j,n];congr 3;omega
   have A:=B c o F;have D:=B f e g;rw[m,w v s]at D;rw[t,w u q]at A
   match u,v,q,s with
   |[u0,u1,u2,u3],[v0,v1,v2,v3],_,_=>
    have:=ZA (A.trans D.symm);apply d;rw[m,<-this,<-t]
end Wl
namespace Go.Qw
open Go Go.Vc Go.Proofs Wl
theorem abQ{m:aC}{C:Int->aV}{c:aV}(h:fu c=eH):dw m C c:=by
 have d:dT c=eH:=by unfold dT;rw[h]
 have e:rV c=eH:=by unfold rV;rw[h]
 exact⟨λr a=>(by rw[d]at a;cases a),λr a _=>(by rw[d]at a;cases a),λg b=>(by rw[e]at b;cases b)⟩
theorem fM.Rw{m:aC}{C:Int->aV}{ds:aE}(S:fM m C ds){k:Int}{b d:bj}(f:aX ds k=dB b)(g:∀c∈d.l,dw m C c):fM m C (bK ds k d):=
 ⟨S.may,by rw[uG];exact S.len,λj e a=>by
  rw[gq S.len f]at a;split at a
  ·injection a with a;subst a;exact g
  ·exact S.cells j e a,S.ents⟩
theorem ZC{ds:aE}{k:Int}{b d:bj}(a:ii ds=64)(c:aX ds k=dB b)(f:d.lost=b.lost)(l:aw):aQ (bK ds k d) l=aQ ds l:=by
 unfold aQ;refine y5 λx _=>?_;unfold isLive;rw[gq a c];by_cases e:x=k
 ·subst e;rw[f9 i0,c];simp only[f]
 ·rw[g0 e]
theorem WC{d:bj}{j a b:Int}:(d.kY j a b).lost=d.lost/\(d.kY j a b).l.length=ii d.l:=by
 unfold bj.kY;split
 ·exact⟨i0,i9⟩
 ·exact⟨i0,i0⟩
theorem Tv{m:aC}{C:Int->aV}{d:bj}(f:∀c∈d.l,dw m C c){j:Nat}(g:j<ii d.l)(n:fu d.l[j]≠eH){a b:Int}(i:0<=a/\a<=60):∀c∈(d.kY j a b).l,dw m C c:=λc h=>by
 unfold bj.kY at h;split at h
 ·have h:c∈d.l.set ((j:Int)).toNat (Ab (d.l.getD ((j:Int)).toNat []) a b):=h;rw[ql,eE [] g]at h;rcases List.mem_or_eq_of_mem_set h with h|rfl
  ·exact f c h
  ·by_cases e:Ab d.l[j] a b=d.l[j]
   ·rw[e];exact f _ (qg g)
   ·cases ht:fu d.l[j]with
    |none=>exact absurd ht n
    |some y=>exact abQ (WB (k:=y.1) (x:=y.2) ht i e)
 ·exact f c h
structure Wn (p:Pm) (m:aC) (C:Int->aV) (ds:aE):Prop where
 sto:fM m C ds
 live:aQ ds m.drives≠[]
 dr:∀k∈m.drives,k<9
 pe:m.p=p
 wt:∀k d,aX ds k=dB d->d.wait=0
variable {p:Pm} {m:aC} {C:Int->aV} {ds:aE}
theorem Rx{ds ds':aE}{f:Int->bj->bj}(h:∀k,aX ds' k=(aX ds k).map (f k))(a:∀k d,(f k d).lost=d.lost)(l:aw):aQ ds' l=aQ ds l:=by
 unfold aQ;refine y5 λx _=>?_;unfold isLive;rw[h];cases aX ds x with
 |none=>rfl
 |some d=>simp only[Option.map_some,a]
theorem Ul{k:Int}{d e:bj}(b:ii ds=64)(f:aX ds k=dB d)(c:∀k d,aX ds k=dB d->d.wait=0)(g:e.wait=0):∀j x,aX (bK ds k e) j=dB x->x.wait=0:=λj x a=>by
 rw[gq b f]at a;split at a
 ·injection a with a;subst a;exact g
 ·exact c j x a
theorem ZD{ds':aE}{f:Int->bj->bj}(h:∀k,aX ds' k=(aX ds k).map (f k))(b:∀k d,aX ds k=dB d->d.wait=0)(c:∀k d,d.wait=0->(f k d).wait=0):∀j x,aX ds' j=dB x->x.wait=0:=λj x a=>by
 rw[h]at a;cases hd:aX ds j with
 |none=>rw[hd]at a;cases a
 |some d=>
  rw[hd]at a;injection a with a
  rw[<-a];exact c j d (b j d hd)
theorem Um{a:cI}{d:bj}(h:d.wait=0):(eI a d).wait=0:=by
 unfold eI;split
 ·exact h
 ·rfl
theorem Ry{d:bj}{n:Int}(h:d.wait=0):(cK m d n).wait=0:=by
 unfold cK;split
 ·exact h
 ·rfl
theorem WD{d:bj}{j a b:Int}:(d.kY j a b).wait=d.wait:=by unfold bj.kY;split<;>rfl
theorem Wn.kY(W:Wn p m C ds){k:Int}{d:bj}(b:aX ds k=dB d){j:Nat}(e:j<ii d.l)(g:fu d.l[j]≠eH){a c:Int}(f:0<=a/\a<=60):Wn p m C (bK ds k (d.kY j a c)):=
 ⟨W.sto.Rw b (Tv (W.sto.cells k d b) e g f),by rw[ZC W.sto.len b WC.1];exact W.live,W.dr,W.pe,Ul W.sto.len b W.wt (by rw[WD];exact W.wt _ _ b)⟩
theorem WE(t:aw)(b:aV)(n:aC)(k:Int)(d:bj):(Gq m ds t b n k d).lost=d.lost:=by
 unfold Gq;split
 ·rw[(xY _ _).1,(MS _ _ _).1]
 ·rfl
theorem Wn.put(W:Wn p m C ds)(name:ByteArray)(b:aV):∃e a f ds',iy m 0 Pow.new ds name b=(e,a,Pow.new,ds')/\Wn p a f ds':=by
 rcases aee (offs:=0) (w:=Pow.new) (name:=name) (b:=b) jS W.sto with⟨⟨e,_,h⟩,_⟩|⟨_,t,ds',_,h,S,hat⟩
 ·exact⟨e,m,C,ds,h,W⟩
 ·refine⟨0,_,_,ds',h,S,by rw[Rx hat (WE _ _ _)];exact W.live,W.dr,W.pe,ZD hat W.wt λk d c=>?_⟩;unfold Gq;split
  ·exact Um (Ry c)
  ·exact c
theorem abR(n:aC)(k:Int)(d:bj):(if k∈aQ ds n.drives then eI (bn n) (cK m d (bn n).length)else d).lost=d.lost:=by
 split
 ·rw[(xY _ _).1,(MS _ _ _).1]
 ·rfl
theorem Wn.ZE(W:Wn p m C ds){n:aC}(i:bL n=eR)(g:n.seq=m.seq+1)(c:n.p=m.p)(j:m.next<=n.next)(a:∀x∈n.aF,x∈m.aF)(b:∀k∈n.drives,k<9):
  dc m 0 Pow.new ds n=(7,m,Pow.new,ds)∨∃ds',dc m 0 Pow.new ds n=(0,n,Pow.new,ds')/\Wn p n C ds':=by
 rcases Wq (offs:=0) (w:=Pow.new) jS W.sto i5 i g c j a with⟨_,h⟩|⟨⟨hl,_⟩,ds',h,S,hat⟩
 ·exact .inl h
 ·exact .inr ⟨ds',h,S,by rw[Rx (f:=λk d=>if k∈aQ ds n.drives then eI (bn n) (cK m d (bn n).length)else d) hat (abR n)];exact hl,b,c.trans W.pe,ZD (f:=λk d=>if k∈aQ ds n.drives then eI (bn n) (cK m d (bn n).length)else d) hat W.wt λk d e=>by
   split
   ·exact Um (Ry e)
   ·exact e⟩
theorem Wn.del(W:Wn p m C ds)(name:ByteArray):∃e a ds',gz m 0 Pow.new ds name=(e,a,Pow.new,ds')/\Wn p a C ds':=by
 unfold gz;rw[g0 i5];split
 ·exact⟨5,m,ds,i0,W⟩
 ·split
  ·exact⟨7,m,ds,i0,W⟩
  ·rename_i c;rcases W.ZE (n:=Io m (m.aF.findIdx (mb name))) (abL W.sto.may i4 _) rfl rfl (xk _) (λx b=>Uk b) W.dr with h|⟨ds',h,W'⟩
   ·exact⟨7,m,ds,h,W⟩
   ·exact⟨0,_,ds',h,W'⟩
theorem Wn.BM(W:Wn p m C ds)(slot:Int)(s:1<ii (aQ ds m.drives)):Wn p m C (rI m 0 Pow.new ds slot).2:=by
 unfold rI;rw[g0 i5];split
 ·exact W
 ·rename_i u;cases hd:aX ds slot with
  |none=>exact W
  |some d=>
   dsimp only;refine⟨W.sto.Rw hd λc r=>(by cases r),?_,W.dr,W.pe,Ul W.sto.len hd W.wt i0⟩;intro h;have g:=lA (ds:=ds) (nf W.sto.may);have f:∀k∈aQ ds m.drives,k=slot:=λk t=>Decidable.byContradiction λi=>by
    obtain⟨a,e,j,o⟩:=jh t;have:k∈aQ (bK ds slot d.BM) m.drives:=abj.2 ⟨a,e,by rw[gq W.sto.len hd,g0 i];exact j,o⟩;rw[h]at this;cases this
   match hL:aQ ds m.drives,s with
   |a::b::l,_=>
    rw[hL]at f g;have n:=f a i9;have q:=f b i9;rw[n,q]at g;simp at g
theorem WF{l:aw}(h:l.Pairwise (·<·)){s:Int}(c:s∉l):(ja (l++[s])).Pairwise (·<·):=by have i:(l++[s]).Nodup:=List.nodup_append.2 ⟨h.imp λh e=>i4,i9,λa f b g e=>c (by rw[<-qB.1 g,<-e];exact f)⟩;have d:(ja (l++[s])).Perm (l++[s]):=List.mergeSort_perm _ _;have j:(ja (l++[s])).Pairwise (λa b=>a≠b):=d.nodup_iff.2 i;exact(Wl.Ee _).imp₂ (λa b=>i4) j
theorem Wn.add(W:Wn p m C ds){slot:Int}(E:0<=slot/\slot<9)(cells:Int):∃e u ds',lB m 0 Pow.new ds slot cells=(e,u,Pow.new,ds')/\Wn p u C ds':=by
 unfold lB;rw[g0 i5];split
 ·exact⟨1,m,ds,i0,W⟩
 split
 ·exact⟨4,m,ds,i0,W⟩
 rename_i i;split
 ·exact⟨7,m,ds,i0,W⟩
 rename_i F;have v:=W.sto.len;have b:∀o k,aX (ds.set slot.toNat o) k=if k=slot then o else aX ds k:=λo k=>by
  unfold aX;by_cases f:0<=k/\k<64
  ·rw[f9 f,List.getElem?_set];by_cases e:k=slot
   ·subst e;rw[f9 i0,f9 i0,f9 i4];rfl
   ·rw[g0 i4,g0 e,f9 f]
  ·rw[g0 f,g0 i4,g0 f]
 have g:∀o,aQ (ds.set slot.toNat o) m.drives=aQ ds m.drives:=λo=>by
  unfold aQ;refine y5 λx t=>?_;have q:x≠slot:=λe=>i (by rw[<-e];exact t);unfold isLive;rw[b,g0 q]
 obtain⟨a,w,y,j,s,r,l⟩:=(cx m).1 W.sto.may;have z:fM m C (ds.set slot.toNat (dB (bj.new cells.toNat))):=⟨W.sto.may,by simp[v],λk d a=>by
  rw[b]at a;split at a
  ·injection a with a;subst a;intro c A;cases A
  ·exact W.sto.cells k d a,W.sto.ents⟩
 have B:bL (Gj m (ja (m.drives++[slot])))=eR:=by
  refine(cx _).2 ⟨?_,WF w i,λk f=>?_,j,s,r,l⟩
  ·rw[fy]at a⊢;exact⟨by show 1<=m.seq+1/\m.seq+1<=2147483647;omega,a.2⟩
  ·rcases qA.1 ((wn _ _).1 f)with h|h
   ·exact y k h
   ·rw[qB.1 h];omega
 have D:Wn p m C (ds.set slot.toNat (dB (bj.new cells.toNat))):=⟨z,by rw[g];exact W.live,W.dr,W.pe,λk d a=>by
  rw[b]at a;split at a
  ·injection a with a;subst a;rfl
  ·exact W.wt k d a⟩
 rcases D.ZE (n:=Gj m (ja (m.drives++[slot]))) B rfl rfl (xk _) (λx t=>t) (λk f=>by
  rcases qA.1 ((wn _ _).1 f)with h|h
  ·exact W.dr k h
  ·rw[qB.1 h];omega)with h|⟨ds',h,W'⟩
 ·rw[h];dsimp only;rw[f9 i0,List.set_set];exact⟨7,m,_,i0,⟨W.sto.may,by simp[v],λk d a=>by
   rw[b]at a;split at a
   ·cases a
   ·exact W.sto.cells k d a,W.sto.ents⟩,by rw[g];exact W.live,W.dr,W.pe,λk d a=>by
   rw[b]at a;split at a
   ·cases a
   ·exact W.wt k d a⟩
 ·rw[h];dsimp only;rw[g0 i5];exact⟨0,_,ds',i0,W'⟩
end Go.Qw
namespace Wl
end Wl
namespace Go.Qw
open Go Go.Vc Go.Proofs Wl
variable {p:Pm} {m:aC} {C:Int->aV} {ds ds':aE}
theorem Wn.Kn(W:Wn p m C ds):ii (aQ ds m.drives)<=9:=by have d:=((cx m).1 W.sto.may).2.1;have e:=Hv (a:=0) (b:=9) d (λk c=>⟨(kL W.sto.may k c).1,W.dr k c⟩) i5;have h3:ii (aQ ds m.drives)<=ii m.drives:=List.length_filter_le _ _;omega
structure agP (m:aC) (ds ds':aE) (gone:aw):Prop where
 len:ii ds'=64
 at_:∀k,k∉gone->aX ds' k=aX ds k
 live:∀k,k∈aQ ds' m.drives↔k∈aQ ds m.drives/\k∉gone
 sub:∀k∈gone,k∈aQ ds m.drives
 nd:gone.Nodup
theorem Rz{o b k:Int}(h:aX ds' k=aX ds k):eF m ds' o b k=eF m ds o b k:=by unfold eF;rw[h]
theorem od{o b:Int}{live:aw}{i:Nat}(a:i<ii live):(cb m ds o b live).getD i []=(eF m ds o b live[i]).map qK:=by rw[eE [] (by unfold cb;rw[qx];exact a)];unfold cb;rw[wC];unfold fI;rw[zf,z7,qM]
end Go.Qw
namespace Go.Qw
open Go Go.Vc Go.Proofs Wl
theorem FG(W:bP)(a:aw)(x:Int):∀k,x∈jW W a k↔∃i,i<k/\(i:Int)∉a/\x∈W.getD i []
 |0=>by simp[jW]
 |k+1=>by
  rw[jW,qA,FG W a x k];constructor
  ·rintro(⟨i,e,b,h3⟩|h)
   ·exact⟨i,i4,b,h3⟩
   ·by_cases d:(k:Int)∈a
    ·rw[f9 d]at h;cases h
    ·rw[g0 d]at h;exact⟨k,i4,d,h⟩
  ·rintro⟨i,e,b,h3⟩;by_cases c:i=k
   ·subst c;exact .inr (by rw[g0 b];exact h3)
   ·exact .inl ⟨i,i4,b,h3⟩
theorem ZF(p:Pm)(seed:Int){a b:aw}(h:∀x∈a,x∈b):nO p seed a<=nO p seed b:=by
 unfold nO;refine Eh (jx p seed a) (jx p seed b) λr c=>?_;unfold dP at c⊢;split at c
 ·rename_i e;rw[f9 e];rcases qA.1 c with c|c
  ·exact zp _ c
  ·obtain⟨i,d,rfl⟩:=qu.1 c;rw[qH]at d;exact zW _ (qu.2 ⟨i,qH.2 ⟨h i d.1,d.2⟩,i0⟩)
 ·cases c
theorem MU{p:Pm}{seed:Int}{W V:bP}{g g':aw}(f:ii W<=ii V)(c:∀x∈g',x∈g)(d:∀i x,x∈W.getD i []->x∈V.getD i []):gA p seed W g<=gA p seed V g':=by unfold gA;refine ZF p seed λx a=>?_;rw[FG]at a⊢;obtain⟨i,h,e,h3⟩:=a;exact⟨i,i4,λb=>e (c _ b),d i x h3⟩
theorem MV{p:Pm}{seed:Int}{W V:bP}{t:Nat}(e:ii V=ii W)(b:∀i x,x∈W.getD i []->x∈V.getD i [])(h:mE p seed W t=eH):mE p seed V t=eH:=by
 unfold mE at h⊢;rw[e];rw[yu]at h⊢;intro g c a;have j:(gA p seed W g:Int)=bG p:=by simpa using h g c
 have f:=MU (p:=p) (seed:=seed) (W:=W) (V:=V) (g:=g) (g':=g) i4 (λ_ h=>h) b;have h3:=aao p seed (jW V g V.length);have d:(gA p seed V g:Int)≠bG p:=hZ a;apply d;unfold gA at*;omega
variable {m:aC} {C:Int->aV} {ds:aE}
theorem RB(e:bL m=eR){l l':cI}(d:∀c∈l',dw m C c)(h:∀c∈l,c∈l'){r:cW}(f:r∈cM m l):r∈cM m l':=by obtain⟨a,b,c⟩:=iW f;exact mZ e d (h _ a) b c
theorem Ad(i:bL m=eR){l:cI}(j:∀c∈l,dw m C c){r:cW}:r∈cM m (bN m l)↔r∈cM m l:=by
 constructor
 ·intro g;obtain⟨a,b,c⟩:=iW g;rcases qA.1 a with h|h
  ·rw[rC h]at b;cases b
  ·obtain⟨k,d,e⟩:=qu.1 h;obtain⟨_,f,_⟩:=iW d;rw[e,b]at f;injection f with f
   rw[f];exact d
 ·intro g;obtain⟨a,b,c⟩:=iW g;exact mZ i (Gn i j) (zW _ (qu.2 ⟨r,g,i0⟩)) b c
theorem WG(r:cW):nN r r=eR:=by rw[lH];exact⟨i0,i0,i0⟩
theorem tf(l:cI):(cM m l).Nodup:=(Tr m l).imp λh e=>by subst e;rw[WG]at h;cases h
theorem tE{l l':cI}(h:∀r∈cM m l,r∈cM m l'):ii (cM m l)<=ii (cM m l'):=by
 letI:DecidableEq cW:=λa b=>Classical.propDecidable _
 exact rg (tf l) h
theorem na(b:bL m=eR){l:cI}:uE m l=eR↔∀c∈bn m,c∈l:=by unfold uE;rw[b,wA,q7];exact⟨λh c a=>hZ (h c a),λh c a=>g9 (h c a)⟩
theorem Ip(l:cI):ii (bN m l)=ii (bn m)+ii (cM m l):=by unfold bN nG;rw[qw,qx]
structure DK (m:aC) (d d':bj):Prop where
 lost:d'.lost=d.lost
 room:d'.room=d.room
 recs:∀r∈cM m d.l,r∈cM m d'.l
 whole:uE m d.l=eR->uE m d'.l=eR
theorem DK.refl(d:bj):DK m d d:=⟨i0,i0,λ_ h=>h,λh=>h⟩
theorem DK.trans{a b c:bj}(d:DK m a b)(e:DK m b c):DK m a c:=⟨e.lost.trans d.lost,e.room.trans d.room,λr h=>e.recs r (d.recs r h),λh=>e.whole (d.whole h)⟩
structure iz (m:aC) (ds ds':aE):Prop where
 len:ii ds'=ii ds
 at_:∀k d,aX ds k=dB d->∃d',aX ds' k=dB d'/\DK m d d'
 no:∀k,aX ds k=eH->aX ds' k=eH
theorem iz.refl(ds:aE):iz m ds ds:=⟨i0,λ_ d h=>⟨d,h,.refl d⟩,λ_ h=>h⟩
theorem iz.trans{a b c:aE}(f:iz m a b)(e:iz m b c):iz m a c:=⟨e.len.trans f.len,λk d n=>by
 obtain⟨g,i,l⟩:=f.at_ k d n;obtain⟨j,o,p⟩:=e.at_ k g i;exact⟨j,o,l.trans p⟩,λk h=>e.no k (f.no k h)⟩
theorem iz.set{k:Int}{d e:bj}(b:ii ds=64)(f:aX ds k=dB d)(h:DK m d e):iz m ds (bK ds k e):=⟨uG _ _ _,λs x c=>by
 rw[gq b f];split
 ·rename_i a;subst a;rw[f]at c;injection c with c;subst c
  exact⟨_,i0,h⟩
 ·exact⟨x,c,.refl x⟩,λs a=>by
 rw[gq b f];split
 ·rename_i h;subst h;rw[f]at a;cases a
 ·exact a⟩
theorem iz.live{ds':aE}(K:iz m ds ds')(l:aw):aQ ds' l=aQ ds l:=by
 unfold aQ;refine y5 λx _=>?_;unfold isLive;cases hd:aX ds x with
 |none=>rw[K.no x hd]
 |some d=>
  obtain⟨a,e,k⟩:=K.at_ x d hd;rw[e];simp only[k.lost]
theorem iz.syms{ds':aE}(K:iz m ds ds'){o b k:Int}{id:Int}(h:id∈(eF m ds o b k).map qK):id∈(eF m ds' o b k).map qK:=by obtain⟨x,j,rfl⟩:=qu.1 h;obtain⟨d,r,a,g,i,f,rfl⟩:=ta j;obtain⟨l,e,c⟩:=K.at_ k d a;refine qu.2 ⟨(r.id,r.data),?_,i0⟩;unfold eF;rw[e];exact qu.2 ⟨r,qH.2 ⟨c.recs r g,by rw[i,f];simp⟩,i0⟩
theorem Un(a:bL m=eR){d:bj}(b:∀c∈d.l,dw m C c):DK m d {d with l:=bN m d.l,wait:=0,laid:=[],has:=eS}:=
 ⟨i0,i0,λr h=>(Ad a b).2 h,λ_=>(na a).2 λc h=>zp _ h⟩
structure Tidy (m:aC) (d:bj):Prop where
 whole:uE m d.l=eR
 keep:ii (bN m d.l)<=ii d.l
 room:ii d.l<=d.room
theorem MW(a:bL m=eR){d:bj}(b:∀c∈d.l,dw m C c)(e:ii (bN m d.l)<=d.room):Tidy m {d with l:=bN m d.l,wait:=0,laid:=[],has:=eS}:=
 ⟨(na a).2 λc h=>zp _ h,by
  show(bN m (bN m d.l)).length<=ii (bN m d.l);rw[Ip,Ip];exact Nat.add_le_add_left (tE λr h=>(Ad a b).1 h) _,e⟩
theorem nK{k:Int}{w:Pow}:∀{live:aw} {w:Pow} {ds:aE},ii ds=64->k∉live->aX (cS m live w ds).2.2 k=aX ds k
 |[],_,_,_,_=>rfl
 |j::live,w,ds,h64,hk=>by
  have b:k≠j:=λe=>hk (by rw[e];exact qI);have a:k∉live:=λh=>hk (qD _ h);unfold cS;cases hd:aX ds j with
  |none=>exact nK (w:=w) h64 a
  |some d=>
   dsimp only;split
   ·exact nK (w:=w) h64 a
   ·have e:aX (bK ds j (d.rewrite w (bN m d.l)).2.2) k=aX ds k:=by rw[gq h64 hd,g0 b]
    split
    ·rw[nK (w:=w) (by rw[uG];exact h64) a,e]
    ·exact e
theorem th:∀{live:aw} {ds:aE},live.Nodup->fM m C ds->(∀k∈live,∃d,aX ds k=dB d/\d.lost=eS)->(∀k d,aX ds k=dB d->ii d.l<=d.room/\d.wait=0)->
  (cS m live Pow.new ds).2.1=Pow.new/\((cS m live Pow.new ds).1=0∨(cS m live Pow.new ds).1=7)/\fM m C (cS m live Pow.new ds).2.2/\iz m ds (cS m live Pow.new ds).2.2/\
  (∀k d,aX (cS m live Pow.new ds).2.2 k=dB d->ii d.l<=d.room/\d.wait=0)/\
  ((∀k d,aX ds k=dB d->k∈live->ii (bN m d.l)<=d.room)->(cS m live Pow.new ds).1=0)/\
  ((cS m live Pow.new ds).1=0->∀k∈live,∀d,aX (cS m live Pow.new ds).2.2 k=dB d->Tidy m d)
 |[],ds,_,S,_,hw=>⟨i0,.inl i0,S,.refl _,hw,λ_=>rfl,λ_ k H=>by cases H⟩
 |k::live,ds,o,S,hlv,hw=>by
  obtain⟨g,o⟩:=wU.1 o;obtain⟨d,n,G⟩:=hlv k qI;have r:=S.cells k d n;have p:=λj f=>hlv j (qD _ f);unfold cS;rw[n];dsimp only;by_cases e:d.l=bN m d.l
  ·rw[f9 e];obtain⟨D,B,a3,a4,a5,E,y⟩:=th (live:=live) o S p hw;refine⟨D,B,a3,a4,a5,λh=>E λj x a f=>h j x a (qD _ f),λh0 j f x a=>?_⟩;rcases q8.1 f with rfl|f
   ·rw[nK (w:=Pow.new) S.len g,n]at a;injection a with a
    subst a;exact⟨(na S.may).2 λc r=>by rw[e];exact zp _ r,by rw[<-e];exact qm _,(hw j d n).1⟩
   ·exact y h0 j f x a
  ·rw[g0 e];by_cases u:ii (bN m d.l)<=d.room
   ·have A:=uF jS (pm m d.l) G u;rw[A];dsimp only;rw[f9 rfl];have v:=Un S.may r;have F:fM m C (bK ds k {d with l:=bN m d.l,wait:=0,laid:=[],has:=eS}):=S.Rw n (Gn S.may r);have i:=λs=>gq (d:={d with l:=bN m d.l,wait:=0,laid:=[],has:=eS}) S.len n s;have I:iz m ds (bK ds k {d with l:=bN m d.l,wait:=0,laid:=[],has:=eS}):=.set S.len n v;obtain⟨D,B,a3,a4,a5,E,y⟩:=th (live:=live) o F (λj f=>by
     obtain⟨x,a,z⟩:=p j f;have q:j≠k:=λh=>g (by rw[<-h];exact f);exact⟨x,by rw[i,g0 q];exact a,z⟩) (λj x a=>by
     rw[i]at a;split at a
     ·injection a with a;subst a;exact⟨u,i0⟩
     ·exact hw j x a)
    refine⟨D,B,a3,I.trans a4,a5,λh=>E λj x a f=>?_,λh0 j f x a=>?_⟩
    ·have q:j≠k:=λh=>g (by rw[<-h];exact f);rw[i,g0 q]at a;exact h j x a (qD _ f)
    ·rcases q8.1 f with rfl|f
     ·rw[nK (w:=Pow.new) F.len g,i,f9 rfl]at a;injection a with a
      subst a;exact MW S.may r u
     ·exact y h0 j f x a
   ·have A:d.rewrite Pow.new (bN m d.l)=(7,Pow.new,d):=by unfold bj.rewrite;have t:(bN m d.l).all (λb=>decide (ii b=64))=eR:=q7.2 λc h=>g9 (pm m d.l c h);rw[t,g0 i5,g0 (by rw[G];decide),f9 i4]
    rw[A];dsimp only;rw[g0 (show¬(7:Int)=0 by decide),ME n];exact⟨i0,.inr i0,S,.refl _,hw,λh=>absurd (h k d n qI) u,λh=>absurd h (show¬(7:Int)=0 by decide)⟩
structure GX (m:aC) (C:Int->aV) (e:Wl.cz) (i:Nat) (x:ir):Prop where
 he:e∈m.aF
 hi:i<e.tries.length
 o:x.o=e.object
 b:x.b=i
 seed:x.seed=ck e.object i (e.tries.getD i 0)
 M:x.M=dC m.p x.seed (ik m C e.object i)
theorem GX.Fp{e:Wl.cz}{i:Nat}{x:ir}(X:GX m C e i x)(id:Nat):x.Fp m id=mz m e.object i (ck e.object i (e.tries.getD i 0)) (ik m C e.object i) id:=by unfold ir.Fp mz so;rw[X.M,X.o,X.b,X.seed]
theorem MX(S:fM m C ds){e:Wl.cz}(a:e∈m.aF){i:Nat}(d:i<e.tries.length){id:Nat}(hid:id<=65535):dw m C (dn (mz m e.object i (ck e.object i (e.tries.getD i 0)) (ik m C e.object i) id)):=by
 have c:=S.FD a d hid;have b:=xH c (ms _ _ _);refine⟨λr h=>?_,λr h _=>?_,λg h=>?_⟩
 ·rw[b]at h;injection h with h;subst h
  exact S.old a
 ·rw[b]at h;injection h with h;subst h
  rfl
 ·rw[Kg c]at h;cases h
theorem FH{W:bP}:cT W<=ii W.flatten:=by
 have h:=rg (l:=(qz (cT W)).map λi:Nat=>(i:Int)) (m:=W.flatten) (by
  rw[List.Nodup,y0];exact yj.imp λh e=>i4) λx c=>by
   obtain⟨j,a,rfl⟩:=qu.1 c;have:=Fo (qJ.1 a);unfold ke at this;rw[wk]at this;obtain⟨l,b,d⟩:=this;exact yw.2 ⟨l,b,hZ d⟩
 simpa using h
theorem rj{W:bP}{c:Nat}(h:∀l∈W,ii l<=c):ii W.flatten<=ii W*c:=by
 induction W with
 |nil=>simp
 |cons l W ih=>
  rw[List.flatten_cons,qw,zh,zH];have b:=h l qI;have d:=ih λz a=>h z (qD _ a);omega
theorem MY{live:aw}{s:Int}(h:s∈live):∃k:Nat,fU live s=k/\∃a:k<ii live,live[k]=s:=by
 unfold fU;cases hx:live.idxOf? s with
 |none=>
  unfold List.idxOf? at hx;rw[List.findIdx?_eq_none_iff]at hx;have:=hx s h;simp at this
 |some k=>
  unfold List.idxOf? at hx;obtain⟨a,b,_⟩:=List.findIdx?_eq_some_iff_getElem.1 hx;exact⟨k,i0,a,j6⟩
def Ko(m:aC)(live:aw)(ds:aE)(x:ir):Prop:=∀k (a:k<ii live),∀id∈x.W.getD k [],id∈(eF m ds x.o x.b live[k]).map qK
theorem Ko.keep{live:aw}{ds':aE}{x:ir}(h:Ko m live ds x)(K:iz m ds ds'):Ko m live ds' x:=λk a id hid=>K.syms (h k a id hid)
theorem Tw(e:bL m=eR){d:bj}{c:aV}{f:cW}(k:∀z∈d.l,dw m C z)(o:dw m C c)(p:dT c=dB f)(h:Tidy m d)(g:ii d.l+1<=d.room)(n:Nat):Tidy m {d with l:=d.l++[c],wait:=n,laid:=[],has:=eS}:=by
 refine⟨(na e).2 λz i=>zp _ ((na e).1 h.whole z i),?_,i7⟩;show(bN m (d.l++[c])).length<=ii (d.l++[c]);have s:=h.keep;rw[Ip]at s⊢;have j:ii (cM m (d.l++[c]))<=ii (cM m d.l++[f]):=by
  letI:DecidableEq cW:=λa b=>Classical.propDecidable _
  refine rg (tf _) λr g=>?_;obtain⟨a,b,q⟩:=iW g;rcases qA.1 a with a|a
  ·exact zp _ (mZ e k a b q)
  ·rw[qB.1 a,p]at b;injection b with b
   exact zW _ (by rw[b];simp)
 simp at j⊢;omega
theorem ZG(a:bL m=eR){d:bj}{n:Int}(b:∀c∈d.l,dw m C c)(h:Tidy m d):Tidy m (cK m d n):=by
 unfold cK;split
 ·exact h
 ·exact MW a b (zd h.keep h.room)
theorem Uo(a:bL m=eR){d:bj}{n:Int}(b:∀c∈d.l,dw m C c):DK m d (cK m d n):=by
 unfold cK;split
 ·exact .refl d
 ·exact Un a b
structure lI (m:aC) (C:Int->aV) (live:aw) (ds:aE) (got:aw):Prop where
 sto:fM m C ds
 lv:∀k∈live,∃d,aX ds k=dB d/\d.lost=eS
 wt:∀k d,aX ds k=dB d->d.wait=0∨k∈got
 tidy:∀k∈live,∀d,aX ds k=dB d->Tidy m d
 rm:∀k d,aX ds k=dB d->ii d.l<=d.room/\d.room<=512
theorem nL{live set order:aw}{c:aV}{id:Nat}{w:Pow}:∀l:List Nat,(gy m live set order c id w ds l).1=(7,w,ds)∨
  ∃i∈l,∃d,aX ds (fZ order ((id:Int)+i))=dB d/\gP m d 1=eR/\gy m live set order c id w ds l=(iG m c w ds (fZ order ((id:Int)+i)) d,fU live (fZ order ((id:Int)+i)),fZ order ((id:Int)+i))
 |[]=>.inl i0
 |i::l=>by
  unfold gy;dsimp only;have step:∀{P:Prop},(gy m live set order c id w ds l).1=(7,w,ds)∨(∃i∈l,∃d,aX ds (fZ order ((id:Int)+i))=dB d/\gP m d 1=eR/\gy m live set order c id w ds l=(iG m c w ds (fZ order ((id:Int)+i)) d,fU live (fZ order ((id:Int)+i)),fZ order ((id:Int)+i)))->
   (gy m live set order c id w ds l).1=(7,w,ds)∨(∃j∈i::l,∃d,aX ds (fZ order ((id:Int)+j))=dB d/\gP m d 1=eR/\gy m live set order c id w ds l=(iG m c w ds (fZ order ((id:Int)+j)) d,fU live (fZ order ((id:Int)+j)),fZ order ((id:Int)+j))):=λ{P} h=>by
    rcases h with h|⟨j,hj,r⟩
    ·exact .inl h
    ·exact .inr ⟨j,qD _ hj,r⟩
  cases hd:aX ds (fZ order ((id:Int)+i))with
  |none=>exact step (P:=True) (nL l)
  |some d=>
   dsimp only;by_cases a:fU live (fZ order ((id:Int)+i))∈set∨gP m d 1=eS
   ·rw[f9 a];exact step (P:=True) (nL l)
   ·rw[g0 a];exact .inr ⟨i,qI,d,hd,by cases hf:gP m d 1 with|true=>rfl|false=>exact absurd (.inr hf) a,rfl⟩
theorem MZ{live set:aw}{e:Wl.cz}{i:Nat}{x:ir}(ad:live.length<=9)(Q:lI m C live ds x.got)(X:GX m C e i x)(F:kG m live x)(O:Ko m live ds x):
  (di m live set Pow.new ds x).2.1=Pow.new/\((di m live set Pow.new ds x).1=0∨(di m live set Pow.new ds x).1=7)/\iz m ds (di m live set Pow.new ds x).2.2.1/\
  lI m C live (di m live set Pow.new ds x).2.2.1 (di m live set Pow.new ds x).2.2.2.got/\GX m C e i (di m live set Pow.new ds x).2.2.2/\Ko m live (di m live set Pow.new ds x).2.2.1 (di m live set Pow.new ds x).2.2.2:=by
 have q:cT x.W<=65535:=by
  have T:=FH (W:=x.W);have h2:=rj (W:=x.W) (c:=4160) λl hl=>by have:=F.rl l hl;have:=F.gl;omega
  have h3:=F.wl;have h4:x.W.length*4160<=9*4160:=za _ i4;omega
 have g:=Q.sto.counts X.he X.hi q;have I:=Q.sto.FD X.he X.hi q;have A:=MX Q.sto X.he X.hi q;obtain⟨p,v⟩:∃p,p=mz m e.object i (ck e.object i (e.tries.getD i 0)) (ik m C e.object i) (cT x.W):=⟨_,rfl⟩
 rw[<-v]at g I A;have J:=xH I (by rw[v];exact ms _ _ _);have ab:(dn p).length=64:=uc I;have eP:di m live set Pow.new ds x=(let r:=gy m live set (dR x.o x.b live) (dn p) (cT x.W) Pow.new ds (qz (dR x.o x.b live).length);(r.1.1,r.1.2.1,r.1.2.2,if r.1.1=0 then x.su (cT x.W) r.2.1 r.2.2 else x)):=by rw[v,<-X.Fp];rfl
 rw[eP];dsimp only;obtain⟨o,ho⟩:∃o,o=dR x.o x.b live:=⟨_,rfl⟩
 rw[<-ho];rcases nL (m:=m) (ds:=ds) (live:=live) (set:=set) (order:=o) (c:=dn p) (id:=cT x.W) (w:=Pow.new) (qz o.length)with h|⟨j,S,d,hd,hf,h⟩
 ·rw[h];dsimp only;rw[g0 (show¬(7:Int)=0 by decide)];exact⟨i0,.inr i0,.refl _,Q,X,O⟩
 obtain⟨s,hs⟩:∃s,s=fZ o ((cT x.W:Int)+j):=⟨_,rfl⟩
 rw[<-hs]at hd h;have S:=qJ.1 S;have H:s∈live:=by rw[hs];exact sZ (by rw[<-ho];exact Gk (by intro h;rw[h]at S;simp at S))
 obtain⟨kk,Z,V,Y⟩:=MY H;have hc:=Q.sto.cells s d hd;obtain⟨r1,r2,r3⟩:=sW hf;have ea:iG m (dn p) Pow.new ds s d=(0,Pow.new,bK ds s {cK m d 1 with l:=(cK m d 1).l++[dn p],wait:=(cK m d 1).wait+1,laid:=[],has:=eS}):=by unfold iG;rw[CJ jS hf];dsimp only;rw[g0 λh=>h i0,AH (n:=0) jS r1 i4 ab];dsimp only;rw[pr]
 rw[h,ea];dsimp only;rw[f9 rfl];obtain⟨y,u⟩:∃y,y={cK m d 1 with l:=(cK m d 1).l++[dn p],wait:=(cK m d 1).wait+1,laid:=[],has:=eS}:=⟨_,rfl⟩
 rw[<-u];have D:=Q.sto.may;have E:=Gp D hc (N:=1);have R:∀c∈y.l,dw m C c:=λc f=>by
  rw[u]at f;rcases qA.1 f with f|f
  ·exact E c f
  ·rw[qB.1 f];exact A
 have G:DK m d y:=(Uo D hc (n:=1)).trans (by
  rw[u];refine⟨i0,i0,λr hr=>RB D (l:=(cK m d 1).l) (l':=(cK m d 1).l++[dn p]) (λc f=>by
   rcases qA.1 f with f|f
   ·exact E c f
   ·rw[qB.1 f];exact A) (λc f=>zp _ f) hr,λhw=>(na D).2 λc f=>zp _ ((na D).1 hw c f)⟩)
 have K:iz m ds (bK ds s y):=.set Q.sto.len hd G;have t:=λz=>gq (d:=y) Q.sto.len hd z;have S':fM m C (bK ds s y):=Q.sto.Rw hd R;have P:Tidy m y:=by rw[u];exact Tw D E A J (ZG D hc (Q.tidy s H d hd)) i4 _
 refine⟨i0,.inl i0,K,⟨S',λk B=>?_,λk z a=>?_,λk B z a=>?_,λk z a=>?_⟩,⟨X.he,X.hi,X.o,X.b,X.seed,X.M⟩,λk B id hid=>?_⟩
 ·rw[t];split
  ·exact⟨y,i0,by rw[G.lost];obtain⟨z,a,hl⟩:=Q.lv s H;rw[hd]at a;injection a with a;rw[a];exact hl⟩
  ·exact Q.lv k B
 ·show z.wait=0∨k∈x.got++[s]
  rw[t]at a;split at a
  ·rename_i B;rw[B];exact .inr i9
  ·rcases Q.wt k z a with h|h
   ·exact .inl h
   ·exact .inr (zp _ h)
 ·rw[t]at a;split at a
  ·injection a with a
   rw[<-a];exact P
  ·exact Q.tidy k B z a
 ·rw[t]at a;split at a
  ·injection a with a
   rw[<-a];exact⟨P.room,by rw[G.room];exact(Q.rm s d hd).2⟩
  ·exact Q.rm k z a
 ·have hid:id∈(x.W.set (fU live s).toNat (x.W.getD (fU live s).toNat []++[(cT x.W:Int)])).getD k []:=hid;rw[Z,ql]at hid;show id∈(eF m (bK ds s y) x.o x.b live[k]).map qK;have U:kk<x.W.length:=by rw[F.wl];exact V
  by_cases L:k=kk
  ·subst L;rw[eE [] (by rw[List.length_set];exact U),List.getElem_set_self]at hid;rcases qA.1 hid with T|T
   ·exact K.syms (O k B id T)
   ·rw[qB.1 T,Y];refine qu.2 ⟨(p.id,p.data),?_,by rw[v];rfl⟩;unfold eF;rw[t,f9 rfl];refine qu.2 ⟨p,qH.2 ⟨mZ D R (by rw[u];exact zW _ i9) J g,?_⟩,i0⟩;rw[X.o,X.b,v];show(decide (e.object=e.object)&&decide ((i:Int)=(i:Int)))=eR;simp
  ·rw[qe,zC λh=>L h.symm,<-qe]at hid;exact K.syms (O k B id hid)
end Go.Qw
namespace Go.Qw
open Go Go.Vc Go.Proofs Wl
variable {m:aC} {C:Int->aV} {ds:aE}
theorem Na{p:Pm}(b:bM p=eR){seed:Int}{W:bP}{t:Int}(a:0<=t/\t<=ii W)(c:ii W<=64)(d:¬gI W.length t>4096):ig p seed W t=match mE p seed W t.toNat with|some g=>(g,eR,0)|none=>([],eS,0):=by unfold ig;rw[f9 b,f9 ⟨a.1,a.2,c⟩,g0 d];rfl
theorem CU{live:aw}{t most:Int}{e:Wl.cz}{i:Nat}(j:0<=t/\t<=ii live)(b:ii live<=9)(o:¬gI live.length t>4096)(a:most<=64):∀(f:Nat) (ds:aE) (x:ir),lI m C live ds x.got->GX m C e i x->kG m live x->Ko m live ds x->
  (cX m live t most f Pow.new ds x).2.1=Pow.new/\((cX m live t most f Pow.new ds x).1=0∨(cX m live t most f Pow.new ds x).1=7∨(cX m live t most f Pow.new ds x).1=12)/\iz m ds (cX m live t most f Pow.new ds x).2.2.1/\
  lI m C live (cX m live t most f Pow.new ds x).2.2.1 (cX m live t most f Pow.new ds x).2.2.2.got/\GX m C e i (cX m live t most f Pow.new ds x).2.2.2/\kG m live (cX m live t most f Pow.new ds x).2.2.2/\Ko m live (cX m live t most f Pow.new ds x).2.2.1 (cX m live t most f Pow.new ds x).2.2.2/\
  ((cX m live t most f Pow.new ds x).1=0->mE m.p x.seed (cX m live t most f Pow.new ds x).2.2.2.W t.toNat=eH)/\
  (mE m.p x.seed x.W t.toNat=eH->0<f->cX m live t most f Pow.new ds x=(0,Pow.new,ds,x))
 |0,ds,x,Q,X,F,O=>⟨i0,.inr (.inr i0),.refl _,Q,X,F,O,λh=>absurd h (show¬(12:Int)=0 by decide),λ_ h=>absurd h i5⟩
 |f+1,ds,x,Q,X,F,O=>by
  have c:=Na Q.sto.Rj (seed:=x.seed) (W:=x.W) (t:=t) ⟨j.1,by rw[F.wl];exact j.2⟩ qa (by rw[F.wl];exact o);unfold cX;dsimp only;rw[c];cases hwk:mE m.p x.seed x.W t.toNat with
  |none=>
   dsimp only;rw[g0 λh=>h i0,f9 rfl];exact⟨i0,.inl i0,.refl _,Q,X,F,O,λ_=>hwk,λ_ _=>rfl⟩
  |some g=>
   dsimp only;rw[g0 λh=>h i0,g0 i5];by_cases n:(ii x.got:Int)>=most
   ·rw[f9 n];exact⟨i0,.inr (.inr i0),.refl _,Q,X,F,O,λh=>absurd h (show¬(12:Int)=0 by decide),λh=>j8⟩
   ·rw[g0 n];obtain⟨k,r,a3,a4,a5,l⟩:=MZ (set:=g) b Q X F O;have d:=(CO (set:=g) (w:=Pow.new) (ds:=ds) F i4).1;obtain⟨q,E⟩:∃q,q=di m live g Pow.new ds x:=⟨_,rfl⟩
    rw[<-E]at k r a3 a4 a5 l d⊢;by_cases h0:q.1≠0
    ·rw[f9 h0];exact⟨k,r.elim (λh=>absurd h h0) λh=>.inr (.inl h),a3,a4,a5,d,l,λh=>absurd h h0,λh=>j8⟩
    ·rw[g0 h0,k];obtain⟨B,u,v,D,A,y,s,b8,_⟩:=CU j b o a f q.2.2.1 q.2.2.2 a4 a5 d l;have z:q.2.2.2.seed=x.seed:=by rw[a5.seed,X.seed]
     rw[z]at b8;exact⟨B,u,a3.trans v,D,A,y,s,b8,λh=>j8⟩
theorem lI.fit{live got:aw}(Q:lI m C live ds got):Fit ds live []:=⟨Q.sto.len,λs a=>by
 obtain⟨d,b,c⟩:=Q.lv s a;exact⟨d,b,c,by have:=(Q.tidy s a d b).room;simp;omega⟩⟩
theorem lI.sync{live got:aw}(Q:lI m C live ds got)(u:∀s∈got,s∈live)(q:∀s∈live,0<=s/\s<64):
  (fb (cL got) Pow.new ds).1=0/\(fb (cL got) Pow.new ds).2.1=Pow.new/\iz m ds (fb (cL got) Pow.new ds).2.2/\lI m C live (fb (cL got) Pow.new ds).2.2 []/\∀k,(aX (fb (cL got) Pow.new ds).2.2 k).map bj.l=(aX ds k).map bj.l:=by
 obtain⟨y,p,a3⟩:=CI jS (cL got) ds Q.fit λs t=>by
  unfold cL at t;exact u s (hZ (qH.1 t).2)
 obtain⟨D,x⟩:∃D,D=(fb (cL got) Pow.new ds).2.2:=⟨_,rfl⟩
 rw[<-x]at p a3⊢;have g:∀k d,aX ds k=dB d->∃c,aX D k=dB c/\c.l=d.l/\c.room=d.room/\c.lost=d.lost/\(c.wait=0∨c.wait=d.wait/\k∉cL got):=λk d b=>by
  rw[a3,b];refine⟨_,i0,?_⟩;split
  ·exact⟨i0,i0,i0,.inl i0⟩
  ·exact⟨i0,i0,i0,.inr ⟨i0,o0⟩⟩
 have j:∀k,aX ds k=eH->aX D k=eH:=λk h=>by rw[a3,h];rfl
 have f:∀k c,aX D k=dB c->∃d,aX ds k=dB d:=λk c h=>by
  cases b:aX ds k with
  |none=>rw[j k b]at h;cases h
  |some d=>exact⟨d,i0⟩
 refine⟨y,CH jS _ _,⟨by rw[p.len,Q.sto.len],λk d b=>?_,j⟩,⟨⟨Q.sto.may,p.len,λk c a=>?_,Q.sto.ents⟩,λk o=>?_,λk c a=>?_,λk o c a=>?_,λk c a=>?_⟩,λk=>?_⟩
 ·obtain⟨c,e,i,n,h3,_⟩:=g k d b;exact⟨c,e,h3,n,λr v=>by rw[i];exact v,λh=>by rw[i];exact h⟩
 ·obtain⟨d,b⟩:=f k c a;obtain⟨z,e,i,_⟩:=g k d b;rw[a]at e;injection e with e;subst e
  rw[i];exact Q.sto.cells k d b
 ·obtain⟨d,b,A⟩:=Q.lv k o;obtain⟨c,e,_,_,h3,_⟩:=g k d b;exact⟨c,e,by rw[h3];exact A⟩
 ·obtain⟨d,b⟩:=f k c a;obtain⟨z,e,_,_,_,w⟩:=g k d b;rw[a]at e;injection e with e;subst e
  rcases w with h|⟨h,hn⟩
  ·exact .inl h
  ·rcases Q.wt k d b with h5|h5
   ·exact .inl (h.trans h5)
   ·exact absurd ((AJ (q k (u k h5))).2 h5) hn
 ·obtain⟨d,b⟩:=f k c a;obtain⟨z,e,i,n,_,_⟩:=g k d b;rw[a]at e;injection e with e;subst e
  have:=Q.tidy k o d b;exact⟨by rw[i];exact this.whole,by rw[i];exact this.keep,by rw[i,n];exact this.room⟩
 ·obtain⟨d,b⟩:=f k c a;obtain⟨z,e,i,n,_,_⟩:=g k d b;rw[a]at e;injection e with e;subst e
  rw[i,n];exact Q.rm k d b
 ·cases b:aX ds k with
  |none=>rw[j k b]
  |some d=>
   obtain⟨c,e,i,_⟩:=g k d b;rw[e];simp[i]
structure rk (m:aC) (live:aw) (ds:aE) (t most:Int):Prop where
 lv:live=aQ ds m.drives
 Kn:ii live<=9
 tt:0<=t/\t<ii live
 c:¬gI live.length t>4096
 mo:0<=most/\most<=64
 bQ:∀s∈live,0<=s/\s<64
def jH(m:aC)(live:aw)(ds:aE)(t:Int)(e:Wl.cz)(i:Nat):Prop:=mE m.p (ck e.object i (e.tries.getD i 0)) (cb m ds e.object i live) t.toNat=eH
theorem gM(m:aC)(ds:aE)(o b:Int)(live:aw):ii (cb m ds o b live)=ii live:=by unfold cb;rw[qx]
theorem jH.keep{live:aw}{ds':aE}{t:Int}{e:Wl.cz}{i:Nat}(h:jH m live ds t e i)(K:iz m ds ds'):jH m live ds' t e i:=by
 refine MV (by rw[gM,gM]) (λk x a=>?_) h;by_cases b:k<ii live
 ·rw[od b]at a⊢;exact K.syms a
 ·rw[qe,qP (by rw[gM];omega)]at a;cases a
theorem Nb{live:aw}{t most:Int}{e:Wl.cz}{i:Nat}(Z:rk m live ds t most)(S:fM m C ds)(j:e∈m.aF)(v:i<e.tries.length)(g:∀k d,aX ds k=dB d->d.l.length<=512):
  ((fe m live ds e.object e.tries i).1=0∨(fe m live ds e.object e.tries i).1=11)/\
  ((fe m live ds e.object e.tries i).1=0->GX m C e i (fe m live ds e.object e.tries i).2/\Ko m live ds (fe m live ds e.object e.tries i).2/\(fe m live ds e.object e.tries i).2.W=cb m ds e.object i live)/\
  (jH m live ds t e i->(fe m live ds e.object e.tries i).1=0):=by
 have s:=S.Fy j v;unfold Wl.Fy at s;rw[<-Z.lv]at s;obtain⟨K,H,w,n,B⟩:=S.ga j v;have o:iN m.p (ck e.object i (e.tries.getD i 0)) (ik m C e.object i).length=0:=B.iN;unfold fe;dsimp only;rw[s,<-Z.lv];by_cases q:gc m.p (ck e.object i (e.tries.getD i 0)) (BA m ds e.object i)=eR
 ·rw[f9 q];dsimp only;rw[g0 λh=>h i0,g0 λh=>h o];refine⟨.inl i0,λ_=>⟨⟨j,v,i0,i0,i0,i0⟩,λk A id hid=>?_,i0⟩,λ_=>rfl⟩;dsimp only at hid⊢;rw[od A]at hid;exact hid
 ·rw[g0 q];dsimp only;rw[f9 (show¬(9:Int)=0 by decide)];refine⟨.inr i0,λh=>absurd h (show¬(11:Int)=0 by decide),λf=>absurd ?_ q⟩;unfold jH at f;obtain⟨W,r⟩:∃W,W=cb m ds e.object i live:=⟨_,rfl⟩
  rw[<-r]at f;have F:W.length=live.length:=by rw[r];exact gM _ _ _ _ _
  have u:ints (qz t.toNat)∈sX W.length t.toNat:=qu.2 ⟨_,Pb i9 (λx y=>by have:=qJ.1 y;have:=Z.tt;omega) yj,i0⟩;have E:(gA m.p (ck e.object i (e.tries.getD i 0)) W (ints (qz t.toNat)):Int)=bG m.p:=by have:=yu.1 f _ u;simpa using this
  have a:gc m.p (ck e.object i (e.tries.getD i 0)) (jW W (ints (qz t.toNat)) W.length)=eR:=by unfold gc;rw[S.Rj,wA];exact beq_iff_eq.2 E
  refine Zr S.Rj (λx y=>?_) a;obtain⟨k,A,_,b⟩:=(FG W _ x W.length).1 y;have c:k<live.length:=i4
  rw[r,od c]at b;obtain⟨z,D,rfl⟩:=qu.1 b;unfold BA fI;exact qu.2 ⟨z,zS.2 ⟨live[k],by rw[<-Z.lv];exact qg c,D⟩,i0⟩
theorem GY{live:aw}{t most:Int}{e:Wl.cz}{i:Nat}(Z:rk m live ds t most)(Q:lI m C live ds [])(E:e∈m.aF)(R:i<e.tries.length):
  (de m live t most Pow.new ds e i).2.1=Pow.new/\((de m live t most Pow.new ds e i).1=0∨(de m live t most Pow.new ds e i).1=7∨(de m live t most Pow.new ds e i).1=11∨(de m live t most Pow.new ds e i).1=12)/\iz m ds (de m live t most Pow.new ds e i).2.2.1/\fM m C (de m live t most Pow.new ds e i).2.2.1/\lI m C live (de m live t most Pow.new ds e i).2.2.1 []/\
  ((de m live t most Pow.new ds e i).1=0->jH m live (de m live t most Pow.new ds e i).2.2.1 t e i)/\
  (jH m live ds t e i->de m live t most Pow.new ds e i=(0,Pow.new,ds,0)):=by
 have a:∀k d,aX ds k=dB d->d.l.length<=512:=λk d I=>by have:=Q.rm k d I;omega
 obtain⟨n,D,z⟩:=Nb Z Q.sto E R a;have w:=λh=>CR (m:=m) (live:=live) (ds:=ds) (o:=e.object) (tries:=e.tries) (i:=i) a (by rw[<-Z.lv]) h;unfold de;dsimp only;obtain⟨p,K⟩:∃p,p=fe m live ds e.object e.tries i:=⟨_,rfl⟩
 rw[<-K]at n D z w⊢;by_cases h0:p.1=0
 rotate_left
 ·rw[f9 h0];exact⟨i0,n.elim (λh=>absurd h h0) λh=>.inr (.inr (.inl h)),.refl _,Q.sto,Q,λh=>absurd h h0,λh=>absurd (z h) h0⟩
 rw[g0 λh=>h h0];obtain⟨X,O,L⟩:=D h0;obtain⟨F,f⟩:=w h0;have H:lI m C live ds p.2.got:=by rw[f];exact Q
 obtain⟨B,P,a3,a4,a5,g,r,v,a9⟩:=CU (most:=most) ⟨Z.tt.1,by have:=Z.tt.2;omega⟩ Z.Kn Z.c Z.mo.2 65 ds p.2 H X F O;obtain⟨q,S⟩:∃q,q=cX m live t most 65 Pow.new ds p.2:=⟨_,rfl⟩
 rw[<-S]at B P a3 a4 a5 g r v a9⊢;rw[g0 i4,B];obtain⟨M,G,y,A,T⟩:=a4.sync (λs J=>g.gi s J) Z.bQ;rw[M,g0 λh=>h rfl];dsimp only;refine⟨G,i4,a3.trans y,A.sto,A,λh=>?_,λh=>?_⟩
 ·have h8:=v h;rw[X.seed]at h8;refine MV (V:=cb m (fb (cL q.2.2.2.got) Pow.new q.2.2.1).2.2 e.object i live) (by rw[gM,g.wl]) (λk x j=>?_) h8;by_cases u:k<live.length
  ·rw[od u];have:=(r.keep y) k u x j;rw[a5.o,a5.b]at this;exact this
  ·rw[qe,qP (by rw[g.wl];omega)]at j;cases j
 ·have N:=a9 (by rw[L,X.seed];exact h) i5;rw[N,f];rfl
theorem rk.next{live:aw}{ds':aE}{t most:Int}(Z:rk m live ds t most)(K:iz m ds ds'):rk m live ds' t most:=⟨by rw[K.live];exact Z.lv,Z.Kn,Z.tt,Z.c,Z.mo,Z.bQ⟩
def okE(e:Int):Prop:=e=0∨e=7∨e=11∨e=12
theorem uL{live:aw}{t most:Int}{e:Wl.cz}(g:e∈m.aF):∀(l:List Nat) (ds:aE) (k:Nat),(∀i∈l,i<e.tries.length)->rk m live ds t most->lI m C live ds []->
  (eW m live t most e l Pow.new ds k).2.1=Pow.new/\okE (eW m live t most e l Pow.new ds k).1/\iz m ds (eW m live t most e l Pow.new ds k).2.2.1/\lI m C live (eW m live t most e l Pow.new ds k).2.2.1 []/\
  ((eW m live t most e l Pow.new ds k).1=0->∀i∈l,jH m live (eW m live t most e l Pow.new ds k).2.2.1 t e i)/\
  ((∀i∈l,jH m live ds t e i)->eW m live t most e l Pow.new ds k=(0,Pow.new,ds,k))
 |[],ds,k,_,_,Q=>⟨i0,.inl i0,.refl _,Q,λ_ i y=>(by cases y),λ_=>rfl⟩
 |i::l,ds,k,hl,Z,Q=>by
  obtain⟨d,p,a3,a4,a5,q,c⟩:=GY Z Q g (hl i qI);unfold eW;dsimp only;obtain⟨b,u⟩:∃b,b=de m live t most Pow.new ds e i:=⟨_,rfl⟩
  rw[<-u]at d p a3 a4 a5 q c⊢;by_cases h0:b.1=0
  rotate_left
  ·rw[f9 h0];exact⟨d,p,a3,a5,λh=>absurd h h0,λh=>absurd (by rw[c (h i qI)]) h0⟩
  rw[g0 λh=>h h0,d];obtain⟨v,w,c3,x,s,o⟩:=uL g l b.2.2.1 (k+b.2.2.2) (λj a=>hl j (qD _ a)) (Z.next a3) a5;refine⟨v,w,a3.trans c3,x,λh j a=>?_,λh=>?_⟩
  ·rcases q8.1 a with rfl|a
   ·exact(q h0).keep c3
   ·exact s h j a
  ·have n:=c (h i qI);have r:b.2.2.1=ds:=by rw[n]
   have f:b.2.2.2=0:=by rw[n]
   rw[r,f,wJ]at o;rw[r,f,wJ];exact o λj a=>h j (qD _ a)
theorem Kq{live:aw}{t most:Int}:∀(l:List Wl.cz) (ds:aE) (k:Nat),(∀e∈l,e∈m.aF)->rk m live ds t most->lI m C live ds []->
  (il m live t most l Pow.new ds k).2.1=Pow.new/\okE (il m live t most l Pow.new ds k).1/\iz m ds (il m live t most l Pow.new ds k).2.2.1/\lI m C live (il m live t most l Pow.new ds k).2.2.1 []/\
  ((il m live t most l Pow.new ds k).1=0->∀e∈l,∀i<e.tries.length,jH m live (il m live t most l Pow.new ds k).2.2.1 t e i)/\
  ((∀e∈l,∀i<e.tries.length,jH m live ds t e i)->il m live t most l Pow.new ds k=(0,Pow.new,ds,k))
 |[],ds,k,_,_,Q=>⟨i0,.inl i0,.refl _,Q,λ_ i a=>(by cases a),λ_=>rfl⟩
 |e::l,ds,k,hl,Z,Q=>by
  obtain⟨f,o,a3,a5,p,d⟩:=uL (hl e qI) (qz e.tries.length) ds k (λi a=>qJ.1 a) Z Q;unfold il;dsimp only;obtain⟨b,r⟩:∃b,b=eW m live t most e (qz e.tries.length) Pow.new ds k:=⟨_,rfl⟩
  rw[<-r]at f o a3 a5 p d⊢;by_cases h0:b.1=0
  rotate_left
  ·rw[f9 h0];exact⟨f,o,a3,a5,λh=>absurd h h0,λh=>absurd (by rw[d λi a=>h e qI i (qJ.1 a)]) h0⟩
  rw[g0 λh=>h h0,f];obtain⟨u,v,c3,w,q,n⟩:=Kq l b.2.2.1 b.2.2.2 (λj c=>hl j (qD _ c)) (Z.next a3) a5;refine⟨u,v,a3.trans c3,w,λh j c=>?_,λh=>?_⟩
  ·rcases q8.1 c with rfl|c
   ·exactλi a=>(p h0 i (qJ.2 a)).keep c3
   ·exact q h j c
  ·have g:=d λi a=>h e qI i (qJ.1 a);have x:b.2.2.1=ds:=by rw[g]
   have s:b.2.2.2=k:=by rw[g]
   rw[x,s]at n⊢;exact n λj c=>h j (qD _ c)
theorem WH{live:aw}{t most:Int}(Z:rk m live ds t most)(S:fM m C ds)(n:∀k d,aX ds k=dB d->d.l.length<=d.room/\d.room<=512)(v:∀k d,aX ds k=dB d->d.wait=0):
  (eZ m 0 Pow.new ds t most).2.2.1=Pow.new/\okE (eZ m 0 Pow.new ds t most).2.1/\iz m ds (eZ m 0 Pow.new ds t most).2.2.2/\fM m C (eZ m 0 Pow.new ds t most).2.2.2/\
  (∀k d,aX (eZ m 0 Pow.new ds t most).2.2.2 k=dB d->d.l.length<=d.room/\d.wait=0)/\
  ((eZ m 0 Pow.new ds t most).2.1=0->lI m C live (eZ m 0 Pow.new ds t most).2.2.2 []/\∀e∈m.aF,∀i<e.tries.length,jH m live (eZ m 0 Pow.new ds t most).2.2.2 t e i)/\
  ((∀k∈live,∀d,aX ds k=dB d->Tidy m d)->(∀e∈m.aF,∀i<e.tries.length,jH m live ds t e i)->(eZ m 0 Pow.new ds t most).1=0/\(eZ m 0 Pow.new ds t most).2.1=0):=by
 have j:∀k∈live,∃d,aX ds k=dB d/\d.lost=eS:=λk f=>(jh (by rw[<-Z.lv];exact f)).2;have w:live.Nodup:=by rw[Z.lv];exact lA (nf S.may)
 obtain⟨r,z,a3,a4,a5,A,x⟩:=th w S j λk d a=>⟨(n k d a).1,v k d a⟩
 have M:=Z.tt;have K:=Z.c;have B:=Z.mo;have D:eZ m 0 Pow.new ds t most=(let c:=cS m live Pow.new ds;if c.1≠0 then(0,c.1,c.2.1,c.2.2)else(let q:=il m live t most m.aF c.2.1 c.2.2 0;(q.2.2.2,q.1,q.2.1,q.2.2.1))):=by unfold eZ;rw[<-Z.lv,g0 i5,g0 i4,g0 K]
 rw[D];dsimp only;obtain⟨c,s⟩:∃c,c=cS m live Pow.new ds:=⟨_,rfl⟩
 rw[<-s]at r z a3 a4 a5 A x⊢;have b:∀k d,aX c.2.2 k=dB d->d.l.length<=d.room/\d.room<=512:=λk d a=>by
  refine⟨(a5 k d a).1,?_⟩;cases h:aX ds k with
  |none=>rw[a4.no k h]at a;cases a
  |some d0=>
   obtain⟨y,e,p⟩:=a4.at_ k d0 h;rw[a]at e;injection e with e;rw[e,p.room];exact(n k d0 h).2
 by_cases h0:c.1=0
 rotate_left
 ·rw[f9 h0];refine⟨r,z.elim (λh=>absurd h h0) λh=>.inr (.inl h),a4,a3,a5,λh=>absurd h h0,λh _=>absurd (A λk d a f=>?_) h0⟩;have:=h k f d a;exact zd this.keep this.room
 rw[g0 λh=>h h0,r];have Q:lI m C live c.2.2 []:=⟨a3,λk f=>by
  obtain⟨d,a,L⟩:=j k f;obtain⟨y,e,p⟩:=a4.at_ k d a;exact⟨y,e,by rw[p.lost];exact L⟩,λk d a=>.inl (a5 k d a).2,λk f d a=>x h0 k f d a,b⟩
 obtain⟨J,E,F,o,I,H⟩:=Kq m.aF c.2.2 0 (λe g=>g) (Z.next a4) Q;refine⟨J,E,a4.trans F,o.sto,λk d a=>⟨(o.rm k d a).1,?_⟩,λh=>⟨o,λe g i u=>I h e g i u⟩,λ_ h=>?_⟩
 ·rcases o.wt k d a with h|h
  ·exact h
  ·cases h
 ·have G:=H λe g i u=>(h e g i u).keep a4;rw[G];exact⟨i0,i0⟩
def agh(p:Pm)(seed:Int)(live:aw)(t:Nat)(G:aw)(W:bP):Prop:=∀g∈sX live.length t,(∃s∈G,fU live s∉g)∨gc p seed (jW W g live.length)=eR
theorem ZH{x:ir}{id:Nat}{k s:Int}(j:Nat)(y:Int)(h:y∈x.W.getD j []):y∈(x.su id k s).W.getD j []:=by
 show y∈(x.W.set k.toNat (x.W.getD k.toNat []++[(id:Int)])).getD j [];by_cases a:k.toNat=j
 ·subst a;by_cases b:k.toNat<ii x.W
  ·rw[qe,zj b];exact zp _ h
  ·rw[qe,qP i4]at h;cases h
 ·rw[qe,zC a,<-qe];exact h
theorem GZ{d:bj}{c:aV}{s:Int}(b:gP m d 1=eR)(a:ii c=64):iG m c Pow.new ds s d=(0,Pow.new,bK ds s {cK m d 1 with l:=(cK m d 1).l++[c],wait:=(cK m d 1).wait+1,laid:=[],has:=eS}):=by obtain⟨e,f,g⟩:=sW b;unfold iG;rw[CJ jS b];dsimp only;rw[g0 λh=>h i0,AH (n:=0) jS e i4 a];dsimp only;rw[pr]
theorem abS(e:bL m=eR){l:cI}{c:aV}(f:∀z∈l,dw m C z):ii (cM m (l++[c]))<=ii (cM m l)+1:=by
 letI:DecidableEq cW:=λa b=>Classical.propDecidable _
 cases ht:dT c with
 |none=>
  refine Nat.le_succ_of_le (tE λr d=>?_);obtain⟨a,b,q⟩:=iW d;rcases qA.1 a with a|a
  ·exact mZ e f a b q
  ·rw[qB.1 a,ht]at b;cases b
 |some r0=>
  have h:=rg (m:=cM m l++[r0]) (tf (l++[c])) λr d=>by
   obtain⟨a,b,q⟩:=iW d;rcases qA.1 a with a|a
   ·exact zp _ (mZ e f a b q)
   ·rw[qB.1 a,ht]at b;injection b with b
    exact zW _ (by rw[b];simp)
  simpa using h
theorem WI{live:aw}{ds':aE}(K:iz m ds ds'){o b:Int}(k:Nat)(x:Int)(a:x∈(cb m ds o b live).getD k []):x∈(cb m ds' o b live).getD k []:=by
 by_cases c:k<ii live
 ·rw[od c]at a⊢;exact K.syms a
 ·rw[qe,qP (by rw[gM];omega)]at a;cases a
structure agQ (m:aC) (live G:aw) (ds:aE) (t:Int) (e:Wl.cz) (i:Nat):Prop where
 full:gc m.p (ck e.object i (e.tries.getD i 0)) (BA m ds e.object i)=eR
 spare:agh m.p (ck e.object i (e.tries.getD i 0)) live t.toNat G (cb m ds e.object i live)
theorem CV:∀{live:aw} {ds:aE},fM m C ds->(∀k∈live,∃d,aX ds k=dB d/\d.lost=eS)->∀s a,aX (cS m live Pow.new ds).2.2 s=dB a->∃d,aX ds s=dB d/\(∀r∈cM m a.l,r∈cM m d.l)/\a.room=d.room
 |[],ds,_,_,s,a,h=>⟨a,h,λ_ h=>h,i0⟩
 |k::live,ds,S,hlv,s,a,h=>by
  obtain⟨d,i,u⟩:=hlv k qI;have w:=S.cells k d i;have f:=λj q=>hlv j (qD _ q);unfold cS at h;rw[i]at h;dsimp only at h;by_cases e:d.l=bN m d.l
  ·rw[f9 e]at h;exact CV S f s a h
  ·rw[g0 e]at h;by_cases y:ii (bN m d.l)<=d.room
   ·rw[uF jS (pm m d.l) u y]at h;dsimp only at h;rw[f9 rfl]at h;have g:=λs=>gq (d:={d with l:=bN m d.l,wait:=0,laid:=[],has:=eS}) S.len i s;obtain⟨x,n,v,h3⟩:=CV (S.Rw i (d:={d with l:=bN m d.l,wait:=0,laid:=[],has:=eS}) (Gn S.may w)) (λj q=>by
     obtain⟨x,B,t⟩:=f j q;by_cases o:j=k
     ·exact⟨{d with l:=bN m d.l,wait:=0,laid:=[],has:=eS},by rw[g,f9 o],u⟩
     ·exact⟨x,by rw[g,g0 o];exact B,t⟩) s a h
    rw[g]at n;split at n
    ·rename_i z;injection n with n
     subst n z;exact⟨d,i,λr h=>(Ad S.may w).1 (v r h),h3⟩
    ·exact⟨x,n,v,h3⟩
   ·have A:d.rewrite Pow.new (bN m d.l)=(7,Pow.new,d):=by unfold bj.rewrite;have p:(bN m d.l).all (λb=>decide (ii b=64))=eR:=q7.2 λc h=>g9 (pm m d.l c h);rw[p,g0 i5,g0 (by rw[u];decide),f9 i4]
    rw[A]at h;dsimp only at h;rw[g0 (show¬(7:Int)=0 by decide),ME i]at h;exact⟨a,h,λ_ h=>h,i0⟩
end Go.Qw
namespace Go.Qw
open Go Go.Vc Go.Proofs Wl
structure One (m0:aC) (name:ByteArray) (b:aV) (R c:Nat) (m:aC) (C:Int->aV) (ds:aE) (t:aw):Prop where
 aF:m.aF=[⟨name,m0.next,ii b,t⟩]
 tl:ii t=ii (splitB m0.p b)
 p:m.p=m0.p
 extra:m.extra=m0.extra
 drives:m.drives=m0.drives
 sto:fM m C ds
 full:Full m C ds
 row:∀k d,aX ds k=dB d->d.wait=0/\d.room=R/\d.l.length<=27+c*(m0.p.1+m0.extra).toNat
 data:C m0.next=b
variable {B:aA} {h0 h:Heap} {As:List HP} {a pw:Addr} {offs:Int} {da:List bm} {w:Pow} {ds:aE} {m:aC}
variable {C:Int->aV}
variable {m:aC} {C:Int->aV} {ds:aE}
theorem aej{W:bP}{y:Int}:y∈W.flatten↔∃k,y∈W.getD k []:=by
 constructor
 ·intro h;obtain⟨l,c,b⟩:=yw.1 h;obtain⟨k,a,rfl⟩:=List.mem_iff_getElem.1 c;exact⟨k,by rw[eE [] a];exact b⟩
 ·rintro⟨k,h⟩;by_cases a:k<ii W
  ·rw[eE [] a]at h;exact yw.2 ⟨_,qg a,h⟩
  ·rw[qe,qP i4]at h;cases h
structure agC (W:bP) (n:Nat):Prop where
 nd:W.flatten.Nodup
 mem:∀y,y∈W.flatten↔∃j:Nat,j<n/\y=j
theorem ZI{W:bP}{y:Int}:ke W y=eR↔y∈W.flatten:=by unfold ke;rw[wk,yw];exact exists_congr λl=>and_congr_right λ_=>decide_eq_true_iff
theorem Up{o b k:Int}{d:bj}{r:cW}(c:aX ds k=dB d)(f:r∈cM m d.l)(e:r.object=o)(a:r.block=b):r.id∈(eF m ds o b k).map qK:=by refine qu.2 ⟨(r.id,r.data),?_,i0⟩;unfold eF;rw[c];exact qu.2 ⟨r,qH.2 ⟨f,by rw[e,a];simp⟩,i0⟩
theorem Iq(a:bL m=eR){d:bj}{n:Int}(b:∀c∈d.l,dw m C c){r:cW}(h:r∈cM m (cK m d n).l):r∈cM m d.l:=by
 unfold cK at h;split at h
 ·exact h
 ·exact(Ad a b).1 h
def InD(m:aC)(live:aw)(ds:aE)(x:ir):Prop:=∀k (a:k<ii live),∀id∈(eF m ds x.o x.b live[k]).map qK,id∈x.W.getD k []
end Go.Qw
namespace Go.Qw
open Go Go.Vc Go.Proofs Wl
variable {m:aC} {C:Int->aV} {ds:aE}
structure agM (m:aC) (live:aw) (t:Int) (e:Wl.cz) (n0:Nat) (ds':aE) (err:Int) (k:Nat):Prop where
 upto:agC (cb m ds' e.object ((0:Nat):Int) live) (n0+k)
 Kn:k<=64
 most:err=12->k=64
 last:err=0->0<k->∃Wp:bP,Wp.length=live.length/\mE m.p (ck e.object 0 (e.tries.getD 0 0)) Wp t.toNat≠eH/\∀i y,y∈(cb m ds' e.object ((0:Nat):Int) live).getD i []->y+1≠((n0+k:Nat):Int)->y∈Wp.getD i []
def pv(m:aC)(ds:aE)(k:Int):Nat:=match aX ds k with|some d=>ii (cM m d.l)|none=>0
def iA(m:aC)(ds:aE)(live:aw):Nat:=(live.map (pv m ds)).sum
theorem Kr{ds':aE}{live:aw}(h:∀k∈live,pv m ds' k=pv m ds k):iA m ds' live=iA m ds live:=by unfold iA;rw[wE h]
theorem abT{ds':aE}{live:aw}{s:Int}(b:live.Nodup)(c:s∈live)(g:pv m ds' s=pv m ds s+1)(h:∀k,k≠s->pv m ds' k=pv m ds k):iA m ds' live=iA m ds live+1:=by
 unfold iA
 induction live with
 |nil=>cases c
 |cons x l ih=>
  obtain⟨i,d⟩:=wU.1 b;rw[zK,zK,wW,wW];by_cases a:x=s
  ·subst a;rw[g,wE λk f=>h k λe=>i (by rw[<-e];exact f)];omega
  ·rw[h x a,ih d ((q8.1 c).resolve_left λe=>a e.symm)];omega
theorem ZJ(e:bL m=eR){l:cI}{c:aV}{r:cW}(f:∀z∈l++[c],dw m C z)(h:dT c=dB r)(i:eN m r=eR)(g:r∉cM m l):ii (cM m (l++[c]))=ii (cM m l)+1:=by
 letI:DecidableEq cW:=λa b=>Classical.propDecidable _
 have k:=abS (m:=m) (C:=C) e (c:=c) (l:=l) λz d=>f z (zp _ d);have j:=rg (l:=r::cM m l) (m:=cM m (l++[c])) (wU.2 ⟨g,tf l⟩) λz d=>by
  rcases q8.1 d with rfl|d
  ·exact mZ e f (zW _ (qB.2 i0)) h i
  ·exact RB e f (λz d=>zp _ d) d
 rw[zh]at j;omega
theorem ZK(a:bL m=eR){d:bj}{n:Int}(b:∀c∈d.l,dw m C c):ii (cM m (cK m d n).l)=ii (cM m d.l):=
 Nat.le_antisymm (tE λ_ h=>Iq a b h) (tE λ_ h=>(Uo a b (n:=n)).recs _ h)
theorem abU{live set:aw}{e:Wl.cz}{i:Nat}{x:ir}(ar:live.length<=9)(Q:lI m C live ds x.got)(X:GX m C e i x)(F:kG m live x)(Y:live.Nodup)(I:InD m live ds x)(O:(di m live set Pow.new ds x).1=0):
  InD m live (di m live set Pow.new ds x).2.2.1 (di m live set Pow.new ds x).2.2.2/\(di m live set Pow.new ds x).2.2.2.got.length=x.got.length+1/\iA m (di m live set Pow.new ds x).2.2.1 live=iA m ds live+1:=by
 have p:cT x.W<=65535:=by
  have h1:=FH (W:=x.W);have R:=rj (W:=x.W) (c:=4160) λl hl=>by have:=F.rl l hl;have:=F.gl;omega
  have h3:=F.wl;have h4:x.W.length*4160<=9*4160:=za _ i4;omega
 have f:=Q.sto.counts X.he X.hi p;have A:=Q.sto.FD X.he X.hi p;have P:=MX Q.sto X.he X.hi p;obtain⟨n,g⟩:∃n,n=mz m e.object i (ck e.object i (e.tries.getD i 0)) (ik m C e.object i) (cT x.W):=⟨_,rfl⟩
 rw[<-g]at A P f;have K:=xH A (by rw[g];exact ms _ _ _);have ao:(dn n).length=64:=uc A;have eP:di m live set Pow.new ds x=(let r:=gy m live set (dR x.o x.b live) (dn n) (cT x.W) Pow.new ds (qz (dR x.o x.b live).length);(r.1.1,r.1.2.1,r.1.2.2,if r.1.1=0 then x.su (cT x.W) r.2.1 r.2.2 else x)):=by rw[g,<-X.Fp];rfl
 rw[eP]at O⊢;dsimp only at O⊢;obtain⟨o,ho⟩:∃o,o=dR x.o x.b live:=⟨_,rfl⟩
 rw[<-ho]at O⊢;rcases nL (m:=m) (ds:=ds) (live:=live) (set:=set) (order:=o) (c:=dn n) (id:=cT x.W) (w:=Pow.new) (qz o.length)with h|⟨j,Z,d,hd,hf,h⟩
 ·rw[h]at O;exact absurd O (show¬(7:Int)=0 by decide)
 obtain⟨s,hs⟩:∃s,s=fZ o ((cT x.W:Int)+j):=⟨_,rfl⟩
 rw[<-hs]at hd h;have Z:=qJ.1 Z;have M:s∈live:=by rw[hs];exact sZ (by rw[<-ho];exact Gk (by intro h;rw[h]at Z;simp at Z))
 obtain⟨B,am,u,E⟩:=MY M;have hc:=Q.sto.cells s d hd;have J:=Q.sto.may;have L:=Gp J hc (N:=1);rw[h,GZ hf ao];dsimp only;rw[f9 i0,am];obtain⟨T,G⟩:∃T,T={cK m d 1 with l:=(cK m d 1).l++[dn n],wait:=(cK m d 1).wait+1,laid:=[],has:=eS}:=⟨_,rfl⟩
 rw[<-G];have v:=λz=>gq (d:=T) Q.sto.len hd z;have ad:B<x.W.length:=by rw[F.wl];exact u
 have ap:n.object=x.o:=by rw[g,X.o];rfl
 have ab:n.block=x.b:=by rw[g,X.b];rfl
 have S:n.id=(cT x.W:Int):=by rw[g];rfl
 have V:n∉cM m (cK m d 1).l:=λah=>by
  have h1:=I B u n.id (by rw[E];exact Up hd (Iq J hc ah) ap ab);have R:ke x.W n.id=eR:=ZI.2 (aej.2 ⟨B,h1⟩);rw[S,MJ]at R;cases R
 refine⟨λk H id hid=>?_,by show(x.got++[s]).length=_;simp,abT Y M ?_ λk H=>?_⟩
 ·have hid:id∈(eF m (bK ds s T) x.o x.b live[k]).map qK:=hid;by_cases t:live[k]=s
  ·have e1:k=B:=by
    have U:=List.pairwise_iff_getElem.1 Y;rcases Nat.lt_trichotomy k B with h|h|h
    ·exact absurd (t.trans E.symm) (U k B H u h)
    ·exact h
    ·exact absurd (E.trans t.symm) (U B k u H h)
   subst e1;show id∈(x.W.set ((k:Nat):Int).toNat (x.W.getD ((k:Nat):Int).toNat []++[(cT x.W:Int)])).getD k [];rw[ql,qe,zj ad];show id∈x.W.getD k []++[(cT x.W:Int)]
   obtain⟨z,D,rfl⟩:=qu.1 hid;obtain⟨d1,r,y,hr,h1,R,rfl⟩:=ta D;rw[t,v,f9 rfl]at y;injection y with y
   rw[<-y,G]at hr;obtain⟨a,b,q⟩:=iW hr;rcases qA.1 a with a|a
   ·refine zp _ (I k H r.id ?_);rw[t];exact Up hd (Iq J hc (mZ J L a b q)) h1 R
   ·rw[qB.1 a,K]at b;injection b with b
    refine zW _ ?_;rw[<-b,S];exact qB.2 i0
  ·refine ZH k id (I k H id ?_);rw[Rz (ds':=bK ds s T) (ds:=ds) (by rw[v,g0 t])]at hid;exact hid
 ·unfold pv;rw[v,f9 i0,hd];dsimp only;rw[G];dsimp only;rw[ZJ (C:=C) J (λz D=>by
   rcases qA.1 D with D|D
   ·exact L z D
   ·rw[qB.1 D];exact P) K f V,ZK J hc]
 ·unfold pv;rw[v,g0 H]
theorem ZL{live set:aw}{e:Wl.cz}{i:Nat}{x:ir}(n:live.length<=9)(Q:lI m C live ds x.got)(X:GX m C e i x)(F:kG m live x)(f:(di m live set Pow.new ds x).1≠0):iA m (di m live set Pow.new ds x).2.2.1 live=iA m ds live:=by
 have a:cT x.W<=65535:=by
  have s:=FH (W:=x.W);have q:=rj (W:=x.W) (c:=4160) λl p=>by have:=F.rl l p;have:=F.gl;omega
  have h3:=F.wl;have r:x.W.length*4160<=9*4160:=za _ i4;omega
 have g:=Q.sto.FD X.he X.hi a;have k:=uc g;unfold di at f⊢;dsimp only at f⊢;rw[X.Fp]at f⊢;rcases nL (m:=m) (ds:=ds) (live:=live) (set:=set) (order:=dR x.o x.b live) (c:=dn (mz m e.object i (ck e.object i (e.tries.getD i 0)) (ik m C e.object i) (cT x.W))) (id:=cT x.W) (w:=Pow.new) (qz (dR x.o x.b live).length)with h|⟨j,hj,d,hd,hf,h⟩
 ·rw[h]
 ·rw[h,GZ hf k]at f;exact absurd i0 f
theorem ZM{live:aw}{t:Int}{e:Wl.cz}{i M:Nat}(o:0<=t/\t<=ii live)(a:ii live<=9)(y:¬gI live.length t>4096)(G:M<=64)(j:live.Nodup):
  ∀(f:Nat) (ds:aE) (x:ir),lI m C live ds x.got->GX m C e i x->kG m live x->Ko m live ds x->InD m live ds x->ii x.got<=M->
  iA m (cX m live t M f Pow.new ds x).2.2.1 live+ii x.got=iA m ds live+(cX m live t M f Pow.new ds x).2.2.2.got.length/\(cX m live t M f Pow.new ds x).2.2.2.got.length<=M:=by
 intro f
 induction f with
 |zero=>exactλds x Q X F O I c=>⟨i0,c⟩
 |succ f ih=>
  intro ds x Q X F O I b;have d:=Na Q.sto.Rj (seed:=x.seed) (W:=x.W) (t:=t) ⟨o.1,by rw[F.wl];exact o.2⟩ qa (by rw[F.wl];exact y);unfold cX;dsimp only;rw[d];cases hwk:mE m.p x.seed x.W t.toNat with
  |none=>
   dsimp only;rw[g0 λh=>h i0,f9 rfl];exact⟨i0,b⟩
  |some g=>
   dsimp only;rw[g0 λh=>h i0,g0 i5];by_cases c:(ii x.got:Int)>=M
   ·rw[f9 c];exact⟨i0,b⟩
   ·rw[g0 c];obtain⟨r,z,a3,a4,a5,s⟩:=MZ (set:=g) a Q X F O;obtain⟨n,_,k⟩:=CO (set:=g) (w:=Pow.new) (ds:=ds) F i4;have E:=abU (set:=g) a Q X F j I;have l:(di m live g Pow.new ds x).1≠0->iA m (di m live g Pow.new ds x).2.2.1 live=iA m ds live:=ZL a Q X F;obtain⟨q,A⟩:∃q,q=di m live g Pow.new ds x:=⟨_,rfl⟩
    rw[<-A]at r z a3 a4 a5 s n k E l⊢;by_cases h0:q.1≠0
    ·rw[f9 h0,k h0,l h0];exact⟨i0,b⟩
    ·rw[g0 h0,r];obtain⟨v,D,B⟩:=E (Decidable.not_not.1 h0);obtain⟨H,u⟩:=ih q.2.2.1 q.2.2.2 a4 a5 n s v i4;exact⟨i4,u⟩
end Go.Qw
namespace Go.Qw
open Go Go.Vc Go.Proofs Wl
theorem Ha{p:Pm}{E:Int}{c:Nat}{x:Int}{m:aC}{D:aE}(F:Gr p E c x m D):∀k∈aQ D m.drives,∀d,aX D k=dB d->d.l=bN m d.l:=λk b d a=>by
 rw[F.live]at b;rw[F.at_,f9 b]at a;injection a with a
 subst a;show bn m=bN m (bn m);unfold bN nG;rw[SM];simp
theorem RC(h:Heap):aq xD 15 #[] h λv h'=>v=xx eR/\Sp h h' []:=by
 refine sP ?_;refine(Mm h).mono ?_;rintro _ y ⟨pw,rfl,p⟩;refine⟨_,i0,p.lit an ak fS i0 [5] i0 (show 1*1<=2^20 by decide) i0 λd u k=>?_⟩;have i:bM (1,1,1)=eR:=i5
 refine(JV (1,1,1) 0 d [5] (As:=[ae 3 d 1 ak [5]]) (St.dS 0 i0 λh' j=>j.1.seq (λ_=>rfl) j.2) i5 (Zz i i5 1 5 i5 i5) i0 k).mono ?_;rintro _ h3 ⟨a,da,D,rfl,r,s,f⟩;have F:=abM (c:=1) (x:=5) i i5 i5 i5 r s;obtain⟨m,g⟩:∃m,m=cE (1,1,1) 0 (List.replicate 1 5):=⟨_,rfl⟩
 rw[<-g]at F;have f:Sp h h3 [bu a pw da 0 Pow.new D m,ae 3 d 1 ak [5]]:=by rw[g];exact f
 have b:ii (aQ D m.drives)=1:=by rw[F.live,F.dr];rfl
 have q:nv m 0 Pow.new D 0 0=0:=by unfold nv;rw[g0 i5,b,g0 i5,g0 i5]
 have o:nv m 0 Pow.new D 1 0=1:=by unfold nv;rw[g0 i5,b,f9 i5]
 refine⟨(dB a,0),i0,(GU 0 0 F.may F.aF.1 (Ha F) i5 f).mono ?_⟩;rintro _ w ⟨rfl,n⟩;rw[q];refine⟨(0,0),i0,(GU 1 0 F.may F.aF.1 (Ha F) i5 n).mono ?_⟩;rintro _ t ⟨rfl,l⟩;rw[o];exact⟨(0,1),i0,cy (λ_=>cy (λ_=>cy (λ_=>⟨i0,.zip l.ag⟩) λe=>absurd i0 e) λe=>absurd i0 e) λe=>absurd i0 e⟩
end Go.Qw
namespace Wl
open Go Go.Vc Go.Qw
def fa(l:List cz):List (Int×Int×Int):=l.flatMap λe=>(qz e.tries.length).map λi:Nat=>(e.object,(i:Int),ck e.object i (e.tries.getD i 0))
theorem RD{l:List cz}{i:Nat}(h:i<l.length):fa (l.take (i+1))=fa (l.take i)++((qz l[i].tries.length).map λj:Nat=>(l[i].object,(j:Int),ck l[i].object j (l[i].tries.getD j 0))):=by unfold fa;rw[aH _ _ h,zg,zf,z7,qM]
theorem Hb{l:List cz}{c n:Nat}(h:∀e∈l,e.tries.length<=c)(a:l.length<=n):(fa l).length<=n*c:=by unfold fa;refine zd (Go.Qw.Gi (c:=c) λe b=>?_) (za _ a);rw[qx,zF];exact h e b
end Wl
namespace Go.Qw
open Go Go.Vc Go.Proofs Wl
def jE(x:Int×Int×Int):ba:=[xt xz x.1,xt xz x.2.1,xt xB x.2.2]
theorem afN:∀x,∀c∈jE x,c.oneCell'=eR:=by intro x c a;simp[jE]at a;rcases a with rfl|rfl|rfl<;>rfl
abbrev eBq:bU C.toAO 32 36 3 [xt xz 0,xt xz 0,xt xB 0] 24:=⟨_,_,i0,i0,i0,i0,i0,i0⟩
theorem NR(y:bX)(m:aC)(h:Heap)(hx:dH h y m)(K:bL m=eR):
  aq xD 10 #[fT y] h λv h'=>∃r:Sl,v=r/\Sp h h' [ae 36 r 3 jE (fa m.aF)]:=by
 refine sh y ?_;have L:m.aF.length<=12:=((cx m).1 K).2.2.2.1;have n:∀e∈m.aF,e.tries.length<=8:=λe A=>by
  have H:=(hJ m e).1 (((cx m).1 K).2.2.2.2.1 e A);have W:=nu H.2.2.1.2;omega
 obtain⟨J,M,q2,X⟩:=bH.jl hx.aF;have ab:=M.len;refine(Sp.refl h).boxed λo H q=>?_;have q:Sp h H [ae 36 ⟨eH,0,0⟩ 3 jE (fa (m.aF.take 0)),al o 29 (aS y)]:=((q.nil 36 3 jE).cu [1,0])
 refine⟨y.2.2.2.2.2.2.2,(q.box 1 i0).cell i0,?_⟩;refine av (λt:Sl×Nat=>(t.1,(t.2:Int))) (λt h'=>t.2<=m.aF.length/\Sp h h' [ae 36 t.1 3 jE (fa (m.aF.take t.2)),al o 29 (aS y)]) (λt=>m.aF.length-t.2) (⟨eH,0,0⟩,0) i0 ⟨zo _,q⟩ ?_;rintro⟨u,i⟩ W ⟨hi,d⟩;dsimp only at hi d⊢;refine ac (λe=>?_) λe=>?_
 rotate_left
 ·have B:i=m.aF.length:=i4
  rw[B,qV]at d;exact⟨u,i0,d.cu [0]⟩
 have b:i<m.aF.length:=i4
 have l:i<J.length:=i4
 obtain⟨E,D⟩:∃E,E=m.aF[i]:=⟨_,rfl⟩
 have U:E.tries.length<=8:=n E (by rw[D];exact qg b);have a:=X i l b;rw[<-D]at a;obtain⟨x,f⟩:∃x,x=J[i]:=⟨_,rfl⟩
 rw[<-f]at a;obtain⟨⟨k1,z,k3⟩,I⟩:=a;have P:=I.len;refine(Seq.up M d.ag).dZ (g:=bE) i i0 l x (by rw[f]) ?_;refine d.alloc an i0 λG h3 T=>?_;refine T.storeAll an 2 i0 i0 (bE x) i0 i0 i0 i0 λZ s=>?_;have s:Sp h Z [ae 36 u 3 jE (fa (m.aF.take i)++((qz 0).map λj:Nat=>(E.object,(j:Int),ck E.object j (E.tries.getD j 0)))),al o 29 (aS y),al G 94 (bE x)]:=by rw[List.range_zero,List.map_nil,qM];exact s
 refine⟨x.2.2.2,(s.box 2 i0).cell i0,?_⟩;have N:(fa (m.aF.take i)).length<=12*8:=Hb (λe A=>n e (List.mem_of_mem_take A)) i7;refine av (λt:Sl×Nat=>(t.1,(t.2:Int))) (λt h'=>t.2<=E.tries.length/\Sp h h' [ae 36 t.1 3 jE (fa (m.aF.take i)++((qz t.2).map λj:Nat=>(E.object,(j:Int),ck E.object j (E.tries.getD j 0)))),al o 29 (aS y),al G 94 (bE x)]) (λt=>E.tries.length-t.2) (u,0) i0 ⟨zo _,s⟩ ?_;rintro⟨R,j⟩ S ⟨O,c⟩;dsimp only at O c⊢;refine ac (λe2=>?_) λe2=>?_
 rotate_left
 ·have F:j=E.tries.length:=i4
  refine⟨(R,i+1),jj,⟨i6,?_⟩,i6⟩;dsimp only;rw[RD b,<-D,<-F];exact c.cu [0,1]
 have k:j<E.tries.length:=i4
 have Q:=Seq.up I c.ag;refine Q.bD j i0 k E.tries[j] i0 ?_;have p:=c.box 2 i0;refine⟨x.2.1,p.cell i0,x.2.1,p.cell i0,?_⟩;refine(pc x.2.1 j E.tries[j] S).mono ?_;rintro _ _ ⟨rfl,rfl⟩;refine⟨_,i0,⟨p.cell i0,trivial⟩,?_⟩;have Y:ck x.2.1 j E.tries[j]=ck E.object j (E.tries.getD j 0):=by rw[z,eE 0 k]
 rw[Y,z];refine c.ne an jE eBq i0 [(E.object,(j:Int),ck E.object j (E.tries.getD j 0))] i0 (show 1*3<=2^20 by decide) j1 ⟨by rw[<-z];exact p.cell i0,trivial⟩ ?_;refine c.push an 0 i0 eBq i0 i5 (λ_=>rfl) afN (E.object,(j:Int),ck E.object j (E.tries.getD j 0)) j1 i5 i7 λu3 V w=>?_;have w:Sp h V [ae 36 u3 3 jE ((fa (m.aF.take i)++((qz j).map λj:Nat=>(E.object,(j:Int),ck E.object j (E.tries.getD j 0))))++[(E.object,(j:Int),ck E.object j (E.tries.getD j 0))]),al o 29 (aS y),al G 94 (bE x)]:=w;refine⟨⟨by rw[<-z];exact(w.box 2 i0).cell i0,trivial⟩,?_⟩;refine⟨(u3,j+1),jj,⟨i6,?_⟩,i6⟩;dsimp only;rw[List.range_succ,qS,List.map_singleton,<-qp];exact w
variable {m:aC} {C:Int->aV} {ds:aE}
theorem afO{D:aE}{k:Int}(h:(aX D k).map bj.l=(aX ds k).map bj.l):pv m D k=pv m ds k:=by
 unfold pv;cases h1:aX D k with
 |none=>
  cases h2:aX ds k with
  |none=>rfl
  |some d=>rw[h1,h2]at h;cases h
 |some d'=>
  cases h2:aX ds k with
  |none=>rw[h1,h2]at h;cases h
  |some d=>
   rw[h1,h2]at h;injection h with h
   dsimp only;rw[h]
theorem WJ{live:aw}{t:Int}{e:Wl.cz}{i M:Nat}(Z:rk m live ds t M)(Q:lI m C live ds [])(D:e∈m.aF)(R:i<e.tries.length):
  iA m (de m live t M Pow.new ds e i).2.2.1 live=iA m ds live+(de m live t M Pow.new ds e i).2.2.2/\(de m live t M Pow.new ds e i).2.2.2<=M:=by
 have a:∀k d,aX ds k=dB d->d.l.length<=512:=λk d H=>by have:=Q.rm k d H;omega
 obtain⟨A,x,N⟩:=Nb Z Q.sto D R a;have u:=λh=>CR (m:=m) (live:=live) (ds:=ds) (o:=e.object) (tries:=e.tries) (i:=i) a (by rw[<-Z.lv]) h;unfold de;dsimp only;obtain⟨p,J⟩:∃p,p=fe m live ds e.object e.tries i:=⟨_,rfl⟩
 rw[<-J]at A x N u⊢;by_cases h0:p.1=0
 rotate_left
 ·rw[f9 h0];exact⟨i0,zo _⟩
 rw[g0 λh=>h h0];obtain⟨X,O,K⟩:=x h0;obtain⟨F,f⟩:=u h0;have n:lI m C live ds p.2.got:=by rw[f];exact Q
 have j:live.Nodup:=by rw[Z.lv];exact lA (nf Q.sto.may)
 have z:=Z.mo;have v:0<=t/\t<=live.length:=⟨Z.tt.1,by have:=Z.tt.2;omega⟩
 obtain⟨w,P,a3,a4,a5,y,B,G,a9⟩:=CU (most:=M) v Z.Kn Z.c Z.mo.2 65 ds p.2 n X F O;obtain⟨g,r⟩:=ZM (M:=M) v Z.Kn Z.c i4 j 65 ds p.2 n X F O (λk E id hid=>by rw[K,od E];rw[X.o,X.b]at hid;exact hid) (by rw[f];exact zo _);obtain⟨q,S⟩:∃q,q=cX m live t M 65 Pow.new ds p.2:=⟨_,rfl⟩
 rw[<-S]at w P a3 a4 a5 y B G a9 g r⊢;rw[g0 i4,w];obtain⟨V,T,U,W,L⟩:=a4.sync (λs I=>y.gi s I) Z.bQ;dsimp only;refine⟨?_,r⟩;rw[Kr λk _=>afO (L k)];rw[f]at g;exact g
theorem Hd{live:aw}{t:Int}{M:Nat}{e:Wl.cz}(a:e∈m.aF):∀(l:List Nat) (ds:aE) (k:Nat),(∀i∈l,i<e.tries.length)->rk m live ds t M->lI m C live ds []->
  iA m (eW m live t M e l Pow.new ds k).2.2.1 live+k=iA m ds live+(eW m live t M e l Pow.new ds k).2.2.2/\(eW m live t M e l Pow.new ds k).2.2.2<=k+l.length*M
 |[],ds,k,_,_,Q=>⟨i0,by show k<=_;omega⟩
 |i::l,ds,k,hl,Z,Q=>by
  obtain⟨c,p,a3,a4,a5,q,n⟩:=GY Z Q a (hl i qI);obtain⟨f,o⟩:=WJ Z Q a (hl i qI);unfold eW;dsimp only;obtain⟨b,g⟩:∃b,b=de m live t M Pow.new ds e i:=⟨_,rfl⟩
  rw[<-g]at c p a3 a4 a5 q n f o⊢;rw[zh,zH];by_cases h0:b.1=0
  rotate_left
  ·rw[f9 h0];dsimp only;omega
  rw[g0 λh=>h h0,c];obtain⟨r,s⟩:=Hd a l b.2.2.1 (k+b.2.2.2) (λj d=>hl j (qD _ d)) (Z.next a3) a5;omega
theorem Nc{live:aw}{t:Int}{M:Nat}:∀(l:List Wl.cz) (ds:aE) (k:Nat),(∀e∈l,e∈m.aF)->rk m live ds t M->lI m C live ds []->
  iA m (il m live t M l Pow.new ds k).2.2.1 live+k=iA m ds live+(il m live t M l Pow.new ds k).2.2.2/\(il m live t M l Pow.new ds k).2.2.2<=k+(fa l).length*M
 |[],ds,k,_,_,Q=>⟨i0,by show k<=_;omega⟩
 |e::l,ds,k,hl,Z,Q=>by
  obtain⟨d,q,a3,a5,r,o⟩:=uL (hl e qI) (qz e.tries.length) ds k (λi c=>qJ.1 c) Z Q;obtain⟨g,p⟩:=Hd (hl e qI) (qz e.tries.length) ds k (λi c=>qJ.1 c) Z Q;unfold il;dsimp only;obtain⟨b,n⟩:∃b,b=eW m live t M e (qz e.tries.length) Pow.new ds k:=⟨_,rfl⟩
  rw[<-n]at d q a3 a5 r o g p⊢;have a:(fa (e::l)).length*M=(qz e.tries.length).length*M+(fa l).length*M:=by unfold fa;rw[zf,qw,qx,Nat.add_mul]
  rw[a];by_cases h0:b.1=0
  rotate_left
  ·rw[f9 h0];omega
  rw[g0 λh=>h h0,d];obtain⟨s,u⟩:=Nc l b.2.2.1 b.2.2.2 (λj f=>hl j (qD _ f)) (Z.next a3) a5;omega
theorem ZN{live:aw}{t:Int}{M:Nat}(Z:rk m live ds t M)(S:fM m C ds)(o:∀k d,aX ds k=dB d->ii d.l<=d.room/\d.room<=512)(u:∀k d,aX ds k=dB d->d.wait=0):
  iA m (eZ m 0 Pow.new ds t M).2.2.2 live=iA m ds live+(eZ m 0 Pow.new ds t M).1/\(eZ m 0 Pow.new ds t M).1<=ii (fa m.aF)*M:=by
 have g:∀k∈live,∃d,aX ds k=dB d/\d.lost=eS:=λk j=>(jh (by rw[<-Z.lv];exact j)).2;have v:live.Nodup:=by rw[Z.lv];exact lA (nf S.may)
 obtain⟨y,G,a3,a4,a5,I,w⟩:=th v S g λk d a=>⟨(o k d a).1,u k d a⟩
 have K:=Z.tt;have F:=Z.c;have z:=Z.mo;have B:eZ m 0 Pow.new ds t M=(let c:=cS m live Pow.new ds;if c.1≠0 then(0,c.1,c.2.1,c.2.2)else(let q:=il m live t M m.aF c.2.1 c.2.2 0;(q.2.2.2,q.1,q.2.1,q.2.2.1))):=by unfold eZ;rw[<-Z.lv,g0 i5,g0 i4,g0 F]
 have i:=CV (live:=live) S g;rw[B];dsimp only;obtain⟨c,s⟩:∃c,c=cS m live Pow.new ds:=⟨_,rfl⟩
 rw[<-s]at y G a3 a4 a5 I w i⊢;have b:iA m c.2.2 live=iA m ds live:=Kr λk j=>by
  obtain⟨d,a,_⟩:=g k j;obtain⟨r,e,p⟩:=a4.at_ k d a;obtain⟨x,n,E,_⟩:=i k r e;rw[a]at n;injection n with n
  subst n;unfold pv;rw[e,a];exact Nat.le_antisymm (tE E) (tE p.recs)
 by_cases h0:c.1=0
 rotate_left
 ·rw[f9 h0];exact⟨b,zo _⟩
 have f:∀k d,aX c.2.2 k=dB d->ii d.l<=d.room/\d.room<=512:=λk d a=>by
  obtain⟨x,n,_,h3⟩:=i k d a;exact⟨(a5 k d a).1,by rw[h3];exact(o k x n).2⟩
 rw[g0 λh=>h h0,y];have Q:lI m C live c.2.2 []:=⟨a3,λk j=>by
  obtain⟨d,a,H⟩:=g k j;obtain⟨r,e,p⟩:=a4.at_ k d a;exact⟨r,e,by rw[p.lost];exact H⟩,λk d a=>.inl (a5 k d a).2,λk j d a=>w h0 k j d a,f⟩
 obtain⟨A,J⟩:=Nc m.aF c.2.2 0 (λe D=>D) (Z.next a4) Q;dsimp only;rw[b]at A;omega
theorem Ir{α β:Type}(f:α->β->Nat):∀(l:List α) (k:List β),(l.map λa=>(k.map λb=>f a b).sum).sum=(k.map λb=>(l.map λa=>f a b).sum).sum
 |[],k=>by
  have:(k.map λ_=>([]:List Nat).sum).sum=0:=by induction k with
   |nil=>rfl
   |cons b k ih=>rw[zK,wW,ih];rfl
  exact this.symm
 |a::l,k=>by
  rw[zK,wW,Ir f l k]
  induction k with
  |nil=>rfl
  |cons b k ih=>
   rw[zK,wW,zK,wW,zK,wW,zK,wW];omega
theorem abV{α β:Type}(g:β->α->Bool){l:List α}:∀(k:List β),(∀x∈l,ii (k.filter λb=>g b x)=1)->(k.map λb=>ii (l.filter (g b))).sum=ii l:=by
 intro k h;have a:∀b,ii (l.filter (g b))=(l.map λx=>if g b x=eR then 1 else 0).sum:=λb=>by
  clear h
  induction l with
  |nil=>rfl
  |cons x l ih=>
   rw[zr,zK,wW];split<;>simp[ih]<;>omega
 have c:∀x,ii (k.filter λb=>g b x)=(k.map λb=>if g b x=eR then 1 else 0).sum:=λx=>by
  clear h a
  induction k with
  |nil=>rfl
  |cons b k ih=>
   rw[zr,zK,wW];split<;>simp[ih]<;>omega
 rw[wE λb _=>a b,Ir];rw[wE (g:=λ_=>1) λx d=>by rw[<-c x];exact h x d];clear h a c
 induction l with
 |nil=>rfl
 |cons x l ih=>rw[zK,wW,ih,zh];omega
theorem abW{β:Type}{g:β->Bool}{R:β->β->Prop}{k:List β}{b:β}(n:k.Pairwise R)(j:∀a c,g a=eR->g c=eR->¬R a c)(h:b∈k)(i:g b=eR):ii (k.filter g)=1:=by
 have d:(k.filter g).Pairwise R:=n.filter g;have e:b∈k.filter g:=qH.2 ⟨h,i⟩
 match hf:k.filter g,d,e with
 |[],_,e=>cases e
 |[_],_,_=>rfl
 |a::c::l,d,_=>
  have f:a∈k.filter g:=by rw[hf];exact qI
  have m:c∈k.filter g:=by rw[hf];exact qD _ qI
  exact absurd ((List.pairwise_cons.1 d).1 c qI) (j a c (qH.1 f).2 (qH.1 m).2)
theorem NS{l:List Wl.cz}(h:l.Pairwise λa b=>a.object≠b.object):(fa l).Pairwise λa b=>¬(a.1=b.1/\a.2.1=b.2.1):=by
 unfold fa;refine List.pairwise_flatMap.2 ⟨λe _=>y0.2 (yj.imp λ{a b} hab h=>?_),h.imp λ{a b} hab x hx y hy h=>?_⟩
 ·have:(a:Int)=(b:Int):=h.2;omega
 ·obtain⟨i,_,rfl⟩:=qu.1 hx;obtain⟨j,_,rfl⟩:=qu.1 hy;exact hab h.1
theorem abX(m:aC)(ds:aE)(o b k:Int):(eF m ds o b k).length=match aX ds k with|some d=>((cM m d.l).filter λr=>decide (r.object=o)&&decide (r.block=b)).length|none=>0:=by
 unfold eF;cases aX ds k with
 |none=>rfl
 |some d=>exact qx ..
theorem WK(m:aC)(ds:aE)(o b:Int)(live:aw):(cb m ds o b live).flatten.length=(live.map λk=>ii (eF m ds o b k)).sum:=by rw[List.length_flatten];congr 1;apply List.ext_getElem (by rw[qx,qx,gM]);intro i c a;rw[wC,wC,<-eE [] (by rw[gM];rw[qx]at a;exact a),od (by rw[qx]at a;exact a),qx]
theorem Nd(S:fM m C ds)(live:aw):((fa m.aF).map λx=>(cb m ds x.1 x.2.1 live).flatten.length).sum=iA m ds live:=by
 unfold iA;rw[wE λx _=>WK m ds x.1 x.2.1 live,Ir];congr 1;refine wE λk _=>?_;unfold pv;rw[wE λx _=>abX m ds x.1 x.2.1 k];cases hd:aX ds k with
 |none=>
  dsimp only
  induction fa m.aF with
  |nil=>rfl
  |cons a l ih=>rw[zK,wW,ih]
 |some d=>
  dsimp only;refine abV (λ(x:Int×Int×Int) (r:cW)=>decide (r.object=x.1)&&decide (r.block=x.2.1)) _ λr o=>?_;obtain⟨v,s,j⟩:=iW o;obtain⟨n,u,e,i,h,y,_⟩:=iQ.1 j;obtain⟨w,p,t,_⟩:=(jO r).1 n;refine abW (b:=(e.object,((r.block.toNat:Nat):Int),ck e.object r.block.toNat (e.tries.getD r.block.toNat 0))) (NS ((cx m).1 S.may).2.2.2.2.2.2) (λa c f g q=>q ?_) (zS.2 ⟨e,i,qu.2 ⟨r.block.toNat,qJ.2 i4,i0⟩⟩) (by simp[h,Int.toNat_of_nonneg p.1]);simp only[Bool.and_eq_true,decide_eq_true_eq]at f g;exact⟨f.1.symm.trans g.1,f.2.symm.trans g.2⟩
end Go.Qw
namespace Go.Qw
open Go Go.Vc Go.Proofs Wl
variable {m:aC} {C:Int->aV} {ds:aE}
theorem ZO:∀n:Fin 10,∀t:Fin 10,gI ((n:Nat):Int) ((t:Nat):Int)<=4096:=j4
theorem Tx{n:Nat}{t:Int}(b:n<=9)(a:0<=t)(c:t<n):¬gI (n:Int) t>4096:=by have h:=ZO ⟨n,i4⟩ ⟨t.toNat,i4⟩;dsimp only at h;rw[Int.toNat_of_nonneg a]at h;omega
end Go.Qw
namespace Go.Qw
open Go Go.Vc Go.Proofs Wl
variable {p:Pm} {m:aC} {C:Int->aV} {ds:aE}
structure Kept (m:aC) (C:Int->aV) (ds:aE) (r:Nat×Int×Pow×aE) (M:Nat):Prop where
 pow:r.2.2.1=Pow.new
 err:r.2.1≠14
 arg:r.2.1=1->r.1=0
 Kn:r.1<=ii (fa m.aF)*M
 keep:iz m ds r.2.2.2
 sto:fM m C r.2.2.2
 tot:iA m r.2.2.2 (aQ ds m.drives)=iA m ds (aQ ds m.drives)+r.1
theorem WL(S:fM m C ds)(c:ii (aQ ds m.drives)<=9)(b:∀k d,aX ds k=dB d->d.wait=0)(a:∀k d,aX ds k=dB d->ii d.l<=d.room/\d.room<=512){t:Int}{M:Nat}(o:M<=64):Kept m C ds (eZ m 0 Pow.new ds t M) M:=by
 by_cases p:t<0∨t>=(ii (aQ ds m.drives):Int)
 ·have e:eZ m 0 Pow.new ds t M=(0,1,Pow.new,ds):=by unfold eZ;rw[g0 i5,f9 i4]
  rw[e];exact⟨i0,show¬(1:Int)=14 by decide,λ_=>rfl,zo _,.refl _,S,i0⟩
 ·have Z:rk m (aQ ds m.drives) ds t M:=⟨i0,c,i4,Tx c i4 i4,i4,λs i=>kL S.may s (jh i).1⟩
  obtain⟨n,j,a3,a4,_⟩:=WH Z S a b;obtain⟨f,g⟩:=ZN Z S a b;refine⟨n,λh=>?_,λh=>?_,g,a3,a4,f⟩<;>(unfold okE at j;omega)
def gB(m:aC)(ds:aE)(live:aw)(x:Int×Int×Int):aw:=(qz (ii live+1)).map λj:Nat=>(gA m.p x.2.2 (cb m ds x.1 x.2.1 live) [(j:Int)-1]:Int)
theorem aek{ds':aE}(K:iz m ds ds')(live:aw)(x:Int×Int×Int)(j:Nat):gA m.p x.2.2 (cb m ds x.1 x.2.1 live) [(j:Int)-1]<=gA m.p x.2.2 (cb m ds' x.1 x.2.1 live) [(j:Int)-1]:=
 MU (by rw[gM,gM];exact qm _) (λ_ h=>h) λk y a=>WI K k y a
end Go.Qw
namespace Go.Qw
open Go Go.Vc Go.Proofs Wl
variable {B:aA} {h0 h:Heap} {As:List HP} {a pw:Addr} {offs:Int} {da:List bm} {w:Pow} {ds:aE} {m:aC}
theorem agD{l:aw}{i:Nat}(a:i<ii l):((l.take i).map (60+·)++l.drop i).set i (60+l[i])=(l.take (i+1)).map (60+·)++l.drop (i+1):=by rw[List.set_append_right _ _ i7,aH _ _ a,qS,qp];congr 1;rw[show i-ii ((l.take i).map (60+·))=0 by simp;omega,List.drop_eq_getElem_cons a];rfl
theorem agE{l:aw}{i:Nat}(a:i<ii l)(h:i<ii ((l.take i).map (60+·)++l.drop i)):((l.take i).map (60+·)++l.drop i)[i]=l[i]:=by rw[List.getElem_append_right i7];simp[show i+(i-min i l.length)=i by omega]
theorem mA.bQ{p:Pm}{b:Mv}(h:mA p b):(b.kind=6->(0<=b.slot/\b.slot<9)/\6<=b.n/\b.n<66)/\(b.kind=11->(0<=b.n/\b.n<40)/\(0<=b.m/\b.m<61)/\0<=b.mask/\b.mask<4294967296):=by unfold mA at h;omega
theorem ZP{k:Int}{d:bj}{b:Addr}(i:Int)(e:aX ds k=dB d)(c:ib da k=dB b)(H:aa B h0 h (bu a pw da offs w ds m::As)):
  aq xD 43 #[xv (dB b),xt xz i] h λv h'=>∃r:Sl,v=r/\Sp h h' [ae 5 r 1 aD (if 0<=i then d.l.getD i.toNat []else[])]:=by
 obtain⟨s,j,g,n,f⟩:=If e c H;exact XR s j i g n f.cell
theorem RE(i:Int)(h:Heap):aq xD 43 #[xv eH,xt xz i] h λv h'=>v=xu eH 0 0/\Sp h h' []:=by refine oU eH i ?_;exact bc (bA (λ_=>⟨i0,Sp.refl h⟩) λe=>j0)
theorem WM{l:cI}{i:Int}(h:fu (if 0<=i then l.getD i.toNat []else[])≠eH):∃j:Nat,i=j/\∃b:j<ii l,fu l[j]≠eH:=by
 have a:fu []=eH:=i5
 by_cases c:0<=i
 ·rw[f9 c]at h;by_cases b:i.toNat<ii l
  ·rw[eE [] b]at h;exact⟨i.toNat,i4,b,h⟩
  ·rw[qe,qP i4]at h;exact absurd a h
 ·rw[g0 c]at h;exact absurd a h
theorem WN{k:Int}{d:bj}{b:Addr}(i at_ c:Int)(l:0<=c/\c<2^32)(n:aX ds k=dB d)(g:ib da k=dB b)(H:aa B h0 h (bu a pw da offs w ds m::As)):
  aq xD 44 #[xv (dB b),xt xz i,xt xz at_,xt xB c] h λv h'=>∃z:Bool,v=xx z/\aa B h0 h' (bu a pw da offs w (bK ds k (d.kY i at_ c)) m::As):=by
 obtain⟨o,A2,j,e⟩:=Fx n g H;refine(Wz i at_ c l j).mono ?_;rintro _ h' ⟨rfl,f⟩;exact⟨_,i0,e _ _ _ f⟩
theorem ZQ(c0:Sl)(l:aw)(s1:Sl)(l1:aw)(most:Nat)(h:Heap)(hs:Rd h c0 1 ak l)(bd:Rd h s1 1 ak l1)(bb:most<=100):
  aq xD 7 #[c0,s1,xt xz most] h λv h'=>
   ∃(a pw:Addr) (da:List bm) (ds:aE) (m:aC) (C:Int->aV),v=xv (dB a)/\Wn (iX l) m C ds/\Sp h h' [bu a pw da 0 Pow.new ds m]:=by
 refine uj c0 s1 most ?_;refine(Tt c0 l h hs).mono ?_;rintro _ h1 ⟨r,rfl,R1⟩;refine⟨(iX l,Ww l,r),i0,R1.alloc an i0 λa2 h2 H2=>?_⟩;refine H2.storeAll an 1 i0 i0 [xt xz (iX l).1,xt xz (iX l).2.1,xt xz (iX l).2.2] i0 i0 i0 i0 λh3 H3=>?_;obtain⟨p,O⟩:∃p,p=iX l:=⟨_,rfl⟩
 obtain⟨E,hE⟩:∃E,E=Ww l:=⟨_,rfl⟩
 obtain⟨c,hc⟩:∃c,c=sw l:=⟨_,rfl⟩
 obtain⟨L,hL⟩:∃L,L=CT l:=⟨_,rfl⟩
 have a4:ii L=c:=by rw[hL,hc];exact Rm l
 have bs:2<=c/\c<=5:=by rw[hc];exact Uj l
 have hp:bM p=eR:=by rw[O];exact YL _ _ _
 have ao:p.1<=6/\p.2.2<=9:=by rw[O];unfold iX Bw;dsimp only;omega
 have b5:=(cm p).1 hp;have cf:0<=E/\E<=6:=by rw[hE];unfold Ww;omega
 have ap:∀x∈L,8<=x/\x<=57:=λx hx=>by
  rw[hL]at hx;obtain⟨i,_,rfl⟩:=qu.1 hx;omega
 rw[<-O,<-hE];rw[<-O,<-hL]at H3;have H3:Sp h h3 [ae 3 r 1 ak ((L.take 0).map (60+·)++L.drop 0),al a2 26 [xt xz p.1,xt xz p.2.1,xt xz p.2.2]]:=H3;have b2:r.len=c:=by rw[<-a4,(H3.own 0 i0).len];rfl
 refine av (λi:Nat=>(i:Int)) (λi h'=>i<=c/\Sp h h' [ae 3 r 1 ak ((L.take i).map (60+·)++L.drop i),al a2 26 [xt xz p.1,xt xz p.2.1,xt xz p.2.2]]) (λi=>c-i) 0 i0 ⟨i4,H3⟩ ?_;rintro i h4 ⟨hi,P⟩;dsimp only;refine ac (λe=>?_) λe=>?_
 ·have n:i<ii L:=i4
  have V:i<ii ((L.take i).map (60+·)++L.drop i):=i7
  refine(P.seq 0 i0 λ_=>rfl).bD i i0 V L[i] (congrArg ak (agE n V)) ?_;have hg:=ap _ (qg n);rw[af (60+L[i])];refine P.set an 0 i0 (λ_=>rfl) i0 i i0 V (60+L[i]) i0 i0 i0 λh6 H6=>?_;rw[agD n]at H6;exact⟨i+1,js,⟨i4,H6⟩,i4⟩
 have a3:i=ii L:=i4
 subst a3;rw[List.drop_of_length_le i4,qM,qi i4]at P;obtain⟨G,hG⟩:∃G,G=L.map (60+·):=⟨_,rfl⟩
 rw[<-hG]at P;have cl:ii G=ii L:=by rw[hG,qx]
 have br:∀x∈G,1<=x/\x<=512:=by rw[hG];intro x hx;obtain⟨y,hy,rfl⟩:=qu.1 hx;have:=ap y hy;omega
 obtain⟨e0,a7⟩:=aef (extra:=E) hp i4 (show 1<=ii G/\G.length<=24 by omega) br;refine bT (λ(t:bm×Int) h'=>∃(a pw:Addr) (da:List bm) (D:aE),t=(dB a,0)/\D.length=64/\(∀s,aX D s=if s∈bo G G.length then dB ⟨(G.getD s.toNat 0).toNat,bn (cE p E G),0,[],eS,eS⟩else eH)/\
  Sp h h' [bu a pw da 0 Pow.new D (cE p E G),ae 3 r 1 ak G,al a2 26 [xt xz p.1,xt xz p.2.1,xt xz p.2.2]]) ?_ ?_
 ·refine⟨p,(P.box 1 i0).aP _ i0,(Mm h4).mono ?_⟩;rintro _ h6 ⟨pw,rfl,R6⟩;have H6:=P.cj R6;refine⟨_,i0,kp R6.ag ⟨(P.box 1 i0).cell0 i0,(P.box 1 i0).cell i0,(P.box 1 i0).cell i0,trivial⟩,?_⟩;refine(JV p E r G (As:=[ae 3 r 1 ak G,al a2 26 [xt xz p.1,xt xz p.2.1,xt xz p.2.2]]) (St.dS 0 i0 λh' J=>J.1.seq (λ_=>rfl) J.2) i4 e0 i0 H6).mono ?_;rintro _ h7 ⟨a,da,D,rfl,f2,f3,H7⟩;exact⟨(dB a,0),i0,trivial,a,pw,da,D,i0,f2,f3,H7⟩
 rintro⟨_,_⟩ h8 ⟨a,pw,da,D,he,f2,f3,H8⟩;injection he with he1 he2
 subst he1 he2;obtain⟨S0,F0,L0⟩:=Zy (m:=cE p E G) rfl e0 i4 f2 f3 λ_=>[];have ab:(cE p E G).drives=(qz G.length).map λi:Nat=>(i:Int):=a7;have I0:Wn p (cE p E G) (λ_=>[]) D:=by
  refine⟨S0,?_,λk Z=>?_,i0,λk d w=>by
   rw[f3]at w;split at w
   ·injection w with w;subst w;rfl
   ·cases w⟩
  ·rw[F0.aQ,ab];intro h;have h2:ii G=0:=by have:=congrArg vL h;rw[qx,zF]at this;exact this
   omega
  ·rw[ab]at Z;obtain⟨i,hi,rfl⟩:=qu.1 Z;have:=qJ.1 hi;omega
 refine bc (ci (λe=>absurd i0 e) λ_=>bA (λe=>j0) λ_=>?_);refine⟨p,(H8.box 2 i0).aP _ i0,?_⟩;refine(Wy p s1 l1 most h8 hp (bd.up H8.ag) bb).mono ?_;rintro _ a9 ⟨q,M,rfl,hM,b6,Y⟩;obtain⟨rs,Y⟩:=Y.KG 0 rfl λ_=>rfl;have H:Sp h a9 [bu a pw da 0 Pow.new D (cE p E G),ae 3 r 1 ak G,al a2 26 [xt xz p.1,xt xz p.2.1,xt xz p.2.2],cO lT 9 nI q rs M]:=H8.comp Y;have H:=H.cu [0,3];refine⟨q,i0,?_⟩;have b4:q.len=ii M:=by rw[(H.fA 1 i0).1.len,(H.fA 1 i0).2.1]
 refine av (λi:Nat=>(i:Int)) (λi h'=>i<=ii M/\∃da ds m C,Wn p m C ds/\Sp h h' [bu a pw da 0 Pow.new ds m,cO lT 9 nI q rs M]) (λi=>ii M-i) 0 i0 ⟨i4,da,D,_,_,I0,H⟩ ?_;rintro i b7 ⟨hi,da,ds,m,C,I,W⟩;dsimp only;refine ac (λe=>?_) λe=>⟨a,pw,da,ds,m,C,i0,I,W.cu [0]⟩
 have n:i<ii M:=i4
 have hF:=W.fA 1 i0;have bk:i<ii rs:=by rw[hF.2.1];exact n
 have next:∀{h':Heap} {K:List bm} {ds':aE} {U:aC} {C':Int->aV} {ax:List HP},Wn p U C' ds'->Sp h h' (bu a pw K 0 Pow.new ds' U::cO lT 9 nI q rs M::ax)->
   ∃t:Nat,(qc xz ((i:Int)+1):Int)=(t:Int)/\(t<=ii M/\∃da ds m C,Wn p m C ds/\Sp h h' [bu a pw da 0 Pow.new ds m,cO lT 9 nI q rs M])/\M.length-t<ii M-i:=λ{h' K ds' U C' ax} X H'=>
  ⟨i+1,js,⟨i4,K,ds',U,C',X,H'.aT 2 [0,1]|>λz=>aa.OG (As:=[_,_]) z⟩,i4⟩
 refine hF.1.dZ i i0 bk rs[i] i0 ?_;refine W.alloc an i0 λam cd bl=>?_;refine bl.storeAll an 2 i0 i0 (nI rs[i]) i0 i0 i0 i0 λbq g=>?_;have g:Sp h bq [bu a pw da 0 Pow.new ds m,cO lT 9 nI q rs M,al am 73 (nI rs[i])]:=g;have Q:=g.box 2 i0;obtain⟨⟨k1,k2,k3,k4,k5,k6,kc⟩,kd,_,_⟩:=Fix.row (g.fA 1 rfl) n;have Z:mA p M[i]:=hM _ (qg n);refine⟨rs[i].1,Q.cell0 i0,cy (λR=>?_) λ_=>cy (λR=>?_) λ_=>cy (λR=>?_) λ_=>cy (λR=>?_) λ_=>cy (λR=>?_) λ_=>next I g⟩
 ·obtain⟨n1,n2⟩:=mA.put Z (k1.symm.trans R);have b3:p.1*p.2.2<=6*9:=Int.mul_le_mul ao.1 ao.2 i4 i4;refine⟨rs[i].2.1,Q.cell i0,rs[i].2.2.1,Q.cell i0,?_⟩;rw[k2];refine(adS (As:=[cO lT 9 nI q rs M,al am 73 (nI rs[i])]) M[i].name rs[i].2.2.1 M[i].data (St.dS (A:=cO lT 9 nI q rs M) 0 i0 λh' J=>(Fix.row J n).2.1) kc (by have:=abK _ n1;omega) I.sto.may i4 g).mono ?_;rintro _ u ⟨rfl,f⟩;obtain⟨e,U,C',ds',J,X⟩:=I.put M[i].name M[i].data;rw[J]at f;exact⟨_,i0,next X f⟩
 ·refine⟨rs[i].2.1,Q.cell i0,(Wv rs[i].2.1 I.sto.may g).mono ?_⟩;rintro _ u ⟨rfl,f⟩;obtain⟨e,U,ds',J,X⟩:=I.del rs[i].2.1;rw[J]at f;exact⟨_,i0,next X f⟩
 ·obtain⟨t1,t2,t3⟩:=(mA.bQ Z).2 (k1.symm.trans R);refine⟨rs[i].2.2.2.1,Q.cell i0,(Fi rs[i].2.2.2.1 g).mono ?_⟩;rintro _ _ ⟨rfl,rfl⟩;refine⟨_,i0,rs[i].2.2.2.2.1,Q.cell i0,?_⟩;cases w:aX ds rs[i].2.2.2.1 with
  |none=>
   rw[YM w g];refine(RE _ _).mono ?_;rintro _ u ⟨rfl,o⟩;have f:=g.up o.ag;refine⟨⟨eH,0,0⟩,i0,(CB ⟨eH,0,0⟩ [] u (Seq.nil _ _ _ _ _ _) i9 (qm _)).mono ?_⟩;rintro _ ar ⟨c1,_⟩;obtain⟨rfl,B⟩:=c1 i5;exact⟨(0,⟨eH,0,0⟩,eS),i0,bA (λh=>j8) λ_=>next I (f.up B.ag)⟩
  |some d=>
   obtain⟨b,S⟩:=LA w g;rw[S];refine(ZP rs[i].2.2.2.2.1 w S g).mono ?_;rintro _ u ⟨ah,rfl,o⟩;have f:=g.cj o;have a8:=(I.sto.cells _ _ w)
   obtain⟨cc,T⟩:∃cc,cc=(if 0<=rs[i].2.2.2.2.1 then d.l.getD rs[i].2.2.2.2.1.toNat []else[]):=⟨_,rfl⟩
   rw[<-T]at o f;have b1:ii cc<=64:=by
    have a6:=((md g).2 _ _ w).2.2.cell;rw[T];split
    ·by_cases hj:rs[i].2.2.2.2.1.toNat<ii d.l
     ·rw[eE [] hj,a6 _ (qg hj)];exact qm _
     ·rw[qe,qP i4];exact zo _
    ·exact zo _
   refine⟨ah,i0,(CB ah cc u (f.seq 0 i0 λ_=>rfl) i4 (f.own 0 i0).cap).mono ?_⟩;rintro _ ar ⟨c1,c2⟩;cases ht:fu cc with
   |none=>
    obtain⟨rfl,B⟩:=c1 ht;exact⟨(0,⟨eH,0,0⟩,eS),i0,bA (λh=>j8) λ_=>next I (f.up B.ag).rest⟩
   |some kx=>
    obtain⟨a5,rfl,B⟩:=c2 kx.1 kx.2 ht;have N:=(f.up B.ag).rest;have F:=N.box 2 i0;obtain⟨j,a0,ay,a1⟩:=WM (l:=d.l) (i:=rs[i].2.2.2.2.1) (by rw[<-T,ht];exactλh=>j8);refine⟨(kx.1,a5,eR),i0,bA (λ_=>?_) λh=>j8⟩;refine⟨rs[i].2.2.2.2.1,F.cell i0,rs[i].2.2.2.2.2.1,F.cell i0,rs[i].2.2.2.2.2.2.1,F.cell i0,(WN _ _ _ (by rw[k6];exact t3) w S N).mono ?_⟩;rintro _ b9 ⟨z,rfl,ad⟩;rw[a0]at ad;exact⟨_,i0,next (I.kY w ay a1 (by rw[k5];omega)) ad⟩
 ·obtain⟨t1,t2,t3⟩:=(mA.bQ Z).1 (k1.symm.trans R);refine⟨rs[i].2.2.2.1,Q.cell i0,rs[i].2.2.2.2.1,Q.cell i0,?_⟩;refine(adT rs[i].2.2.2.1 (qc xz (rs[i].2.2.2.2.1+40)) I.sto.may g).mono ?_;rintro _ u ⟨rfl,K,f⟩;obtain⟨e,U,ds',J,X⟩:=I.add (slot:=rs[i].2.2.2.1) (by rw[k3];exact t1) (qc xz (rs[i].2.2.2.2.1+40));rw[J]at f;exact⟨_,i0,next X f⟩
 ·refine(CL I.sto.may g).mono ?_;rintro _ u ⟨lv,rfl,o⟩;have b0:=(o.own 0 i0).len;have f:=g.up o.ag;refine⟨lv,i0,ac (λe2=>?_) λe2=>next I f⟩;refine⟨rs[i].2.2.2.1,(f.box 2 i0).cell i0,(abN rs[i].2.2.2.1 I.sto.may f).mono ?_⟩;rintro _ ar ⟨rfl,N⟩;exact⟨_,i0,next (I.BM _ i4) N⟩
def Ks(m:aC)(ds:aE)(live:aw)(l:List (Int×Int×Int)):Nat:=(l.map λx=>(cb m ds x.1 x.2.1 live).flatten.length).sum
theorem RF{m:aC}{ds:aE}{live:aw}{l:List (Int×Int×Int)}{i:Nat}(a:i<ii l):Ks m ds live (l.take (i+1))=Ks m ds live (l.take i)+(cb m ds l[i].1 l[i].2.1 live).flatten.length:=by unfold Ks;rw[aH _ _ a,qS,List.sum_append];simp
theorem CW{m:aC}{ds:aE}(c:∀k d,aX ds k=dB d->ii d.l<=512)(o b:Int)(live:aw):∀l∈cb m ds o b live,ii l<=512:=λl a=>by
 obtain⟨k,_,rfl⟩:=Fz a;rw[qx];exact CQ (m:=m) (ds:=ds) (o:=o) (b:=b) (k:=k) c
theorem Kt{m:aC}{ds:aE}{live:aw}(a:ii live<=9)(b:∀k d,aX ds k=dB d->ii d.l<=512):∀l:List (Int×Int×Int),Ks m ds live l<=ii l*4608
 |[]=>zo _
 |x::l=>by
  have e:=Kt (m:=m) (ds:=ds) a b l;have f:=rj (W:=cb m ds x.1 x.2.1 live) (c:=512) (CW b _ _ _);rw[gM]at f;have h3:=za 512 a;unfold Ks at e⊢;rw[zK,wW,zh,zH];omega
theorem WO{B:aA}{a h:Heap}{As:List HP}{r:Sl}{W:bP}(H:aa B a h (dg 22 r 3 1 ak W::As)):dQ (bH (cF 1 ak) 1 bp) h r W:=by obtain⟨rs,b,c,z3⟩:=aa.DX H λ_=>rfl;exact⟨rs,b,c,z3⟩
theorem Ku{W:bP}{i:Nat}(a:i<ii W):(W.take (i+1)).flatten.length=(W.take i).flatten.length+W[i].length:=by rw[aH _ _ a,List.flatten_append,List.flatten_singleton,qw]
theorem CX(W:bP)(i:Nat):(W.take i).flatten.length<=ii W.flatten:=by have a:=congrArg vL (congrArg List.flatten (qF i W));rw[List.flatten_append,qw]at a;omega
theorem Uq{m:aC}{ds:aE}{live:aw}{x:Int×Int×Int}{j:Nat}(b:j<ii live+1)(h:j<ii (gB m ds live x)):(gB m ds live x)[j]=(gA m.p x.2.2 (cb m ds x.1 x.2.1 live) [(j:Int)-1]:Int):=by
 have a:(gB m ds live x)[j]?=dB (gA m.p x.2.2 (cb m ds x.1 x.2.1 live) [(j:Int)-1]:Int):=by unfold gB;rw[List.getElem?_map,List.getElem?_range b];rfl
 rw[qd h]at a;exact zP.inj a
theorem rn(m:aC)(ds:aE)(live:aw)(x:Int×Int×Int):ii (gB m ds live x)=ii live+1:=by unfold gB;rw[qx,zF]
theorem RG{α β:Type}{f:α->List β}{c:Nat}(a:∀x,ii (f x)=c):∀{l:List α} {i j:Nat} (b:i<ii l) (_:j<c),(l.flatMap f)[i*c+j]?=(f l[i])[j]?
 |x::l,0,j,_,hj=>by
  rw[zf,Nat.zero_mul,wh,List.getElem?_append_left (by rw[a];exact hj)];rfl
 |x::l,i+1,j,b,hj=>by
  rw[zf,List.getElem?_append_right (by rw[a,zH];omega),a,show(i+1)*c+j-c=i*c+j by rw[zH];omega,RG a (Nat.lt_of_succ_lt_succ b) hj];rfl
theorem abY{h:Heap}{p:aA}{s:Sl}{l:aw}(e:Vc.Seq h p s 1 ak l){n:Nat}(i:n<ii l){a:Addr}(f:s.ptr=dB a):cellOf h (a.add (n*1))=dB (xt xz l[n]):=by
 obtain⟨b,o,c,j,g⟩:=e.elem n l[n] (qd i);rw[f]at c;injection c with c
 subst c;have d:=g.1;rw[add_eq,wJ]at d;rw[add_eq];exact d
theorem agF{h:Heap}{p:aA}{s:Sl}{l:aw}(d:Vc.Seq h p s 1 ak l){n:Nat}(e:n<ii l):∃a,s.ptr=dB a:=by obtain⟨b,o,c,g,f⟩:=d.elem n l[n] (qd e);exact⟨_,c⟩
theorem Kv(c0:Sl)(l:aw)(s1:Sl)(l1:aw)(t most:Int)(h:Heap)(hs:Rd h c0 1 ak l)(c7:Rd h s1 1 ak l1):
  aq xD 3 #[c0,s1,xt xz t,xt xz most] h λv h'=>v=xx eR/\Sp h h' []:=by
 refine oT c0 s1 t most ?_;refine(ZQ c0 l s1 l1 10 h hs c7 i5).mono ?_;rintro _ h1 ⟨a,pw,da,ds,m,C,rfl,W,H1⟩;have hm:=W.sto.may;refine⟨dB a,i0,bA (λe=>j0) λ_=>(Ie hm H1).mono ?_⟩;rintro _ h2 ⟨y,rfl,R2⟩;have H2:=H1.comp R2;refine⟨y,i0,H2.alloc an i0 λa3 h3 H3=>?_⟩;refine H3.storeAll an 2 i0 i0 (aS y) i0 i0 i0 i0 λh4 H4=>?_;refine(CL hm H4).mono ?_;rintro _ h5 ⟨J,rfl,R5⟩;obtain⟨live,o⟩:∃live,live=aQ ds m.drives:=⟨_,rfl⟩
 rw[<-o]at R5;have H5:Sp h h5 [bu a pw da 0 Pow.new ds m,bS y m,al a3 29 (aS y),ae 3 J 1 ak live]:=H4.comp R5;obtain⟨n,Q⟩:∃n,n=ii live:=⟨_,rfl⟩
 have dx:n<=9:=by rw[Q,o];exact W.Kn
 have d9:J.len=n:=by rw[(H5.own 3 i0).len,Q]
 have c8:dH h5 y m:=H5.at 1 i0;refine⟨J,i0,y,(H5.box 2 i0).aP _ i0,(NR y m h5 c8 hm).mono ?_⟩;rintro _ h6 ⟨K,rfl,R6⟩;obtain⟨b,ao⟩:∃b,b=fa m.aF:=⟨_,rfl⟩
 rw[<-ao]at R6;have H6:Sp h h6 [bu a pw da 0 Pow.new ds m,bS y m,al a3 29 (aS y),ae 3 J 1 ak live,ae 36 K 3 jE b]:=H5.comp R6;have ea:ii b<=12*8:=by rw[ao];refine Hb (λe he=>?_) ((cx m).1 hm).2.2.2.1;have h1:=(hJ m e).1 (((cx m).1 hm).2.2.2.2.1 e he);have h2:=nu h1.2.2.1.2;omega
 have eg:K.len=ii b:=(H6.own 4 i0).len;have a8:=λk d hd=>((md H6).2 k d hd)
 have w:∀k d,aX ds k=dB d->ii d.l<=512:=λk d hd=>by have:=a8 k d hd;omega
 have a0:∀{h':Heap} {A:HP} {Bs:List HP},Sp h h' (A::bS y m::al a3 29 (aS y)::Bs)->aj h' (a3.add 2) 0 [xt xz m.p.1,xt xz m.p.2.1,xt xz m.p.2.2]:=λ{h' A Bs} H'=>by
  have hy:dH h' y m:=H'.at 1 i0;have d1:y.2.2.1=m.p.1:=congrArg (·.1) hy.p;have c9:y.2.2.2.1=m.p.2.1:=congrArg (·.2.1) hy.p;have cp:y.2.2.2.2.1=m.p.2.2:=congrArg (·.2.2) hy.p;rw[<-d1,<-c9,<-cp];exact(H'.box 2 i0).cells 2 _ i0
 have cl:∀(ds':aE) (k:Nat),ii ((b.take k).flatMap (gB m ds' live))<=1000:=λds' k=>by
  rw[LJ (c:=n+1) λx _=>by rw[rn,Q],qU];have:=wb (show min k b.length<=96 by omega) (show n+1<=10 by omega);omega
 refine⟨K,i0,?_⟩;refine av (λz:Sl×Nat×Nat=>(z.1,(z.2.1:Int),(z.2.2:Int))) (λz h'=>z.2.2<=ii b/\z.2.1=Ks m ds live (b.take z.2.2)/\Sp h h' [bu a pw da 0 Pow.new ds m,bS y m,al a3 29 (aS y),ae 3 J 1 ak live,ae 36 K 3 jE b,ae 3 z.1 1 ak ((b.take z.2.2).flatMap (gB m ds live))]) (λz=>ii b-z.2.2) (⟨eH,0,0⟩,0,0) i0 ⟨zo _,i0,H6.nil 3 1 ak⟩ ?_;rintro⟨r,cells,i⟩ h7 ⟨hi,N,H7⟩;dsimp only at hi N H7⊢;refine ac (λe=>?_) λe=>?_
 ·have q:i<ii b:=i4
  obtain⟨x,hx⟩:∃x,x=b[i]:=⟨_,rfl⟩
  refine(H7.seq 4 i0 λ_=>rfl).dZ (g:=jE) i i0 q x (by rw[hx]) ?_;refine H7.alloc an i0 λa9 h8 H8=>?_;refine H8.storeAll an 6 i0 i0 (jE x) i0 i0 i0 i0 λh9 H9=>?_;have H9:Sp h h9 [bu a pw da 0 Pow.new ds m,bS y m,al a3 29 (aS y),ae 3 J 1 ak live,ae 36 K 3 jE b,ae 3 r 1 ak ((b.take i).flatMap (gB m ds live)),al a9 36 (jE x)]:=H9;have hb:=H9.box 6 i0;refine⟨x.1,hb.cell0 i0,x.2.1,hb.cell i0,(Fj x.1 x.2.1 hm H9).mono ?_⟩;rintro _ du ⟨Y,rfl,a2⟩;rw[<-o]at a2;obtain⟨V,hV⟩:∃V,V=cb m ds x.1 x.2.1 live:=⟨_,rfl⟩
  rw[<-hV]at a2;have cf:ii V=n:=by rw[hV,gM,Q]
  have U:∀l∈V,ii l<=512:=by rw[hV];exact CW w _ _ _
  have d4:ii V.flatten<=4608:=by have h2:=rj U;have h3:=za 512 (show V.length<=9 by omega);omega
  have cd:Sp h du [bu a pw da 0 Pow.new ds m,bS y m,al a3 29 (aS y),ae 3 J 1 ak live,ae 36 K 3 jE b,ae 3 r 1 ak ((b.take i).flatMap (gB m ds live)++(gB m ds live x).take 0),al a9 36 (jE x),dg 22 Y 3 1 ak V]:=by rw[List.take_zero,qM];exact H9.comp a2
  have d8:Y.len=ii V:=(aa.sa (cd.cu [7])).1;have el:=cl ds i;refine⟨Y,i0,?_⟩;refine av (λz:Sl×Nat=>(z.1,(z.2:Int)-1)) (λz h'=>z.2<=n+1/\Sp h h' [bu a pw da 0 Pow.new ds m,bS y m,al a3 29 (aS y),ae 3 J 1 ak live,ae 36 K 3 jE b,ae 3 z.1 1 ak ((b.take i).flatMap (gB m ds live)++(gB m ds live x).take z.2),al a9 36 (jE x),dg 22 Y 3 1 ak V]) (λz=>n+1-z.2) (r,0) i0 ⟨zo _,cd⟩ ?_;rintro⟨u,j⟩ c4 ⟨hj,H⟩;dsimp only at hj H⊢;refine ac (λe2=>?_) λe2=>?_
  ·have O:j<n+1:=i4
   have ab:j<ii (gB m ds live x):=by rw[rn,<-Q];exact O
   refine⟨m.p,a0 H,x.2.2,(H.box 6 i0).cell i0,?_⟩;refine H.lit an ak fS i0 [(j:Int)-1] i0 (show 1*1<=2^20 by decide) i0 λcq c6 bb=>?_;refine(xZ m.p x.2.2 Y cq V [(j:Int)-1] c6 (WO (bb.cu [7])) (bb.seq 8 i0 λ_=>rfl) i4 (λl hl=>by have:=U l hl;omega) i9).mono ?_;rintro _ ej ⟨rfl,cs⟩;have dd:=(bb.up cs.ag).cu [0,1,2,3,4,5,6,7];refine⟨_,i0,?_⟩;refine dd.push an 5 i0 fS i0 i5 (λ_=>rfl) eJ (gA m.p x.2.2 V [(j:Int)-1]:Int) i0 i5 (by rw[qw,qU];omega) λcr ef d3=>?_;refine⟨(cr,j+1),by dsimp only;rw[af _];congr 1;omega,⟨i4,?_⟩,i6⟩;have e4:(gB m ds live x).take (j+1)=(gB m ds live x).take j++[(gA m.p x.2.2 V [(j:Int)-1]:Int)]:=by rw[aH _ _ ab,Uq (by rw[<-Q];exact O) ab,hV]
   dsimp only;rw[e4,<-qp];exact d3
  have bq:j=n+1:=i4
  have a5:(b.take i).flatMap (gB m ds live)++(gB m ds live x).take j=(b.take (i+1)).flatMap (gB m ds live):=by have a4:(gB m ds live x).take j=gB m ds live x:=qi (by rw[rn,<-Q];omega);rw[a4,aH _ _ q,zg,hx];simp
  rw[a5]at H;have Z:=Kt (m:=m) (ds:=ds) (live:=live) i4 w (b.take i);have ax:cells<=96*4608:=by rw[N];refine zd Z (za _ ?_);rw[qU];omega
  refine av (λj:Nat=>((cells+(V.take j).flatten.length:Nat),(j:Int))) (λj h'=>j<=n/\c4=h') (λj=>n-j) 0 i9 ⟨zo _,i0⟩ ?_;rintro B _ ⟨cn,rfl⟩;dsimp only;have b2:=CX V B;refine ac (λe3=>?_) λe3=>?_
  ·have s:B<ii V:=i4
   refine bH.mv (WO (H.cu [7])) B i0 s λxs a6=>?_;have a7:xs.len=V[B].length:=Seq.len a6;have ay:=Ku s;have b6:=CX V (B+1);exact⟨B+1,by rw[af (((cells+(V.take B).flatten.length:Nat):Int)+(xs.len:Int)),af _,ay,a7];simp[Int.add_assoc],⟨i4,i0⟩,i4⟩
  ·have s:B=ii V:=i4
   refine⟨(u,cells+ii V.flatten,i+1),by dsimp only;rw[af _,s,qV];rfl,⟨q,?_,H.cu [0,1,2,3,4,5]⟩,i6⟩;dsimp only;rw[RF q,<-N,<-hx,<-hV]
 have c2:i=ii b:=i4
 rw[c2,qV]at H7 N;refine(cD t 5 h7).mono ?_;rintro _ _ ⟨rfl,rfl⟩;obtain⟨T,hT,ed⟩:∃T:Int,T=t%5-1/\-1<=T/\T<=3:=⟨t%5-1,rfl,i4,i4⟩
 refine⟨_,i0,(cD most 30 _).mono ?_⟩;rintro _ _ ⟨rfl,rfl⟩;obtain⟨M,hM,eb⟩:∃M:Nat,most%30=(M:Int)/\M<30:=⟨(most%30).toNat,i4,i4⟩
 refine⟨_,i0,?_⟩;dsimp only;rw[af (t%5-1),<-hT,hM];have Kp:=WL W.sto (by rw[<-o,<-Q];exact dx) W.wt (λk d hd=>⟨(a8 k d hd).1,(a8 k d hd).2.1⟩) (t:=T) (M:=M) i4;refine(Wt T M hm i4 H7).mono ?_;obtain⟨R,hR⟩:∃R,R=eZ m 0 Pow.new ds T M:=⟨_,rfl⟩
 rw[<-hR]at Kp⊢;rintro _ b0 ⟨rfl,P⟩;rw[Kp.pow]at P;obtain⟨ds',b3⟩:∃ds',ds'=R.2.2.2:=⟨_,rfl⟩
 obtain⟨k,hk⟩:∃k,k=R.1:=⟨_,rfl⟩
 obtain⟨er,b7⟩:∃er,er=R.2.1:=⟨_,rfl⟩
 have K1:=Kp.err;have K2:=Kp.arg;have K3:=Kp.Kn;have K4:=Kp.keep;have K5:=Kp.sto;have K6:=Kp.tot;rw[<-hk]at K2 K3 K6;rw[<-b7]at K1 K2;rw[<-b3]at P K4 K5 K6;rw[<-ao]at K3;rw[<-o,<-Nd K5 live,<-Nd W.sto live,<-ao]at K6;have K6:Ks m ds' live b=Ks m ds live b+k:=K6;have eh:k<=30*ii b:=zd K3 (by rw[vu];exact za _ i4);rw[<-hk,<-b7];have cc:aQ ds' m.drives=live:=by rw[K4.live,o]
 have P:Sp h b0 [bu a pw da 0 Pow.new ds' m,bS y m,al a3 29 (aS y),ae 3 J 1 ak live,ae 36 K 3 jE b,ae 3 r 1 ak (b.flatMap (gB m ds live))]:=P;have b4:=λk d hd=>((md P).2 k d hd)
 have E:∀k d,aX ds' k=dB d->ii d.l<=512:=λk d hd=>by have:=b4 k d hd;omega
 refine⟨((k:Int),er),i0,bT (λ(_:Unit) h'=>b0=h') ?_ ?_⟩
 ·exact cy (λe=>absurd e K1) λ_=>ac (λe=>absurd (show(k:Int)<0 from e) i4) λ_=>ac (λe=>absurd (show(k:Int)>_ from e) j3) λ_=>cy (λe=>ci (λe2=>absurd (by rw[K2 e];rfl) e2) λ_=>rfl) λ_=>rfl
 rintro _ _ rfl;refine av (λz:Nat×Nat=>(((z.2*(n+1):Nat):Int),(z.1:Int),(z.2:Int))) (λz h'=>z.2<=ii b/\z.1=Ks m ds' live (b.take z.2)/\Sp h h' [bu a pw da 0 Pow.new ds' m,bS y m,al a3 29 (aS y),ae 3 J 1 ak live,ae 36 K 3 jE b,ae 3 r 1 ak (b.flatMap (gB m ds live))]) (λz=>ii b-z.2) (0,0) i9 ⟨zo _,i0,P⟩ ?_;rintro⟨ad,i⟩ d2 ⟨hi,D,ah⟩;dsimp only at hi D ah⊢;refine ac (λe=>?_) λe=>?_
 ·have q:i<ii b:=i4
  obtain⟨x,hx⟩:∃x,x=b[i]:=⟨_,rfl⟩
  refine(ah.seq 4 i0 λ_=>rfl).dZ (g:=jE) i i0 q x (by rw[hx]) ?_;refine ah.alloc an i0 λar ec dy=>?_;refine dy.storeAll an 6 i0 i0 (jE x) i0 i0 i0 i0 λdk S=>?_;have S:Sp h dk [bu a pw da 0 Pow.new ds' m,bS y m,al a3 29 (aS y),ae 3 J 1 ak live,ae 36 K 3 jE b,ae 3 r 1 ak (b.flatMap (gB m ds live)),al ar 36 (jE x)]:=S;have hb:=S.box 6 i0;refine⟨x.1,hb.cell0 i0,x.2.1,hb.cell i0,(Fj x.1 x.2.1 hm S).mono ?_⟩;rintro _ d5 ⟨L,rfl,a1⟩;rw[cc]at a1;obtain⟨V,hV⟩:∃V,V=cb m ds' x.1 x.2.1 live:=⟨_,rfl⟩
  rw[<-hV]at a1;have cf:ii V=n:=by rw[hV,gM,Q]
  have U:∀l∈V,ii l<=512:=by rw[hV];exact CW E _ _ _
  have d4:ii V.flatten<=4608:=by have h2:=rj U;have h3:=za 512 (show V.length<=9 by omega);omega
  have bl:Sp h d5 [bu a pw da 0 Pow.new ds' m,bS y m,al a3 29 (aS y),ae 3 J 1 ak live,ae 36 K 3 jE b,ae 3 r 1 ak (b.flatMap (gB m ds live)),al ar 36 (jE x),dg 22 L 3 1 ak V]:=S.comp a1;have d7:L.len=ii V:=(aa.sa (bl.cu [7])).1;have bk:ii (b.flatMap (gB m ds live))=ii b*(n+1):=by rw[LJ (c:=n+1) λx _=>by rw[rn,Q]]
  have dr:=(bl.own 5 i0).len;have ei:=wb (show i<=96 by omega) (show n+1<=10 by omega);refine⟨L,i0,?_⟩;refine av (λj:Nat=>(((i*(n+1)+j:Nat):Int),(j:Int)-1)) (λj h'=>j<=n+1/\Sp h h' [bu a pw da 0 Pow.new ds' m,bS y m,al a3 29 (aS y),ae 3 J 1 ak live,ae 36 K 3 jE b,ae 3 r 1 ak (b.flatMap (gB m ds live)),al ar 36 (jE x),dg 22 L 3 1 ak V]) (λj=>n+1-j) 0 i0 ⟨zo _,bl⟩ ?_;rintro j c5 ⟨hj,F⟩;dsimp only;refine ac (λe2=>?_) λe2=>?_
  ·have O:j<n+1:=i4
   have ab:j<ii (gB m ds live x):=by rw[rn,<-Q];exact O
   have I:i*(n+1)+j<ii (b.flatMap (gB m ds live)):=by rw[bk];have:=za (n+1) (show i+1<=ii b from q);rw[zH]at this;omega
   have b9:(b.flatMap (gB m ds live))[i*(n+1)+j]=(gA m.p x.2.2 (cb m ds x.1 x.2.1 live) [(j:Int)-1]:Int):=by have h1:=RG (f:=gB m ds live) (c:=n+1) (λx=>by rw[rn,Q]) q O;rw[<-hx,qd I,qd ab,Uq (by rw[<-Q];exact O) ab]at h1;exact zP.inj h1
   obtain⟨ap,b1⟩:=agF (F.seq 5 rfl λ_=>rfl) I;have G:∀{h':Heap},Sp h h' [bu a pw da 0 Pow.new ds' m,bS y m,al a3 29 (aS y),ae 3 J 1 ak live,ae 36 K 3 jE b,ae 3 r 1 ak (b.flatMap (gB m ds live)),al ar 36 (jE x),dg 22 L 3 1 ak V]->cellOf h' (ap.add ((((i*(n+1)+j:Nat):Int)).toNat*1))=dB (xt xz (gA m.p x.2.2 (cb m ds x.1 x.2.1 live) [(j:Int)-1]:Int)):=λ{h'} H'=>by
    rw[ql,<-b9];exact abY (H'.seq 5 i0 λ_=>rfl) I b1
   refine⟨m.p,a0 F,x.2.2,(F.box 6 i0).cell i0,ap,⟨b1,i4,by rw[dr];exact vS.2 I⟩,_,G F,?_⟩;refine F.lit an ak fS i0 [(j:Int)-1] i0 (show 1*1<=2^20 by decide) i0 λd6 dp am=>?_;have X:=am.cu [0,1,2,3,4,5,6,7];have bd:=a0 X;refine⟨⟨G X,(X.box 6 i0).cell i0,bd.1,bd.2.1,bd.2.2.1,trivial⟩,?_⟩;refine(xZ m.p x.2.2 L d6 V [(j:Int)-1] dp (WO (am.cu [7])) (am.seq 8 i0 λ_=>rfl) i4 (λl hl=>by have:=U l hl;omega) i9).mono ?_;rintro _ ek ⟨rfl,d0⟩;have br:=(am.up d0.ag).cu [0,1,2,3,4,5,6,7];have c1:=aek K4 live x j;rw[<-hV]at c1;refine⟨_,i0,⟨G br,trivial⟩,ac (λe3=>absurd (vS.1 e3) i4) λ_=>?_⟩;exact⟨j+1,by rw[af _,af _];exact Prod.ext i6 i6,⟨i4,br⟩,i4⟩
  have bq:j=n+1:=i4
  have Z:=Kt (m:=m) (ds:=ds') (live:=live) i4 E (b.take i);have ax:ad<=96*4608:=by rw[D];refine zd Z (za _ ?_);rw[qU];omega
  refine av (λj:Nat=>((ad+(V.take j).flatten.length:Nat),(j:Int))) (λj h'=>j<=n/\c5=h') (λj=>n-j) 0 i9 ⟨zo _,i0⟩ ?_;rintro B _ ⟨cn,rfl⟩;dsimp only;have b2:=CX V B;refine ac (λe3=>?_) λe3=>?_
  ·have s:B<ii V:=i4
   refine bH.mv (WO (F.cu [7])) B i0 s λxs a6=>?_;have a7:xs.len=V[B].length:=Seq.len a6;have ay:=Ku s;have b6:=CX V (B+1);exact⟨B+1,by rw[af (((ad+(V.take B).flatten.length:Nat):Int)+(xs.len:Int)),af _,ay,a7];simp[Int.add_assoc],⟨i4,i0⟩,i4⟩
  ·have s:B=ii V:=i4
   refine⟨(ad+ii V.flatten,i+1),by dsimp only;rw[af _,s,qV,bq,zH];rfl,⟨q,?_,F.cu [0,1,2,3,4,5]⟩,i6⟩;dsimp only;rw[RF q,<-D,<-hx,<-hV]
 have b5:i=ii b:=i4
 rw[b5,qV]at D;have Z:=Kt (m:=m) (ds:=ds) (live:=live) i4 w b;have ax:cells<=96*4608:=by rw[N];exact zd Z (za _ i4)
 refine cy (λ_=>?_) λe=>absurd ?_ e
 ·refine(RC d2).mono ?_;rintro _ h6 ⟨rfl,R6⟩;exact⟨eR,i0,i0,.zip (ah.up R6.ag).ag⟩
 ·rw[af _,D,N,K6];rfl
theorem DB(s:Sl)(l:aw)(a:Sl)(l1:aw)(t most:Int)(h:Heap)(d:Rd h s 1 ak l)(c:Rd h a 1 ak l1):
  aq xD 3 #[s,a,xt xz t,xt xz most] h λv h'=>v=xx eR/\aZ (λb=>b<h.size) h h':=
 (Kv s l a l1 t most h d c).mono λ_ _ q=>⟨q.1,q.2.ag⟩
end Go.Qw
