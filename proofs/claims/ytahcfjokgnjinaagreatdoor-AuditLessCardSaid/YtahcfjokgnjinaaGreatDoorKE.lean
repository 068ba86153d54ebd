/- Lemmas for the proof of the law; no condition. -/
import Derived.Test.YtahcfjokgnjinaaGreatDoorKD
import Derived.Lib.BufferWrite
import Derived.Lib.UnsafeStr
set_option linter.unusedVariables false
set_option maxHeartbeats 2000000
set_option linter.unusedSimpArgs false
open Go.Proofs.Tryz renaming prog -> xB
open BitVec renaming eq_of_toNat_eq -> wD, getLsbD_and -> xi, ofNat -> wF, toNat -> xn, toNat_ushiftRight -> y7, xor_assoc -> wB, xor_self -> yY, xor_zero -> vY, zero_xor -> vZ
open Nat renaming shiftRight_eq_div_pow -> yV
open List renaming filter_congr -> y5, mem_append_right -> wV, pairwise_lt_range -> yH, range -> qA
open Int renaming fdiv -> qX
open Prod renaming fst -> qI
open Go.Value renaming bool -> xv, int -> xq, pointer -> xt, slice -> xr
open Go.IntKind renaming i64 -> xx, u32 -> xz, wrap -> qc
set_option maxRecDepth 100000
open Option renaming some -> dB, none -> eH
open Bool renaming true -> eR, false -> eS
open List renaming length -> i1
namespace Wl
open Go
theorem Jr(a:jR):a&&&1#32=0#32∨a&&&1#32=1#32:=by
 have h:((a&&&1#32).toNat)=a.toNat%2:=by rw[BitVec.toNat_and];exact Nat.and_one_is_mod _
 rcases Nat.mod_two_eq_zero_or_one a.toNat with e|e
 ·left;apply wD;rw[h,e];rfl
 ·right;apply wD;rw[h,e];rfl
theorem kf{a:jR}(h:a&&&1#32=0#32):ko a=a>>>1:=by unfold ko;rw[g9 (by rw[h];decide)]
theorem mI{a:jR}(h:a&&&1#32=1#32):ko a=(a>>>1)^^^3988292384#32:=by unfold ko;rw[g0 h]
theorem VS(a b c:jR):a^^^b^^^c=a^^^c^^^b:=by rw[wB,BitVec.xor_comm b c,<-wB]
theorem aaK(a b:jR):ko (a^^^b)=ko a^^^ko b:=by
 have e:(a^^^b)&&&1#32=(a&&&1#32)^^^(b&&&1#32):=by apply BitVec.eq_of_getLsbD_eq;intro i _;rw[xi,BitVec.getLsbD_xor,BitVec.getLsbD_xor,xi,xi,Bool.and_xor_distrib_right]
 have s:(a^^^b)>>>1=(a>>>1)^^^(b>>>1):=BitVec.ushiftRight_xor_distrib a b 1;rcases Jr a with ha|ha<;>rcases Jr b with hb|hb
 ·rw[kf ha,kf hb,kf o4,s]
 ·rw[kf ha,mI hb,mI o4,s,wB]
 ·rw[mI ha,kf hb,mI o4,s,VS]
 ·rw[mI ha,mI hb,kf o4,s,<-wB,VS _ 3988292384#32,wB _ 3988292384#32 3988292384#32,yY,vY]
theorem XK{a:jR}(h:ko a=0#32):a=0#32:=by
 rcases Jr a with ha|ha
 ·rw[kf ha]at h;apply wD;have c:=congrArg xn h;have b:=congrArg xn ha;rw[y7,yV]at c;have h3:(a&&&1#32).toNat=a.toNat%2:=by rw[BitVec.toNat_and];exact Nat.and_one_is_mod _
  rw[h3]at b;simp at c b⊢;omega
 ·rw[mI ha]at h;exfalso;have c:a>>>1=3988292384#32:=by have:=congrArg (λz=>z^^^3988292384#32) h;simp only[wB,yY,vY,vZ]at this;exact this
  have b:=congrArg xn c;rw[y7,yV]at b;have:=a.isLt;simp at b;omega
theorem oT:∀(n:Nat) (a b:jR),eu n (a^^^b)=eu n a^^^eu n b
 |0,_,_=>rfl
 |n+1,a,b=>by unfold eu;rw[oT n,aaK]
theorem Js:∀(n:Nat) {a:jR},eu n a=0#32->a=0#32
 |0,_,h=>h
 |n+1,_,h=>Js n (XK h)
theorem agb{a b:jR}(h:a^^^b=0#32):a=b:=by have:=congrArg (λz=>z^^^b) h;simp only[wB,yY,vY,vZ]at this;exact this
theorem KX{n:Nat}{a b:jR}(h:eu n a=eu n b):a=b:=
 agb (Js n (by rw[oT,h,yY]))
theorem ud:∀(m n:Nat) (a:jR),eu (m+n) a=eu m (eu n a)
 |0,n,a=>by rw[Nat.zero_add];rfl
 |m+1,n,a=>by rw[show m+1+n=(m+n)+1 by omega];show ko (eu (m+n) a)=ko (eu m (eu n a));rw[ud m n a]
theorem OJ:∀(n x:Nat),x<2^(32-n)->n<=32->eu n (wF 32 (x*2^n))=wF 32 x
 |0,x,_,_=>by rw[Nat.pow_zero,z7];rfl
 |n+1,x,h,hn=>by
  have b:x*2<2^(32-n):=by
   have:2^(32-n)=2^(32-(n+1))*2:=by rw[<-Nat.pow_succ];congr 1;omega
   omega
  show ko (eu n (wF 32 (x*2^(n+1))))=_;rw[show x*2^(n+1)=x*2*2^n by rw[Nat.pow_succ,Nat.mul_assoc,vJ 2],OJ n (x*2) b i5];have a:x*2<2^32:=qR b (Nat.pow_le_pow_right i6 i5);rw[kf]
  ·apply wD;rw[y7,wK,wK,wg a,wg i5,yV];omega
  ·apply wD;rw[BitVec.toNat_and,wK,wg a];show(x*2)&&&1=0;rw[Nat.and_one_is_mod];omega
def VT(a b c d:UInt8):jR:=wF 32 (a.toNat*2^0)^^^wF 32 (b.toNat*2^8)^^^wF 32 (c.toNat*2^16)^^^wF 32 (d.toNat*2^24)
theorem agc(s:jR)(a b c d:UInt8):mT (mT (mT (mT s a) b) c) d=eu 32 (s^^^VT a b c d):=by
 have j:=a.toNat_lt;have h:=b.toNat_lt;have k:=c.toNat_lt;have g:=d.toNat_lt;have e:∀(n:Nat) (x:UInt8),n<=24->wF 32 x.toNat=eu n (wF 32 (x.toNat*2^n)):=λn x i=>by
  have f:=x.toNat_lt;refine(OJ n x.toNat ?_ i5).symm;exact qR (show x.toNat<2^8 from f) (Nat.pow_le_pow_right i6 i5)
 unfold mT VT;rw[e 8 b i6,<-oT,<-ud,e 16 c i6,<-oT,<-ud,e 24 d i6,<-oT,<-ud];simp only[Nat.pow_zero,z7,wB]
theorem Qk(a b c d:UInt8):(VT a b c d).toNat=a.toNat+b.toNat*256+c.toNat*65536+d.toNat*16777216:=by
 have n:=a.toNat_lt;have m:=b.toNat_lt;have o:=c.toNat_lt;have l:=d.toNat_lt;have e:∀(k x y:Nat),x<2^k->x^^^(y*2^k)=x+y*2^k:=λk x y f=>by
  rw[vJ y];have j:=Nat.two_pow_add_eq_or_of_lt f y;have h:x^^^(2^k*y)=(2^k*y)|||x:=by
   apply Nat.eq_of_testBit_eq;intro i;rw[Nat.testBit_xor,Nat.testBit_or,Nat.testBit_two_pow_mul];by_cases g:k<=i
   ·have:x.testBit i=eS:=Nat.testBit_lt_two_pow (qR f (Nat.pow_le_pow_right i6 g));simp[this]
   ·simp[g]
  rw[h,<-j];omega
 unfold VT;rw[BitVec.toNat_xor,BitVec.toNat_xor,BitVec.toNat_xor,wK,wK,wK,wK];rw[wg i5,wg i5,wg i5,wg i5];rw[Nat.pow_zero,z7,e 8 _ _ i5,e 16 _ _ i5,e 24 _ _ i5]
theorem aik{a b c d f e g i:UInt8}(h:VT a b c d=VT f e g i):a=f/\b=e/\c=g/\d=i:=by have j:=congrArg xn h;rw[Qk,Qk]at j;have:=a.toNat_lt;have:=b.toNat_lt;have:=c.toNat_lt;have:=d.toNat_lt;have:=f.toNat_lt;have:=e.toNat_lt;have:=g.toNat_lt;have:=i.toNat_lt;refine⟨wL.1 ?_,wL.1 ?_,wL.1 ?_,wL.1 ?_⟩<;>omega
theorem VU:∀{q:bf} {s t:jR},q.foldl mT s=q.foldl mT t->s=t
 |[],_,_,h=>h
 |x::q,s,t,h=>by
  have:=KX (VU (q:=q) h);have:=congrArg (λz=>z^^^wF 32 x.toNat) this;simp only[wB,yY,vY]at this;exact this
theorem adO{p q:bf}{a b c d f e g i:UInt8}(h:lJ (p++([a,b,c,d]++q))=lJ (p++([f,e,g,i]++q))):[a,b,c,d]=[f,e,g,i]:=by unfold lJ at h;rw[zN,zN,zN,zN]at h;have h:=VU h;simp only[zA,wx]at h;rw[agc,agc]at h;have h:=KX h;have h:=congrArg (λz=>List.foldl mT 4294967295#32 p^^^z) h;simp only[<-wB,yY,vZ]at h;obtain⟨rfl,rfl,rfl,rfl⟩:=aik h;rfl
theorem ail(s:jR):∃a b c d,lR s=[a,b,c,d]/\VT a b c d=s:=by
 refine⟨_,_,_,_,i4,?_⟩;apply wD;rw[Qk];have m:=s.isLt;have e:∀n:Int,((b8 n).toNat:Int)=n%256:=λn=>by have:=rn n;omega
 have f:∀k:Nat,qX (s.toNat:Int) (2^(8*k))=((s.toNat/2^(8*k):Nat):Int):=λk=>by
  rw[Int.fdiv_eq_ediv_of_nonneg _ (by exact_mod_cast zy _)];norm_cast
 have g:∀k:Nat,(b8 (qX (s.toNat:Int) (2^(8*k)))).toNat=s.toNat/2^(8*k)%256:=λk=>by
  have:=e (qX (s.toNat:Int) (2^(8*k)));rw[f k]at this;rw[f k];omega
 have l:=g 0;have j:=g 1;have i:=g 2;have h:=g 3;simp only[Nat.mul_zero,z7,Nat.pow_zero,Nat.div_one,Nat.reduceMul,Nat.reducePow]at l j i h;simp only[Nat.mul_zero,z7,Nat.reduceMul];rw[l,j,i,h];omega
theorem aim(x:bf):lJ (x++lR (mL x))=eu 32 4294967295#32:=by obtain⟨a,b,c,d,f,e⟩:=ail (mL x);rw[f];unfold lJ;rw[zN];simp only[zA,wx];rw[agc,e];unfold mL lJ;congr 1;rw[BitVec.xor_comm 4294967295#32,<-wB,yY,vZ]
theorem RG{c:bf}{k:Int}{x:bf}(h:fx c=dB (k,x)):i1 c=64/\c=c.take 59++(lR (mL (c.take 59))++[165]):=by
 unfold fx at h;split at h
 ·rename_i f;obtain⟨b,a⟩:=f;refine⟨b,?_⟩;unfold dW at a;split at a
  ·rename_i d;have g:=Aw (kind:=((c.getD 3 0).toNat:Int)) d.2.2;have e:c.take 59=dS ((c.getD 3 0).toNat:Int) ((c.drop 4).take 55):=by
    conv=>lhs;rw[<-a]
    rw[qp,wm i5,qi i5]
   rw[e];rw[<-qp];exact a.symm
  ·rw[<-a]at b;simp at b
 ·cases h
theorem adP{l:bf}{p:Nat}(h:p+4<=i1 l)(a:Int):∃u v,i1 u=4/\v.length=4/\l=l.take p++(u++l.drop (p+4))/\fB l p a 4=l.take p++(v++l.drop (p+4)):=by
 have b:∀k,k<=4->(fB l p a k).take p=l.take p/\(fB l p a k).drop (p+4)=l.drop (p+4):=by
  intro k
  induction k with
  |zero=>exactλ_=>⟨i4,i4⟩
  |succ k ih=>
   intro j;obtain⟨i,e⟩:=ih i5;unfold fB;rw[List.take_set_of_le i5,List.drop_set_of_lt i5];exact⟨i,e⟩
 have d:∀m:bf,i1 m=i1 l->m=m.take p++((m.drop p).take 4++m.drop (p+4)):=λm n=>by
  rw[<-List.drop_drop,qE,qE]
 obtain⟨f,g⟩:=b 4 (qm _);have c:=CB l p a 4;refine⟨(l.drop p).take 4,((fB l p a 4).drop p).take 4,i9,by simp[c];omega,d l i4,?_⟩;rw[<-f,<-g];exact d _ c
theorem aaL{c:bf}{k:Int}{x:bf}(h:fx c=dB (k,x)){a b:Int}(I:0<=a/\a<=60)(e:Cz c a b≠c):fx (Cz c a b)=eH:=by
 obtain⟨F,n⟩:=RG h;cases hb:fx (Cz c a b)with
 |none=>rfl
 |some y=>
  exfalso;obtain⟨g,d⟩:=RG (k:=y.1) (x:=y.2) hb;obtain⟨f,t⟩:∃f,f=Cz c a b:=⟨_,rfl⟩
  rw[<-t]at g d e;by_cases i:f.take 59=c.take 59
  ·apply e;rw[n,d,i,<-n]
  ·obtain⟨p,rfl⟩:∃p:Nat,a=p:=⟨a.toNat,i5⟩
   obtain⟨u,v,s,A,D,j⟩:=adP (l:=c) (p:=p) i5 b;have j:f=c.take p++(v++c.drop (p+4)):=by rw[t];unfold Cz;rw[ql];exact j
   have H:p<=59:=by refine Decidable.byContradiction λG=>i ?_;rw[j,wm i9,List.take_take,Nat.min_eq_left i5]
   have q:∀z:bf,z=z.take 59++(lR (mL (z.take 59))++[165])->i1 z=64->lJ (z.take 63)=eu 32 4294967295#32:=λz o E=>by
    have:z.take 63=z.take 59++lR (mL (z.take 59)):=by
     conv=>lhs;rw[o]
     rw[<-qp,wm (by simp[ED];omega),qi (by simp[ED];omega)]
    rw[this,aim]
   have w:∀z:bf,i1 z=4->(c.take p++(z++c.drop (p+4))).take 63=c.take p++(z++(c.drop (p+4)).take (59-p)):=λz o=>by
    have m:i1 (c.take p)=p:=i9
    generalize c.take p=P at m⊢;rw[List.take_append,qi i5,List.take_append,qi i5,m,o];congr 3;omega
   have B:=q c n F;have r:=q f d g;rw[j,w v A]at r;rw[D,w u s]at B
   match u,v,s,A with
   |[u0,u1,u2,u3],[v0,v1,v2,v3],_,_=>
    have:=adO (B.trans r.symm);apply e;rw[j,<-this,<-D]
end Wl
namespace Go.Qw
open Go Go.Vc Go.Proofs Wl
theorem agd{m:aG}{C:Int->bf}{c:bf}(h:fx c=eH):dL m C c:=by
 have d:ey c=eH:=by unfold ey;rw[h]
 have e:uF c=eH:=by unfold uF;rw[h]
 exact⟨λr a=>(by rw[d]at a;cases a),λr a _=>(by rw[d]at a;cases a),λg b=>(by rw[e]at b;cases b)⟩
theorem gz.aaM{m:aG}{C:Int->bf}{ds:aJ}(S:gz m C ds){k:Int}{f d:bs}(b:bm ds k=dB f)(g:∀c∈d.l,dL m C c):gz m C (bQ ds k d):=
 ⟨S.may,by rw[Bj];exact S.len,λj e a=>by
  rw[iw S.len b]at a;split at a
  ·injection a with a;subst a;exact g
  ·exact S.cells j e a,S.ents⟩
theorem adQ{ds:aJ}{k:Int}{e d:bs}(a:i1 ds=64)(c:bm ds k=dB e)(f:d.lost=e.lost)(l:aD):aN (bQ ds k d) l=aN ds l:=by
 unfold aN;refine y5 λx _=>?_;unfold isLive;rw[iw a c];by_cases b:x=k
 ·subst b;rw[g0 i4,c];simp only[f]
 ·rw[g9 b]
theorem aaN{d:bs}{j a b:Int}:(d.lN j a b).lost=d.lost/\(d.lN j a b).l.length=i1 d.l:=by
 unfold bs.lN;split
 ·exact⟨i4,jj⟩
 ·exact⟨i4,i4⟩
theorem XL{m:aG}{C:Int->bf}{d:bs}(f:∀c∈d.l,dL m C c){j:Nat}(g:j<i1 d.l)(i:fx d.l[j]≠eH){a b:Int}(n:0<=a/\a<=60):∀c∈(d.lN j a b).l,dL m C c:=λc h=>by
 unfold bs.lN at h;split at h
 ·have h:c∈d.l.set ((j:Int)).toNat (Cz (d.l.getD ((j:Int)).toNat []) a b):=h;rw[ql,fq [] g]at h;rcases List.mem_or_eq_of_mem_set h with h|rfl
  ·exact f c h
  ·by_cases e:Cz d.l[j] a b=d.l[j]
   ·rw[e];exact f _ (qg g)
   ·cases ht:fx d.l[j]with
    |none=>exact absurd ht i
    |some y=>exact agd (aaL (k:=y.1) (x:=y.2) ht n e)
 ·exact f c h
structure Wn (p:Pm) (m:aG) (C:Int->bf) (ds:aJ):Prop where
 sto:gz m C ds
 live:aN ds m.drives≠[]
 dr:∀k∈m.drives,k<9
 pe:m.p=p
 wt:∀k d,bm ds k=dB d->d.wait=0
variable {p:Pm} {m:aG} {C:Int->bf} {ds:aJ}
theorem VV{ds a:aJ}{f:Int->bs->bs}(h:∀k,bm a k=(bm ds k).map (f k))(b:∀k d,(f k d).lost=d.lost)(l:aD):aN a l=aN ds l:=by
 unfold aN;refine y5 λx _=>?_;unfold isLive;rw[h];cases bm ds x with
 |none=>rfl
 |some d=>simp only[Option.map_some,b]
theorem Yz{k:Int}{d e:bs}(b:i1 ds=64)(c:bm ds k=dB d)(f:∀k d,bm ds k=dB d->d.wait=0)(g:e.wait=0):∀j x,bm (bQ ds k e) j=dB x->x.wait=0:=λj x a=>by
 rw[iw b c]at a;split at a
 ·injection a with a;subst a;exact g
 ·exact f j x a
theorem adR{b:aJ}{f:Int->bs->bs}(h:∀k,bm b k=(bm ds k).map (f k))(c:∀k d,bm ds k=dB d->d.wait=0)(e:∀k d,d.wait=0->(f k d).wait=0):∀j x,bm b j=dB x->x.wait=0:=λj x a=>by
 rw[h]at a;cases hd:bm ds j with
 |none=>rw[hd]at a;cases a
 |some d=>
  rw[hd]at a;injection a with a
  rw[<-a];exact e j d (c j d hd)
theorem YA{a:cJ}{d:bs}(h:d.wait=0):(eG a d).wait=0:=by
 unfold eG;split
 ·exact h
 ·rfl
theorem VW{d:bs}{n:Int}(h:d.wait=0):(dz m d n).wait=0:=by
 unfold dz;split
 ·exact h
 ·rfl
theorem aaO{d:bs}{j a b:Int}:(d.lN j a b).wait=d.wait:=by unfold bs.lN;split<;>rfl
theorem Wn.lN(W:Wn p m C ds){k:Int}{d:bs}(b:bm ds k=dB d){j:Nat}(e:j<i1 d.l)(f:fx d.l[j]≠eH){a c:Int}(g:0<=a/\a<=60):Wn p m C (bQ ds k (d.lN j a c)):=
 ⟨W.sto.aaM b (XL (W.sto.cells k d b) e f g),by rw[adQ W.sto.len b aaN.1];exact W.live,W.dr,W.pe,Yz W.sto.len b W.wt (by rw[aaO];exact W.wt _ _ b)⟩
theorem aaP(t:aD)(b:bf)(n:aG)(k:Int)(d:bs):(JZ m ds t b n k d).lost=d.lost:=by
 unfold JZ;split
 ·rw[(Ct _ _).1,(RF _ _ _).1]
 ·rfl
theorem Wn.put(W:Wn p m C ds)(name:ByteArray)(b:bf):∃e c f ds',iK m 0 Pow.new ds name b=(e,c,Pow.new,ds')/\Wn p c f ds':=by
 rcases aii (offs:=0) (w:=Pow.new) (name:=name) (b:=b) nL W.sto with⟨⟨e,_,h⟩,_⟩|⟨_,t,ds',_,h,S,hat⟩
 ·exact⟨e,m,C,ds,h,W⟩
 ·refine⟨0,_,_,ds',h,S,by rw[VV hat (aaP _ _ _)];exact W.live,W.dr,W.pe,adR hat W.wt λk d a=>?_⟩;unfold JZ;split
  ·exact YA (VW a)
  ·exact a
theorem age(n:aG)(k:Int)(d:bs):(if k∈aN ds n.drives then eG (bu n) (dz m d (bu n).length)else d).lost=d.lost:=by
 split
 ·rw[(Ct _ _).1,(RF _ _ _).1]
 ·rfl
theorem Wn.adS(W:Wn p m C ds){n:aG}(i:bR n=eR)(j:n.seq=m.seq+1)(e:n.p=m.p)(g:m.next<=n.next)(a:∀x∈n.aH,x∈m.aH)(b:∀k∈n.drives,k<9):
  cZ m 0 Pow.new ds n=(7,m,Pow.new,ds)∨∃ds',cZ m 0 Pow.new ds n=(0,n,Pow.new,ds')/\Wn p n C ds':=by
 rcases aaz (offs:=0) (w:=Pow.new) nL W.sto i6 i j e g a with⟨_,h⟩|⟨⟨hl,_⟩,ds',h,S,hat⟩
 ·exact .inl h
 ·exact .inr ⟨ds',h,S,by rw[VV (f:=λk d=>if k∈aN ds n.drives then eG (bu n) (dz m d (bu n).length)else d) hat (age n)];exact hl,b,e.trans W.pe,adR (f:=λk d=>if k∈aN ds n.drives then eG (bu n) (dz m d (bu n).length)else d) hat W.wt λk d c=>by
   split
   ·exact YA (VW c)
   ·exact c⟩
theorem Wn.del(W:Wn p m C ds)(name:ByteArray):∃e a ds',gA m 0 Pow.new ds name=(e,a,Pow.new,ds')/\Wn p a C ds':=by
 unfold gA;rw[g9 i6];split
 ·exact⟨5,m,ds,i4,W⟩
 ·split
  ·exact⟨7,m,ds,i4,W⟩
  ·rename_i c;rcases W.adS (n:=Mj m (m.aH.findIdx (mP name))) (afY W.sto.may i5 _) rfl rfl (vH _) (λx b=>Yy b) W.dr with h|⟨ds',h,W'⟩
   ·exact⟨7,m,ds,h,W⟩
   ·exact⟨0,_,ds',h,W'⟩
theorem Wn.EB(W:Wn p m C ds)(slot:Int)(o:1<i1 (aN ds m.drives)):Wn p m C (uc m 0 Pow.new ds slot).2:=by
 unfold uc;rw[g9 i6];split
 ·exact W
 ·rename_i u;cases hd:bm ds slot with
  |none=>exact W
  |some d=>
   dsimp only;refine⟨W.sto.aaM hd λc q=>(by cases q),?_,W.dr,W.pe,Yz W.sto.len hd W.wt i4⟩;intro h;have g:=si (ds:=ds) (xI W.sto.may);have f:∀k∈aN ds m.drives,k=slot:=λk n=>Decidable.byContradiction λi=>by
    obtain⟨a,e,s,r⟩:=iZ n;have:k∈aN (bQ ds slot d.EB) m.drives:=afw.2 ⟨a,e,by rw[iw W.sto.len hd,g9 i];exact s,r⟩;rw[h]at this;cases this
   match hL:aN ds m.drives,o with
   |a::b::l,_=>
    rw[hL]at f g;have j:=f a jj;have t:=f b jj;rw[j,t]at g;simp at g
theorem aaQ{l:aD}(h:l.Pairwise (·<·)){s:Int}(j:s∉l):(ic (l++[s])).Pairwise (·<·):=by have d:(l++[s]).Nodup:=List.nodup_append.2 ⟨h.imp λh e=>i5,jj,λa f b c e=>j (by rw[<-qC.1 c,<-e];exact f)⟩;have i:(ic (l++[s])).Perm (l++[s]):=List.mergeSort_perm _ _;have g:(ic (l++[s])).Pairwise (λa b=>a≠b):=i.nodup_iff.2 d;exact(Wl.Ay _).imp₂ (λa b=>i5) g
theorem Wn.add(W:Wn p m C ds){slot:Int}(F:0<=slot/\slot<9)(cells:Int):∃e u ds',ma m 0 Pow.new ds slot cells=(e,u,Pow.new,ds')/\Wn p u C ds':=by
 unfold ma;rw[g9 i6];split
 ·exact⟨1,m,ds,i4,W⟩
 split
 ·exact⟨4,m,ds,i4,W⟩
 rename_i g;split
 ·exact⟨7,m,ds,i4,W⟩
 rename_i E;have v:=W.sto.len;have b:∀o k,bm (ds.set slot.toNat o) k=if k=slot then o else bm ds k:=λo k=>by
  unfold bm;by_cases f:0<=k/\k<64
  ·rw[g0 f,List.getElem?_set];by_cases e:k=slot
   ·subst e;rw[g0 i4,g0 i4,g0 i5];rfl
   ·rw[g9 i5,g9 e,g0 f]
  ·rw[g9 f,g9 i5,g9 f]
 have i:∀o,aN (ds.set slot.toNat o) m.drives=aN ds m.drives:=λo=>by
  unfold aN;refine y5 λx s=>?_;have t:x≠slot:=λe=>g (by rw[<-e];exact s);unfold isLive;rw[b,g9 t]
 obtain⟨a,A,B,r,q,j,l⟩:=(cL m).1 W.sto.may;have y:gz m C (ds.set slot.toNat (dB (bs.new cells.toNat))):=⟨W.sto.may,by simp[v],λk d a=>by
  rw[b]at a;split at a
  ·injection a with a;subst a;intro c w;cases w
  ·exact W.sto.cells k d a,W.sto.ents⟩
 have D:bR (JV m (ic (m.drives++[slot])))=eR:=by
  refine(cL _).2 ⟨?_,aaQ A g,λk f=>?_,r,q,j,l⟩
  ·rw[fF]at a⊢;exact⟨by show 1<=m.seq+1/\m.seq+1<=2147483647;omega,a.2⟩
  ·rcases qz.1 ((BP _ _).1 f)with h|h
   ·exact B k h
   ·rw[qC.1 h];omega
 have z:Wn p m C (ds.set slot.toNat (dB (bs.new cells.toNat))):=⟨y,by rw[i];exact W.live,W.dr,W.pe,λk d a=>by
  rw[b]at a;split at a
  ·injection a with a;subst a;rfl
  ·exact W.wt k d a⟩
 rcases z.adS (n:=JV m (ic (m.drives++[slot]))) D rfl rfl (vH _) (λx s=>s) (λk f=>by
  rcases qz.1 ((BP _ _).1 f)with h|h
  ·exact W.dr k h
  ·rw[qC.1 h];omega)with h|⟨ds',h,W'⟩
 ·rw[h];dsimp only;rw[g0 i4,List.set_set];exact⟨7,m,_,i4,⟨W.sto.may,by simp[v],λk d a=>by
   rw[b]at a;split at a
   ·cases a
   ·exact W.sto.cells k d a,W.sto.ents⟩,by rw[i];exact W.live,W.dr,W.pe,λk d a=>by
   rw[b]at a;split at a
   ·cases a
   ·exact W.wt k d a⟩
 ·rw[h];dsimp only;rw[g9 i6];exact⟨0,_,ds',i4,W'⟩
end Go.Qw
namespace Wl
end Wl
namespace Go.Qw
open Go Go.Vc Go.Proofs Wl
variable {p:Pm} {m:aG} {C:Int->bf} {ds ds':aJ}
theorem Wn.few(W:Wn p m C ds):i1 (aN ds m.drives)<=9:=by have d:=((cL m).1 W.sto.may).2.1;have e:=Lp (a:=0) (b:=9) d (λk c=>⟨(lx W.sto.may k c).1,W.dr k c⟩) i6;have h3:i1 (aN ds m.drives)<=i1 m.drives:=List.length_filter_le _ _;omega
structure akN (m:aG) (ds ds':aJ) (gone:aD):Prop where
 len:i1 ds'=64
 at_:∀k,k∉gone->bm ds' k=bm ds k
 live:∀k,k∈aN ds' m.drives↔k∈aN ds m.drives/\k∉gone
 sub:∀k∈gone,k∈aN ds m.drives
 nd:gone.Nodup
theorem FK{o b:Int}{live:aD}{i:Nat}(a:i<i1 live):(dc m ds o b live).getD i []=(iv m ds o b live[i]).map qI:=by rw[fq [] (by unfold dc;rw[qy];exact a)];unfold dc;rw[List.getElem_map];unfold fA;rw[List.flatMap_cons,List.flatMap_nil,qN]
end Go.Qw
namespace Go.Qw
open Go Go.Vc Go.Proofs Wl
theorem Jt(W:cj)(a:aD)(x:Int):∀k,x∈sk W a k↔∃i,i<k/\(i:Int)∉a/\x∈W.getD i []
 |0=>by simp[sk]
 |k+1=>by
  rw[sk,qz,Jt W a x k];constructor
  ·rintro(⟨i,e,b,h3⟩|h)
   ·exact⟨i,i5,b,h3⟩
   ·by_cases d:(k:Int)∈a
    ·rw[g0 d]at h;cases h
    ·rw[g9 d]at h;exact⟨k,i5,d,h⟩
  ·rintro⟨i,e,b,h3⟩;by_cases c:i=k
   ·subst c;exact .inr (by rw[g9 b];exact h3)
   ·exact .inl ⟨i,i5,b,h3⟩
theorem adU(p:Pm)(seed:Int){a b:aD}(h:∀x∈a,x∈b):oX p seed a<=oX p seed b:=by
 unfold oX;refine Hz (jS p seed a) (jS p seed b) λr c=>?_;unfold dR at c⊢;split at c
 ·rename_i e;rw[g0 e];rcases qz.1 c with c|c
  ·exact zB _ c
  ·obtain⟨i,d,rfl⟩:=qu.1 c;rw[qJ]at d;exact wV _ (qu.2 ⟨i,qJ.2 ⟨h i d.1,d.2⟩,i4⟩)
 ·cases c
theorem adV{p:Pm}{seed:Int}{W V:cj}{g g':aD}(f:i1 W<=i1 V)(d:∀x∈g',x∈g)(b:∀i x,x∈W.getD i []->x∈V.getD i []):nM p seed W g<=nM p seed V g':=by unfold nM;refine adU p seed λx a=>?_;rw[Jt]at a⊢;obtain⟨i,h,c,h3⟩:=a;exact⟨i,i5,λe=>c (d _ e),b i x h3⟩
theorem RH{p:Pm}{seed:Int}{W V:cj}{t:Nat}(e:i1 V=i1 W)(a:∀i x,x∈W.getD i []->x∈V.getD i [])(h:pc p seed W t=eH):pc p seed V t=eH:=by
 unfold pc at h⊢;rw[e];rw[yo]at h⊢;intro g c b;have f:(nM p seed W g:Int)=bJ p:=by simpa using h g c
 have j:=adV (p:=p) (seed:=seed) (W:=W) (V:=V) (g:=g) (g':=g) i5 (λ_ h=>h) a;have h3:=aeC p seed (sk V g V.length);have d:(nM p seed V g:Int)≠bJ p:=i0 b;apply d;unfold nM at*;omega
variable {m:aG} {C:Int->bf} {ds:aJ}
theorem agf(f:bR m=eR){l l':cJ}(d:∀c∈l',dL m C c)(h:∀c∈l,c∈l'){r:dj}(e:r∈fy m l):r∈fy m l':=by obtain⟨a,b,c⟩:=nO e;exact FF f d (h _ a) b c
theorem RI(i:bR m=eR){l:cJ}(j:∀c∈l,dL m C c){r:dj}:r∈fy m (cv m l)↔r∈fy m l:=by
 constructor
 ·intro g;obtain⟨a,b,c⟩:=nO g;rcases qz.1 a with h|h
  ·rw[CK h]at b;cases b
  ·obtain⟨k,d,e⟩:=qu.1 h;obtain⟨_,f,_⟩:=nO d;rw[e,b]at f;injection f with f
   rw[f];exact d
 ·intro g;obtain⟨a,b,c⟩:=nO g;exact FF i (Qi i j) (wV _ (qu.2 ⟨r,g,i4⟩)) b c
theorem aaR(r:dj):oW r r=eR:=by rw[ms];exact⟨i4,i4,i4⟩
theorem OK(l:cJ):(fy m l).Nodup:=(XG m l).imp λh e=>by subst e;rw[aaR]at h;cases h
theorem ain{l l':cJ}(h:∀r∈fy m l,r∈fy m l'):i1 (fy m l)<=i1 (fy m l'):=by
 letI:DecidableEq dj:=λa b=>Classical.propDecidable _
 exact FI (OK l) h
theorem nQ(b:bR m=eR){l:cJ}:gB m l=eR↔∀c∈bu m,c∈l:=by unfold gB;rw[b,z8,qZ];exact⟨λh c a=>i0 (h c a),λh c a=>hU (h c a)⟩
theorem Mk(l:cJ):i1 (cv m l)=i1 (bu m)+i1 (fy m l):=by unfold cv sf;rw[qx,qy]
structure DK (m:aG) (d d':bs):Prop where
 lost:d'.lost=d.lost
 room:d'.room=d.room
 recs:∀r∈fy m d.l,r∈fy m d'.l
 whole:gB m d.l=eR->gB m d'.l=eR
theorem DK.refl(d:bs):DK m d d:=⟨i4,i4,λ_ h=>h,λh=>h⟩
theorem DK.trans{a b c:bs}(e:DK m a b)(d:DK m b c):DK m a c:=⟨d.lost.trans e.lost,d.room.trans e.room,λr h=>d.recs r (e.recs r h),λh=>d.whole (e.whole h)⟩
structure jA (m:aG) (ds ds':aJ):Prop where
 len:i1 ds'=i1 ds
 at_:∀k d,bm ds k=dB d->∃d',bm ds' k=dB d'/\DK m d d'
 no:∀k,bm ds k=eH->bm ds' k=eH
theorem jA.refl(ds:aJ):jA m ds ds:=⟨i4,λ_ d h=>⟨d,h,.refl d⟩,λ_ h=>h⟩
theorem jA.trans{a b c:aJ}(f:jA m a b)(e:jA m b c):jA m a c:=⟨e.len.trans f.len,λk d g=>by
 obtain⟨n,o,i⟩:=f.at_ k d g;obtain⟨j,p,l⟩:=e.at_ k n o;exact⟨j,p,i.trans l⟩,λk h=>e.no k (f.no k h)⟩
theorem jA.set{k:Int}{d e:bs}(b:i1 ds=64)(f:bm ds k=dB d)(h:DK m d e):jA m ds (bQ ds k e):=⟨Bj _ _ _,λs x a=>by
 rw[iw b f];split
 ·rename_i c;subst c;rw[f]at a;injection a with a;subst a
  exact⟨_,i4,h⟩
 ·exact⟨x,a,.refl x⟩,λs c=>by
 rw[iw b f];split
 ·rename_i h;subst h;rw[f]at c;cases c
 ·exact c⟩
theorem jA.live{a:aJ}(K:jA m ds a)(l:aD):aN a l=aN ds l:=by
 unfold aN;refine y5 λx _=>?_;unfold isLive;cases hd:bm ds x with
 |none=>rw[K.no x hd]
 |some d=>
  obtain⟨b,e,k⟩:=K.at_ x d hd;rw[e];simp only[k.lost]
theorem jA.syms{a:aJ}(K:jA m ds a){o b k:Int}{id:Int}(h:id∈(iv m ds o b k).map qI):id∈(iv m a o b k).map qI:=by obtain⟨x,j,rfl⟩:=qu.1 h;obtain⟨d,r,l,g,f,i,rfl⟩:=FG j;obtain⟨n,e,c⟩:=K.at_ k d l;refine qu.2 ⟨(r.id,r.data),?_,i4⟩;unfold iv;rw[e];exact qu.2 ⟨r,qJ.2 ⟨c.recs r g,by rw[f,i];simp⟩,i4⟩
theorem YB(a:bR m=eR){d:bs}(b:∀c∈d.l,dL m C c):DK m d {d with l:=cv m d.l,wait:=0,laid:=[],has:=eS}:=
 ⟨i4,i4,λr h=>(RI a b).2 h,λ_=>(nQ a).2 λc h=>zB _ h⟩
structure Tidy (m:aG) (d:bs):Prop where
 whole:gB m d.l=eR
 keep:i1 (cv m d.l)<=i1 d.l
 room:i1 d.l<=d.room
theorem RJ(a:bR m=eR){d:bs}(e:∀c∈d.l,dL m C c)(b:i1 (cv m d.l)<=d.room):Tidy m {d with l:=cv m d.l,wait:=0,laid:=[],has:=eS}:=
 ⟨(nQ a).2 λc h=>zB _ h,by
  show(cv m (cv m d.l)).length<=i1 (cv m d.l);rw[Mk,Mk];exact Nat.add_le_add_left (ain λr h=>(RI a e).1 h) _,b⟩
theorem oU{k:Int}{w:Pow}:∀{live:aD} {w:Pow} {ds:aJ},i1 ds=64->k∉live->bm (dG m live w ds).2.2 k=bm ds k
 |[],_,_,_,_=>rfl
 |j::live,w,ds,h64,hk=>by
  have b:k≠j:=λe=>hk (by rw[e];exact qO);have a:k∉live:=λh=>hk (qH _ h);unfold dG;cases hd:bm ds j with
  |none=>exact oU (w:=w) h64 a
  |some d=>
   dsimp only;split
   ·exact oU (w:=w) h64 a
   ·have e:bm (bQ ds j (d.rewrite w (cv m d.l)).2.2) k=bm ds k:=by rw[iw h64 hd,g9 b]
    split
    ·rw[oU (w:=w) (by rw[Bj];exact h64) a,e]
    ·exact e
theorem FL:∀{live:aD} {ds:aJ},live.Nodup->gz m C ds->(∀k∈live,∃d,bm ds k=dB d/\d.lost=eS)->(∀k d,bm ds k=dB d->i1 d.l<=d.room/\d.wait=0)->
  (dG m live Pow.new ds).2.1=Pow.new/\((dG m live Pow.new ds).1=0∨(dG m live Pow.new ds).1=7)/\gz m C (dG m live Pow.new ds).2.2/\jA m ds (dG m live Pow.new ds).2.2/\
  (∀k d,bm (dG m live Pow.new ds).2.2 k=dB d->i1 d.l<=d.room/\d.wait=0)/\
  ((∀k d,bm ds k=dB d->k∈live->i1 (cv m d.l)<=d.room)->(dG m live Pow.new ds).1=0)/\
  ((dG m live Pow.new ds).1=0->∀k∈live,∀d,bm (dG m live Pow.new ds).2.2 k=dB d->Tidy m d)
 |[],ds,_,S,_,hw=>⟨i4,.inl i4,S,.refl _,hw,λ_=>rfl,λ_ k I=>by cases I⟩
 |k::live,ds,g,S,hlv,hw=>by
  obtain⟨n,g⟩:=List.nodup_cons.1 g;obtain⟨d,o,G⟩:=hlv k qO;have r:=S.cells k d o;have p:=λj f=>hlv j (qH _ f);unfold dG;rw[o];dsimp only;by_cases e:d.l=cv m d.l
  ·rw[g0 e];obtain⟨v,A,a3,a4,a5,D,B⟩:=FL (live:=live) g S p hw;refine⟨v,A,a3,a4,a5,λh=>D λj x a f=>h j x a (qH _ f),λh0 j f x a=>?_⟩;rcases zb.1 f with rfl|f
   ·rw[oU (w:=Pow.new) S.len n,o]at a;injection a with a
    subst a;exact⟨(nQ S.may).2 λc r=>by rw[e];exact zB _ r,by rw[<-e];exact qm _,(hw j d o).1⟩
   ·exact B h0 j f x a
  ·rw[g9 e];by_cases u:i1 (cv m d.l)<=d.room
   ·have y:=IZ nL (Fy m d.l) G u;rw[y];dsimp only;rw[g0 rfl];have E:=YB S.may r;have F:gz m C (bQ ds k {d with l:=cv m d.l,wait:=0,laid:=[],has:=eS}):=S.aaM o (Qi S.may r);have i:=λs=>iw (d:={d with l:=cv m d.l,wait:=0,laid:=[],has:=eS}) S.len o s;have H:jA m ds (bQ ds k {d with l:=cv m d.l,wait:=0,laid:=[],has:=eS}):=.set S.len o E;obtain⟨v,A,a3,a4,a5,D,B⟩:=FL (live:=live) g F (λj f=>by
     obtain⟨x,a,z⟩:=p j f;have q:j≠k:=λh=>n (by rw[<-h];exact f);exact⟨x,by rw[i,g9 q];exact a,z⟩) (λj x a=>by
     rw[i]at a;split at a
     ·injection a with a;subst a;exact⟨u,i4⟩
     ·exact hw j x a)
    refine⟨v,A,a3,H.trans a4,a5,λh=>D λj x a f=>?_,λh0 j f x a=>?_⟩
    ·have q:j≠k:=λh=>n (by rw[<-h];exact f);rw[i,g9 q]at a;exact h j x a (qH _ f)
    ·rcases zb.1 f with rfl|f
     ·rw[oU (w:=Pow.new) F.len n,i,g0 rfl]at a;injection a with a
      subst a;exact RJ S.may r u
     ·exact B h0 j f x a
   ·have y:d.rewrite Pow.new (cv m d.l)=(7,Pow.new,d):=by unfold bs.rewrite;have t:(cv m d.l).all (λb=>decide (i1 b=64))=eR:=qZ.2 λc h=>hU (Fy m d.l c h);rw[t,g9 i6,g9 (by rw[G];decide),g0 i5]
    rw[y];dsimp only;rw[g9 (show¬(7:Int)=0 by decide),acJ o];exact⟨i4,.inr i4,S,.refl _,hw,λh=>absurd (h k d o qO) u,λh=>absurd h (show¬(7:Int)=0 by decide)⟩
structure VX (m:aG) (C:Int->bf) (e:Wl.cw) (i:Nat) (x:jF):Prop where
 he:e∈m.aH
 hi:i<e.tries.length
 o:x.o=e.object
 b:x.b=i
 seed:x.seed=cI e.object i (e.tries.getD i 0)
 M:x.M=dq m.p x.seed (je m C e.object i)
theorem VX.Ou{e:Wl.cw}{i:Nat}{x:jF}(X:VX m C e i x)(id:Nat):x.Ou m id=oy m e.object i (cI e.object i (e.tries.getD i 0)) (je m C e.object i) id:=by unfold jF.Ou oy uR;rw[X.M,X.o,X.b,X.seed]
theorem adW(S:gz m C ds){e:Wl.cw}(c:e∈m.aH){i:Nat}(d:i<e.tries.length){id:Nat}(hid:id<=65535):dL m C (dE (oy m e.object i (cI e.object i (e.tries.getD i 0)) (je m C e.object i) id)):=by
 have a:=S.VL c d hid;have b:=Hu a (oQ _ _ _);refine⟨λr h=>?_,λr h _=>?_,λg h=>?_⟩
 ·rw[b]at h;injection h with h;subst h
  exact S.old c
 ·rw[b]at h;injection h with h;subst h
  rfl
 ·rw[OC a]at h;cases h
theorem adX{W:cj}:eT W<=i1 W.flatten:=by
 have h:=FI (l:=(qA (eT W)).map λi:Nat=>(i:Int)) (m:=W.flatten) (by
  rw[List.Nodup,List.pairwise_map];exact yH.imp λh e=>i5) λx b=>by
   obtain⟨j,c,rfl⟩:=qu.1 b;have:=Je (qG.1 c);unfold mE at this;rw[zQ]at this;obtain⟨l,d,a⟩:=this;exact List.mem_flatten.2 ⟨l,d,i0 a⟩
 simpa using h
theorem agh{W:cj}{c:Nat}(h:∀l∈W,i1 l<=c):i1 W.flatten<=i1 W*c:=by
 induction W with
 |nil=>simp
 |cons l W ih=>
  rw[List.flatten_cons,qx,List.length_cons,Nat.succ_mul];have d:=h l qO;have b:=ih λz a=>h z (qH _ a);omega
theorem adY{live:aD}{s:Int}(h:s∈live):∃k:Nat,gm live s=k/\∃a:k<i1 live,live[k]=s:=by
 unfold gm;cases hx:live.idxOf? s with
 |none=>
  unfold List.idxOf? at hx;rw[List.findIdx?_eq_none_iff]at hx;have:=hx s h;simp at this
 |some k=>
  unfold List.idxOf? at hx;obtain⟨a,b,_⟩:=List.findIdx?_eq_some_iff_getElem.1 hx;exact⟨k,i4,a,k7⟩
def RK(m:aG)(live:aD)(ds:aJ)(x:jF):Prop:=∀k (a:k<i1 live),∀id∈x.W.getD k [],id∈(iv m ds x.o x.b live[k]).map qI
theorem RK.keep{live:aD}{a:aJ}{x:jF}(h:RK m live ds x)(K:jA m ds a):RK m live a x:=λk b id hid=>K.syms (h k b id hid)
theorem XM(e:bR m=eR){d:bs}{c:bf}{f:dj}(i:∀z∈d.l,dL m C z)(j:dL m C c)(o:ey c=dB f)(h:Tidy m d)(g:i1 d.l+1<=d.room)(n:Nat):Tidy m {d with l:=d.l++[c],wait:=n,laid:=[],has:=eS}:=by
 refine⟨(nQ e).2 λz s=>zB _ ((nQ e).1 h.whole z s),?_,i9⟩;show(cv m (d.l++[c])).length<=i1 (d.l++[c]);have k:=h.keep;rw[Mk]at k⊢;have p:i1 (fy m (d.l++[c]))<=i1 (fy m d.l++[f]):=by
  letI:DecidableEq dj:=λa b=>Classical.propDecidable _
  refine FI (OK _) λr g=>?_;obtain⟨a,b,q⟩:=nO g;rcases qz.1 a with a|a
  ·exact zB _ (FF e i a b q)
  ·rw[qC.1 a,o]at b;injection b with b
   exact wV _ (by rw[b];simp)
 simp at p⊢;omega
theorem adZ(a:bR m=eR){d:bs}{n:Int}(b:∀c∈d.l,dL m C c)(h:Tidy m d):Tidy m (dz m d n):=by
 unfold dz;split
 ·exact h
 ·exact RJ a b (zd h.keep h.room)
theorem aio(a:bR m=eR){d:bs}{n:Int}(b:∀c∈d.l,dL m C c):DK m d (dz m d n):=by
 unfold dz;split
 ·exact .refl d
 ·exact YB a b
structure sP (m:aG) (C:Int->bf) (live:aD) (ds:aJ) (got:aD):Prop where
 sto:gz m C ds
 lv:∀k∈live,∃d,bm ds k=dB d/\d.lost=eS
 wt:∀k d,bm ds k=dB d->d.wait=0∨k∈got
 tidy:∀k∈live,∀d,bm ds k=dB d->Tidy m d
 rm:∀k d,bm ds k=dB d->i1 d.l<=d.room/\d.room<=512
theorem Dn{live set order:aD}{c:bf}{id:Nat}{w:Pow}:∀l:List Nat,(gF m live set order c id w ds l).1=(7,w,ds)∨
  ∃i∈l,∃d,bm ds (gj order ((id:Int)+i))=dB d/\iu m d 1=eR/\gF m live set order c id w ds l=(jE m c w ds (gj order ((id:Int)+i)) d,gm live (gj order ((id:Int)+i)),gj order ((id:Int)+i))
 |[]=>.inl i4
 |i::l=>by
  unfold gF;dsimp only;have step:∀{P:Prop},(gF m live set order c id w ds l).1=(7,w,ds)∨(∃i∈l,∃d,bm ds (gj order ((id:Int)+i))=dB d/\iu m d 1=eR/\gF m live set order c id w ds l=(jE m c w ds (gj order ((id:Int)+i)) d,gm live (gj order ((id:Int)+i)),gj order ((id:Int)+i)))->
   (gF m live set order c id w ds l).1=(7,w,ds)∨(∃j∈i::l,∃d,bm ds (gj order ((id:Int)+j))=dB d/\iu m d 1=eR/\gF m live set order c id w ds l=(jE m c w ds (gj order ((id:Int)+j)) d,gm live (gj order ((id:Int)+j)),gj order ((id:Int)+j))):=λ{P} h=>by
    rcases h with h|⟨j,hj,r⟩
    ·exact .inl h
    ·exact .inr ⟨j,qH _ hj,r⟩
  cases hd:bm ds (gj order ((id:Int)+i))with
  |none=>exact step (P:=True) (Dn l)
  |some d=>
   dsimp only;by_cases a:gm live (gj order ((id:Int)+i))∈set∨iu m d 1=eS
   ·rw[g0 a];exact step (P:=True) (Dn l)
   ·rw[g9 a];exact .inr ⟨i,qO,d,hd,by cases hf:iu m d 1 with|true=>rfl|false=>exact absurd (.inr hf) a,rfl⟩
theorem aea{live set:aD}{e:Wl.cw}{i:Nat}{x:jF}(ah:live.length<=9)(Q:sP m C live ds x.got)(X:VX m C e i x)(F:nN m live x)(O:RK m live ds x):
  (eZ m live set Pow.new ds x).2.1=Pow.new/\((eZ m live set Pow.new ds x).1=0∨(eZ m live set Pow.new ds x).1=7)/\jA m ds (eZ m live set Pow.new ds x).2.2.1/\
  sP m C live (eZ m live set Pow.new ds x).2.2.1 (eZ m live set Pow.new ds x).2.2.2.got/\VX m C e i (eZ m live set Pow.new ds x).2.2.2/\RK m live (eZ m live set Pow.new ds x).2.2.1 (eZ m live set Pow.new ds x).2.2.2:=by
 have q:eT x.W<=65535:=by
  have T:=adX (W:=x.W);have h2:=agh (W:=x.W) (c:=4160) λl hl=>by have:=F.rl l hl;have:=F.gl;omega
  have h3:=F.wl;have h4:x.W.length*4160<=9*4160:=Nat.mul_le_mul_right _ i5;omega
 have g:=Q.sto.counts X.he X.hi q;have H:=Q.sto.VL X.he X.hi q;have A:=adW Q.sto X.he X.hi q;obtain⟨p,v⟩:∃p,p=oy m e.object i (cI e.object i (e.tries.getD i 0)) (je m C e.object i) (eT x.W):=⟨_,rfl⟩
 rw[<-v]at g H A;have L:=Hu H (by rw[v];exact oQ _ _ _);have V:(dE p).length=64:=Ll H;have eP:eZ m live set Pow.new ds x=(let r:=gF m live set (fw x.o x.b live) (dE p) (eT x.W) Pow.new ds (qA (fw x.o x.b live).length);(r.1.1,r.1.2.1,r.1.2.2,if r.1.1=0 then x.Dm (eT x.W) r.2.1 r.2.2 else x)):=by rw[v,<-X.Ou];rfl
 rw[eP];dsimp only;obtain⟨o,ho⟩:∃o,o=fw x.o x.b live:=⟨_,rfl⟩
 rw[<-ho];rcases Dn (m:=m) (ds:=ds) (live:=live) (set:=set) (order:=o) (c:=dE p) (id:=eT x.W) (w:=Pow.new) (qA o.length)with h|⟨j,S,d,hd,hf,h⟩
 ·rw[h];dsimp only;rw[g9 (show¬(7:Int)=0 by decide)];exact⟨i4,.inr i4,.refl _,Q,X,O⟩
 obtain⟨s,hs⟩:∃s,s=gj o ((eT x.W:Int)+j):=⟨_,rfl⟩
 rw[<-hs]at hd h;have S:=qG.1 S;have E:s∈live:=by rw[hs];exact FD (by rw[<-ho];exact Qh (by intro h;rw[h]at S;simp at S))
 obtain⟨kk,U,ab,Y⟩:=adY E;have Z:=Q.sto.cells s d hd;obtain⟨r1,r2,r3⟩:=FA hf;have ea:jE m (dE p) Pow.new ds s d=(0,Pow.new,bQ ds s {dz m d 1 with l:=(dz m d 1).l++[dE p],wait:=(dz m d 1).wait+1,laid:=[],has:=eS}):=by unfold jE;rw[Oj nL hf];dsimp only;rw[g9 λh=>h i4,KU (n:=0) nL r1 i5 V];dsimp only;rw[xU]
 rw[h,ea];dsimp only;rw[g0 rfl];obtain⟨y,t⟩:∃y,y={dz m d 1 with l:=(dz m d 1).l++[dE p],wait:=(dz m d 1).wait+1,laid:=[],has:=eS}:=⟨_,rfl⟩
 rw[<-t];have B:=Q.sto.may;have G:=Qj B Z (N:=1);have J:∀c∈y.l,dL m C c:=λc f=>by
  rw[t]at f;rcases qz.1 f with f|f
  ·exact G c f
  ·rw[qC.1 f];exact A
 have I:DK m d y:=(aio B Z (n:=1)).trans (by
  rw[t];refine⟨i4,i4,λr hr=>agf B (l:=(dz m d 1).l) (l':=(dz m d 1).l++[dE p]) (λc f=>by
   rcases qz.1 f with f|f
   ·exact G c f
   ·rw[qC.1 f];exact A) (λc f=>zB _ f) hr,λhw=>(nQ B).2 λc f=>zB _ ((nQ B).1 hw c f)⟩)
 have K:jA m ds (bQ ds s y):=.set Q.sto.len hd I;have u:=λz=>iw (d:=y) Q.sto.len hd z;have S':gz m C (bQ ds s y):=Q.sto.aaM hd J;have R:Tidy m y:=by rw[t];exact XM B G A L (adZ B Z (Q.tidy s E d hd)) i5 _
 refine⟨i4,.inl i4,K,⟨S',λk D=>?_,λk z a=>?_,λk D z a=>?_,λk z a=>?_⟩,⟨X.he,X.hi,X.o,X.b,X.seed,X.M⟩,λk D id hid=>?_⟩
 ·rw[u];split
  ·exact⟨y,i4,by rw[I.lost];obtain⟨z,a,hl⟩:=Q.lv s E;rw[hd]at a;injection a with a;rw[a];exact hl⟩
  ·exact Q.lv k D
 ·show z.wait=0∨k∈x.got++[s]
  rw[u]at a;split at a
  ·rename_i D;rw[D];exact .inr jj
  ·rcases Q.wt k z a with h|h
   ·exact .inl h
   ·exact .inr (zB _ h)
 ·rw[u]at a;split at a
  ·injection a with a
   rw[<-a];exact R
  ·exact Q.tidy k D z a
 ·rw[u]at a;split at a
  ·injection a with a
   rw[<-a];exact⟨R.room,by rw[I.room];exact(Q.rm s d hd).2⟩
  ·exact Q.rm k z a
 ·have hid:id∈(x.W.set (gm live s).toNat (x.W.getD (gm live s).toNat []++[(eT x.W:Int)])).getD k []:=hid;rw[U,ql]at hid;show id∈(iv m (bQ ds s y) x.o x.b live[k]).map qI;have ad:kk<x.W.length:=by rw[F.wl];exact ab
  by_cases P:k=kk
  ·subst P;rw[fq [] (by rw[List.length_set];exact ad),List.getElem_set_self]at hid;rcases qz.1 hid with T|T
   ·exact K.syms (O k D id T)
   ·rw[qC.1 T,Y];refine qu.2 ⟨(p.id,p.data),?_,by rw[v];rfl⟩;unfold iv;rw[u,g0 rfl];refine qu.2 ⟨p,qJ.2 ⟨FF B J (by rw[t];exact wV _ jj) L g,?_⟩,i4⟩;rw[X.o,X.b,v];show(decide (e.object=e.object)&&decide ((i:Int)=(i:Int)))=eR;simp
  ·rw[qe,List.getElem?_set_ne λh=>P h.symm,<-qe]at hid;exact K.syms (O k D id hid)
end Go.Qw
namespace Go.Qw
open Go Go.Vc Go.Proofs Wl
variable {m:aG} {C:Int->bf} {ds:aJ}
theorem RL{p:Pm}(d:bO p=eR){seed:Int}{W:cj}{t:Int}(a:0<=t/\t<=i1 W)(b:i1 W<=64)(c:¬gT W.length t>4096):fS p seed W t=match pc p seed W t.toNat with|some g=>(g,eR,0)|none=>([],eS,0):=by unfold fS;rw[g0 d,g0 ⟨a.1,a.2,b⟩,g9 c];rfl
theorem OL{live:aD}{t most:Int}{e:Wl.cw}{i:Nat}(d:0<=t/\t<=i1 live)(b:i1 live<=9)(n:¬gT live.length t>4096)(a:most<=64):∀(f:Nat) (ds:aJ) (x:jF),sP m C live ds x.got->VX m C e i x->nN m live x->RK m live ds x->
  (dD m live t most f Pow.new ds x).2.1=Pow.new/\((dD m live t most f Pow.new ds x).1=0∨(dD m live t most f Pow.new ds x).1=7∨(dD m live t most f Pow.new ds x).1=12)/\jA m ds (dD m live t most f Pow.new ds x).2.2.1/\
  sP m C live (dD m live t most f Pow.new ds x).2.2.1 (dD m live t most f Pow.new ds x).2.2.2.got/\VX m C e i (dD m live t most f Pow.new ds x).2.2.2/\nN m live (dD m live t most f Pow.new ds x).2.2.2/\RK m live (dD m live t most f Pow.new ds x).2.2.1 (dD m live t most f Pow.new ds x).2.2.2/\
  ((dD m live t most f Pow.new ds x).1=0->pc m.p x.seed (dD m live t most f Pow.new ds x).2.2.2.W t.toNat=eH)/\
  (pc m.p x.seed x.W t.toNat=eH->0<f->dD m live t most f Pow.new ds x=(0,Pow.new,ds,x))
 |0,ds,x,Q,X,F,O=>⟨i4,.inr (.inr i4),.refl _,Q,X,F,O,λh=>absurd h (show¬(12:Int)=0 by decide),λ_ h=>absurd h i6⟩
 |f+1,ds,x,Q,X,F,O=>by
  have j:=RL Q.sto.VJ (seed:=x.seed) (W:=x.W) (t:=t) ⟨d.1,by rw[F.wl];exact d.2⟩ (by rw[F.wl];omega) (by rw[F.wl];exact n);unfold dD;dsimp only;rw[j];cases hwk:pc m.p x.seed x.W t.toNat with
  |none=>
   dsimp only;rw[g9 λh=>h i4,g0 rfl];exact⟨i4,.inl i4,.refl _,Q,X,F,O,λ_=>hwk,λ_ _=>rfl⟩
  |some g=>
   dsimp only;rw[g9 λh=>h i4,g9 i6];by_cases r:(i1 x.got:Int)>=most
   ·rw[g0 r];exact⟨i4,.inr (.inr i4),.refl _,Q,X,F,O,λh=>absurd h (show¬(12:Int)=0 by decide),λh=>j9⟩
   ·rw[g9 r];obtain⟨c,o,a3,a4,a5,k⟩:=aea (set:=g) b Q X F O;have l:=(Mh (set:=g) (w:=Pow.new) (ds:=ds) F i5).1;obtain⟨q,u⟩:∃q,q=eZ m live g Pow.new ds x:=⟨_,rfl⟩
    rw[<-u]at c o a3 a4 a5 k l⊢;by_cases h0:q.1≠0
    ·rw[g0 h0];exact⟨c,o.elim (λh=>absurd h h0) λh=>.inr (.inl h),a3,a4,a5,l,k,λh=>absurd h h0,λh=>j9⟩
    ·rw[g9 h0,c];obtain⟨s,v,z,A,B,y,E,b8,_⟩:=OL d b n a f q.2.2.1 q.2.2.2 a4 a5 l k;have D:q.2.2.2.seed=x.seed:=by rw[a5.seed,X.seed]
     rw[D]at b8;exact⟨s,v,a3.trans z,A,B,y,E,b8,λh=>j9⟩
theorem sP.fit{live got:aD}(Q:sP m C live ds got):Fit ds live []:=⟨Q.sto.len,λs b=>by
 obtain⟨d,a,c⟩:=Q.lv s b;exact⟨d,a,c,by have:=(Q.tidy s b d a).room;simp;omega⟩⟩
theorem sP.sync{live got:aD}(Q:sP m C live ds got)(u:∀s∈got,s∈live)(o:∀s∈live,0<=s/\s<64):
  (eV (cM got) Pow.new ds).1=0/\(eV (cM got) Pow.new ds).2.1=Pow.new/\jA m ds (eV (cM got) Pow.new ds).2.2/\sP m C live (eV (cM got) Pow.new ds).2.2 []/\∀k,(bm (eV (cM got) Pow.new ds).2.2 k).map bs.l=(bm ds k).map bs.l:=by
 obtain⟨v,p,a3⟩:=Fx nL (cM got) ds Q.fit λs t=>by
  unfold cM at t;exact u s (i0 (qJ.1 t).2)
 obtain⟨D,w⟩:∃D,D=(eV (cM got) Pow.new ds).2.2:=⟨_,rfl⟩
 rw[<-w]at p a3⊢;have g:∀k d,bm ds k=dB d->∃c,bm D k=dB c/\c.l=d.l/\c.room=d.room/\c.lost=d.lost/\(c.wait=0∨c.wait=d.wait/\k∉cM got):=λk d b=>by
  rw[a3,b];refine⟨_,i4,?_⟩;split
  ·exact⟨i4,i4,i4,.inl i4⟩
  ·exact⟨i4,i4,i4,.inr ⟨i4,oi⟩⟩
 have j:∀k,bm ds k=eH->bm D k=eH:=λk h=>by rw[a3,h];rfl
 have f:∀k c,bm D k=dB c->∃d,bm ds k=dB d:=λk c h=>by
  cases b:bm ds k with
  |none=>rw[j k b]at h;cases h
  |some d=>exact⟨d,i4⟩
 refine⟨v,Fw nL _ _,⟨by rw[p.len,Q.sto.len],λk d b=>?_,j⟩,⟨⟨Q.sto.may,p.len,λk c a=>?_,Q.sto.ents⟩,λk q=>?_,λk c a=>?_,λk q c a=>?_,λk c a=>?_⟩,λk=>?_⟩
 ·obtain⟨c,e,i,n,h3,_⟩:=g k d b;exact⟨c,e,h3,n,λr x=>by rw[i];exact x,λh=>by rw[i];exact h⟩
 ·obtain⟨d,b⟩:=f k c a;obtain⟨z,e,i,_⟩:=g k d b;rw[a]at e;injection e with e;subst e
  rw[i];exact Q.sto.cells k d b
 ·obtain⟨d,b,A⟩:=Q.lv k q;obtain⟨c,e,_,_,h3,_⟩:=g k d b;exact⟨c,e,by rw[h3];exact A⟩
 ·obtain⟨d,b⟩:=f k c a;obtain⟨z,e,_,_,_,y⟩:=g k d b;rw[a]at e;injection e with e;subst e
  rcases y with h|⟨h,hn⟩
  ·exact .inl h
  ·rcases Q.wt k d b with h5|h5
   ·exact .inl (h.trans h5)
   ·exact absurd ((Dj (o k (u k h5))).2 h5) hn
 ·obtain⟨d,b⟩:=f k c a;obtain⟨z,e,i,n,_,_⟩:=g k d b;rw[a]at e;injection e with e;subst e
  have:=Q.tidy k q d b;exact⟨by rw[i];exact this.whole,by rw[i];exact this.keep,by rw[i,n];exact this.room⟩
 ·obtain⟨d,b⟩:=f k c a;obtain⟨z,e,i,n,_,_⟩:=g k d b;rw[a]at e;injection e with e;subst e
  rw[i,n];exact Q.rm k d b
 ·cases b:bm ds k with
  |none=>rw[j k b]
  |some d=>
   obtain⟨c,e,i,_⟩:=g k d b;rw[e];simp[i]
structure Do (m:aG) (live:aD) (ds:aJ) (t most:Int):Prop where
 lv:live=aN ds m.drives
 few:i1 live<=9
 tt:0<=t/\t<i1 live
 c:¬gT live.length t>4096
 mo:0<=most/\most<=64
 bW:∀s∈live,0<=s/\s<64
def ja(m:aG)(live:aD)(ds:aJ)(t:Int)(e:Wl.cw)(i:Nat):Prop:=pc m.p (cI e.object i (e.tries.getD i 0)) (dc m ds e.object i live) t.toNat=eH
theorem rc(m:aG)(ds:aJ)(o b:Int)(live:aD):i1 (dc m ds o b live)=i1 live:=by unfold dc;rw[qy]
theorem ja.keep{live:aD}{a:aJ}{t:Int}{e:Wl.cw}{i:Nat}(h:ja m live ds t e i)(K:jA m ds a):ja m live a t e i:=by
 refine RH (by rw[rc,rc]) (λk x b=>?_) h;by_cases c:k<i1 live
 ·rw[FK c]at b⊢;exact K.syms b
 ·rw[qe,qS (by rw[rc];omega)]at b;cases b
theorem aeb{live:aD}{t most:Int}{e:Wl.cw}{i:Nat}(Z:Do m live ds t most)(S:gz m C ds)(q:e∈m.aH)(j:i<e.tries.length)(g:∀k d,bm ds k=dB d->d.l.length<=512):
  ((fm m live ds e.object e.tries i).1=0∨(fm m live ds e.object e.tries i).1=11)/\
  ((fm m live ds e.object e.tries i).1=0->VX m C e i (fm m live ds e.object e.tries i).2/\RK m live ds (fm m live ds e.object e.tries i).2/\(fm m live ds e.object e.tries i).2.W=dc m ds e.object i live)/\
  (ja m live ds t e i->(fm m live ds e.object e.tries i).1=0):=by
 have y:=S.Jm q j;unfold Wl.Jm at y;rw[<-Z.lv]at y;obtain⟨K,H,w,n,B⟩:=S.fY q j;have u:iY m.p (cI e.object i (e.tries.getD i 0)) (je m C e.object i).length=0:=B.iY;unfold fm;dsimp only;rw[y,<-Z.lv];by_cases o:gC m.p (cI e.object i (e.tries.getD i 0)) (Ka m ds e.object i)=eR
 ·rw[g0 o];dsimp only;rw[g9 λh=>h i4,g9 λh=>h u];refine⟨.inl i4,λ_=>⟨⟨q,j,i4,i4,i4,i4⟩,λk A id hid=>?_,i4⟩,λ_=>rfl⟩;dsimp only at hid⊢;rw[FK A]at hid;exact hid
 ·rw[g9 o];dsimp only;rw[g0 (show¬(9:Int)=0 by decide)];refine⟨.inr i4,λh=>absurd h (show¬(11:Int)=0 by decide),λv=>absurd ?_ o⟩;unfold ja at v;obtain⟨W,r⟩:∃W,W=dc m ds e.object i live:=⟨_,rfl⟩
  rw[<-r]at v;have E:W.length=live.length:=by rw[r];exact rc _ _ _ _ _
  have f:ints (qA t.toNat)∈Cv W.length t.toNat:=qu.2 ⟨_,TJ jj (λx s=>by have:=qG.1 s;have:=Z.tt;omega) yH,i4⟩;have D:(nM m.p (cI e.object i (e.tries.getD i 0)) W (ints (qA t.toNat)):Int)=bJ m.p:=by have:=yo.1 v _ f;simpa using this
  have a:gC m.p (cI e.object i (e.tries.getD i 0)) (sk W (ints (qA t.toNat)) W.length)=eR:=by unfold gC;rw[S.VJ,z8];exact beq_iff_eq.2 D
  refine adF S.VJ (λx s=>?_) a;obtain⟨k,A,_,c⟩:=(Jt W _ x W.length).1 s;have b:k<live.length:=i5
  rw[r,FK b]at c;obtain⟨z,F,rfl⟩:=qu.1 c;unfold Ka fA;exact qu.2 ⟨z,List.mem_flatMap.2 ⟨live[k],by rw[<-Z.lv];exact qg b,F⟩,i4⟩
theorem XN{live:aD}{t most:Int}{e:Wl.cw}{i:Nat}(Z:Do m live ds t most)(Q:sP m C live ds [])(L:e∈m.aH)(H:i<e.tries.length):
  (dI m live t most Pow.new ds e i).2.1=Pow.new/\((dI m live t most Pow.new ds e i).1=0∨(dI m live t most Pow.new ds e i).1=7∨(dI m live t most Pow.new ds e i).1=11∨(dI m live t most Pow.new ds e i).1=12)/\jA m ds (dI m live t most Pow.new ds e i).2.2.1/\gz m C (dI m live t most Pow.new ds e i).2.2.1/\sP m C live (dI m live t most Pow.new ds e i).2.2.1 []/\
  ((dI m live t most Pow.new ds e i).1=0->ja m live (dI m live t most Pow.new ds e i).2.2.1 t e i)/\
  (ja m live ds t e i->dI m live t most Pow.new ds e i=(0,Pow.new,ds,0)):=by
 have a:∀k d,bm ds k=dB d->d.l.length<=512:=λk d R=>by have:=Q.rm k d R;omega
 obtain⟨A,v,u⟩:=aeb Z Q.sto L H a;have D:=λh=>Mi (m:=m) (live:=live) (ds:=ds) (o:=e.object) (tries:=e.tries) (i:=i) a (by rw[<-Z.lv]) h;unfold dI;dsimp only;obtain⟨p,N⟩:∃p,p=fm m live ds e.object e.tries i:=⟨_,rfl⟩
 rw[<-N]at A v u D⊢;by_cases h0:p.1=0
 rotate_left
 ·rw[g0 h0];exact⟨i4,A.elim (λh=>absurd h h0) λh=>.inr (.inr (.inl h)),.refl _,Q.sto,Q,λh=>absurd h h0,λh=>absurd (u h) h0⟩
 rw[g9 λh=>h h0];obtain⟨X,O,P⟩:=v h0;obtain⟨F,f⟩:=D h0;have E:sP m C live ds p.2.got:=by rw[f];exact Q
 obtain⟨n,K,a3,a4,a5,g,z,r,a9⟩:=OL (most:=most) ⟨Z.tt.1,by have:=Z.tt.2;omega⟩ Z.few Z.c Z.mo.2 65 ds p.2 E X F O;obtain⟨q,I⟩:∃q,q=dD m live t most 65 Pow.new ds p.2:=⟨_,rfl⟩
 rw[<-I]at n K a3 a4 a5 g z r a9⊢;rw[g9 i5,n];obtain⟨G,J,w,y,T⟩:=a4.sync (λs M=>g.gi s M) Z.bW;rw[G,g9 λh=>h rfl];dsimp only;refine⟨J,i5,a3.trans w,y.sto,y,λh=>?_,λh=>?_⟩
 ·have h8:=r h;rw[X.seed]at h8;refine RH (V:=dc m (eV (cM q.2.2.2.got) Pow.new q.2.2.1).2.2 e.object i live) (by rw[rc,g.wl]) (λk x j=>?_) h8;by_cases B:k<live.length
  ·rw[FK B];have:=(z.keep w) k B x j;rw[a5.o,a5.b]at this;exact this
  ·rw[qe,qS (by rw[g.wl];omega)]at j;cases j
 ·have S:=a9 (by rw[P,X.seed];exact h) i6;rw[S,f];rfl
end Go.Qw
namespace Go.Qw
open Go Go.Vc Go.Proofs Wl
variable {m:aG} {C:Int->bf} {ds:aJ}
theorem Do.next{live:aD}{a:aJ}{t most:Int}(Z:Do m live ds t most)(K:jA m ds a):Do m live a t most:=⟨by rw[K.live];exact Z.lv,Z.few,Z.tt,Z.c,Z.mo,Z.bW⟩
def okE(e:Int):Prop:=e=0∨e=7∨e=11∨e=12
theorem Ju{live:aD}{t most:Int}{e:Wl.cw}(n:e∈m.aH):∀(l:List Nat) (ds:aJ) (k:Nat),(∀i∈l,i<e.tries.length)->Do m live ds t most->sP m C live ds []->
  (gO m live t most e l Pow.new ds k).2.1=Pow.new/\okE (gO m live t most e l Pow.new ds k).1/\jA m ds (gO m live t most e l Pow.new ds k).2.2.1/\sP m C live (gO m live t most e l Pow.new ds k).2.2.1 []/\
  ((gO m live t most e l Pow.new ds k).1=0->∀i∈l,ja m live (gO m live t most e l Pow.new ds k).2.2.1 t e i)/\
  ((∀i∈l,ja m live ds t e i)->gO m live t most e l Pow.new ds k=(0,Pow.new,ds,k))
 |[],ds,k,_,_,Q=>⟨i4,.inl i4,.refl _,Q,λ_ i s=>(by cases s),λ_=>rfl⟩
 |i::l,ds,k,hl,Z,Q=>by
  obtain⟨c,g,a3,a4,a5,r,d⟩:=XN Z Q n (hl i qO);unfold gO;dsimp only;obtain⟨b,y⟩:∃b,b=dI m live t most Pow.new ds e i:=⟨_,rfl⟩
  rw[<-y]at c g a3 a4 a5 r d⊢;by_cases h0:b.1=0
  rotate_left
  ·rw[g0 h0];exact⟨c,g,a3,a5,λh=>absurd h h0,λh=>absurd (by rw[d (h i qO)]) h0⟩
  rw[g9 λh=>h h0,c];obtain⟨x,v,c3,u,w,o⟩:=Ju n l b.2.2.1 (k+b.2.2.2) (λj a=>hl j (qH _ a)) (Z.next a3) a5;refine⟨x,v,a3.trans c3,u,λh j a=>?_,λh=>?_⟩
  ·rcases zb.1 a with rfl|a
   ·exact(r h0).keep c3
   ·exact w h j a
  ·have f:=d (h i qO);have p:b.2.2.1=ds:=by rw[f]
   have q:b.2.2.2=0:=by rw[f]
   rw[p,q,wN]at o;rw[p,q,wN];exact o λj a=>h j (qH _ a)
theorem OM{live:aD}{t most:Int}:∀(l:List Wl.cw) (ds:aJ) (k:Nat),(∀e∈l,e∈m.aH)->Do m live ds t most->sP m C live ds []->
  (lj m live t most l Pow.new ds k).2.1=Pow.new/\okE (lj m live t most l Pow.new ds k).1/\jA m ds (lj m live t most l Pow.new ds k).2.2.1/\sP m C live (lj m live t most l Pow.new ds k).2.2.1 []/\
  ((lj m live t most l Pow.new ds k).1=0->∀e∈l,∀i<e.tries.length,ja m live (lj m live t most l Pow.new ds k).2.2.1 t e i)/\
  ((∀e∈l,∀i<e.tries.length,ja m live ds t e i)->lj m live t most l Pow.new ds k=(0,Pow.new,ds,k))
 |[],ds,k,_,_,Q=>⟨i4,.inl i4,.refl _,Q,λ_ i a=>(by cases a),λ_=>rfl⟩
 |e::l,ds,k,hl,Z,Q=>by
  obtain⟨d,n,a3,a5,p,f⟩:=Ju (hl e qO) (qA e.tries.length) ds k (λi a=>qG.1 a) Z Q;unfold lj;dsimp only;obtain⟨b,x⟩:∃b,b=gO m live t most e (qA e.tries.length) Pow.new ds k:=⟨_,rfl⟩
  rw[<-x]at d n a3 a5 p f⊢;by_cases h0:b.1=0
  rotate_left
  ·rw[g0 h0];exact⟨d,n,a3,a5,λh=>absurd h h0,λh=>absurd (by rw[f λi a=>h e qO i (qG.1 a)]) h0⟩
  rw[g9 λh=>h h0,d];obtain⟨u,r,c3,q,s,o⟩:=OM l b.2.2.1 b.2.2.2 (λj c=>hl j (qH _ c)) (Z.next a3) a5;refine⟨u,r,a3.trans c3,q,λh j c=>?_,λh=>?_⟩
  ·rcases zb.1 c with rfl|c
   ·exactλi a=>(p h0 i (qG.2 a)).keep c3
   ·exact s h j c
  ·have g:=f λi a=>h e qO i (qG.1 a);have v:b.2.2.1=ds:=by rw[g]
   have w:b.2.2.2=k:=by rw[g]
   rw[v,w]at o⊢;exact o λj c=>h j (qH _ c)
theorem aaS{live:aD}{t most:Int}(Z:Do m live ds t most)(S:gz m C ds)(n:∀k d,bm ds k=dB d->d.l.length<=d.room/\d.room<=512)(w:∀k d,bm ds k=dB d->d.wait=0):
  (iA m 0 Pow.new ds t most).2.2.1=Pow.new/\okE (iA m 0 Pow.new ds t most).2.1/\jA m ds (iA m 0 Pow.new ds t most).2.2.2/\gz m C (iA m 0 Pow.new ds t most).2.2.2/\
  (∀k d,bm (iA m 0 Pow.new ds t most).2.2.2 k=dB d->d.l.length<=d.room/\d.wait=0)/\
  ((iA m 0 Pow.new ds t most).2.1=0->sP m C live (iA m 0 Pow.new ds t most).2.2.2 []/\∀e∈m.aH,∀i<e.tries.length,ja m live (iA m 0 Pow.new ds t most).2.2.2 t e i)/\
  ((∀k∈live,∀d,bm ds k=dB d->Tidy m d)->(∀e∈m.aH,∀i<e.tries.length,ja m live ds t e i)->(iA m 0 Pow.new ds t most).1=0/\(iA m 0 Pow.new ds t most).2.1=0):=by
 have g:∀k∈live,∃d,bm ds k=dB d/\d.lost=eS:=λk f=>(iZ (by rw[<-Z.lv];exact f)).2;have r:live.Nodup:=by rw[Z.lv];exact si (xI S.may)
 obtain⟨p,x,a3,a4,a5,z,y⟩:=FL r S g λk d a=>⟨(n k d a).1,w k d a⟩
 have M:=Z.tt;have E:=Z.c;have I:=Z.mo;have H:iA m 0 Pow.new ds t most=(let c:=dG m live Pow.new ds;if c.1≠0 then(0,c.1,c.2.1,c.2.2)else(let q:=lj m live t most m.aH c.2.1 c.2.2 0;(q.2.2.2,q.1,q.2.1,q.2.2.1))):=by unfold iA;rw[<-Z.lv,g9 i6,g9 i5,g9 E]
 rw[H];dsimp only;obtain⟨c,v⟩:∃c,c=dG m live Pow.new ds:=⟨_,rfl⟩
 rw[<-v]at p x a3 a4 a5 z y⊢;have b:∀k d,bm c.2.2 k=dB d->d.l.length<=d.room/\d.room<=512:=λk d a=>by
  refine⟨(a5 k d a).1,?_⟩;cases h:bm ds k with
  |none=>rw[a4.no k h]at a;cases a
  |some d0=>
   obtain⟨A,e,u⟩:=a4.at_ k d0 h;rw[a]at e;injection e with e;rw[e,u.room];exact(n k d0 h).2
 by_cases h0:c.1=0
 rotate_left
 ·rw[g0 h0];refine⟨p,x.elim (λh=>absurd h h0) λh=>.inr (.inl h),a4,a3,a5,λh=>absurd h h0,λh _=>absurd (z λk d a f=>?_) h0⟩;have:=h k f d a;exact zd this.keep this.room
 rw[g9 λh=>h h0,p];have Q:sP m C live c.2.2 []:=⟨a3,λk f=>by
  obtain⟨d,a,L⟩:=g k f;obtain⟨A,e,u⟩:=a4.at_ k d a;exact⟨A,e,by rw[u.lost];exact L⟩,λk d a=>.inl (a5 k d a).2,λk f d a=>y h0 k f d a,b⟩
 obtain⟨D,F,J,o,K,G⟩:=OM m.aH c.2.2 0 (λe j=>j) (Z.next a4) Q;refine⟨D,F,a4.trans J,o.sto,λk d a=>⟨(o.rm k d a).1,?_⟩,λh=>⟨o,λe j i s=>K h e j i s⟩,λ_ h=>?_⟩
 ·rcases o.wt k d a with h|h
  ·exact h
  ·cases h
 ·have B:=G λe j i s=>(h e j i s).keep a4;rw[B];exact⟨i4,i4⟩
end Go.Qw
namespace Go.Qw
open Go Go.Vc Go.Proofs Wl
variable {m:aG} {C:Int->bf} {ds:aJ}
theorem aec:∀n:Fin 10,∀t:Fin 10,gT ((n:Nat):Int) ((t:Nat):Int)<=4096:=j5
theorem KY{n:Nat}{t:Int}(b:n<=9)(a:0<=t)(c:t<n):¬gT (n:Int) t>4096:=by have h:=aec ⟨n,i5⟩ ⟨t.toNat,i5⟩;dsimp only at h;rw[Int.toNat_of_nonneg a]at h;omega
theorem aaT{t:Int}(c:i1 (aN ds m.drives)<=9)(a:0<=t)(b:t<i1 (aN ds m.drives)):(ff m 0 Pow.new ds t).2=0:=by unfold ff;rw[g9 i6,g9 i5,g9 (KY c a b)];split<;>rfl
theorem aaU{live:aD}{t most:Int}(Z:Do m live ds t most)(S:gz m C ds)(q:∀k∈live,∀d,bm ds k=dB d->gB m d.l=eR)(r:∀e∈m.aH,∀i<e.tries.length,ja m live ds t e i):ff m 0 Pow.new ds t=(eR,0):=by
 have u:=Z.tt;have s:=Z.few;have j:=Z.c;unfold ff;rw[g9 i6,<-Z.lv,g9 i5,g9 j];have f:¬m.aH.any (tG m ds t)=eR:=λh=>by
  obtain⟨e,p,h⟩:=zQ.1 h;obtain⟨i,o,h⟩:=zQ.1 h;have g:=rc m ds e.object i live;have b:=r e p i (qG.1 o);unfold ja at b;unfold Ag at h;rw[<-Z.lv,RL S.VJ (by rw[g];omega) (by rw[g];omega) (by rw[g];exact j),b]at h;simp at h
 rw[g9 f];have a:live.filter (md m ds)=live:=zO.2 λk b=>by
  obtain⟨_,d,n,_⟩:=iZ (show k∈aN ds m.drives by rw[<-Z.lv];exact b);unfold md;rw[n];exact q k b d n
 unfold oR;rw[<-Z.lv,a];simp only[Prod.mk.injEq,and_true,decide_eq_true_eq];omega
end Go.Qw
namespace Go.Qw
open Go Go.Vc Go.Proofs Wl
section
variable {B:aC} {h0 h:Heap} {As:List HP} {a pw:Addr} {offs:Int} {da:List aM} {w:Pow} {ds:aJ} {m:aG}
end
section
variable {B:aC} {h0 h:Heap} {As:List HP} {a pw:Addr} {offs:Int} {da:List aM} {w:Pow} {ds:aJ} {m:aG}
end
section
variable {B:aC} {h0 h:Heap} {As:List HP} {a pw:Addr} {offs:Int} {da:List aM} {w:Pow} {ds:aJ}
end
section
end
theorem akC{l:aD}{i:Nat}(a:i<i1 l):((l.take i).map (60+·)++l.drop i).set i (60+l[i])=(l.take (i+1)).map (60+·)++l.drop (i+1):=by rw[List.set_append_right _ _ i9,aK _ _ a,List.map_append,qp];congr 1;rw[show i-i1 ((l.take i).map (60+·))=0 by simp;omega,List.drop_eq_getElem_cons a];rfl
theorem akD{l:aD}{i:Nat}(a:i<i1 l)(h:i<i1 ((l.take i).map (60+·)++l.drop i)):((l.take i).map (60+·)++l.drop i)[i]=l[i]:=by rw[List.getElem_append_right i9];simp[show i+(i-min i l.length)=i by omega]
theorem nc.bW{p:Pm}{b:Mv}(h:nc p b):(b.kind=6->(0<=b.slot/\b.slot<9)/\6<=b.n/\b.n<66)/\(b.kind=11->(0<=b.n/\b.n<40)/\(0<=b.m/\b.m<61)/\0<=b.mask/\b.mask<4294967296):=by unfold nc at h;omega
section
variable {B:aC} {h0 h:Heap} {As:List HP} {a pw:Addr} {offs:Int} {da:List aM} {w:Pow} {ds:aJ} {m:aG}
theorem aed{k:Int}{d:bs}{b:Addr}(i:Int)(g:bm ds k=dB d)(j:gN da k=dB b)(H:aa B h0 h (bC a pw da offs w ds m::As)):
  ac xB 43 #[xt (dB b),xq xx i] h λv h'=>∃r:Sl,v=r/\Sp h h' [an 5 r 1 aF (if 0<=i then d.l.getD i.toNat []else[])]:=by
 obtain⟨s,e,f,c,n⟩:=Ma g j H;exact abY s e i f c n.cell
theorem VY(i:Int)(h:Heap):ac xB 43 #[xt eH,xq xx i] h λv h'=>v=xr eH 0 0/\Sp h h' []:=by refine rF eH i ?_;unfold nA;exact bi (bx (λ_=>⟨i4,Sp.refl h⟩) λe=>j1)
theorem aaV{l:cJ}{i:Int}(h:fx (if 0<=i then l.getD i.toNat []else[])≠eH):∃j:Nat,i=j/\∃b:j<i1 l,fx l[j]≠eH:=by
 have a:fx []=eH:=i6
 by_cases c:0<=i
 ·rw[g0 c]at h;by_cases b:i.toNat<i1 l
  ·rw[fq [] b]at h;exact⟨i.toNat,i5,b,h⟩
  ·rw[qe,qS i5]at h;exact absurd a h
 ·rw[g9 c]at h;exact absurd a h
theorem aaW{k:Int}{d:bs}{b:Addr}(i at_ c:Int)(f:0<=c/\c<2^32)(l:bm ds k=dB d)(n:gN da k=dB b)(H:aa B h0 h (bC a pw da offs w ds m::As)):
  ac xB 44 #[xt (dB b),xq xx i,xq xx at_,xq xz c] h λv h'=>∃z:Bool,v=xv z/\aa B h0 h' (bC a pw da offs w (bQ ds k (d.lN i at_ c)) m::As):=by
 obtain⟨o,A2,j,e⟩:=Jl l n H;refine(aaJ i at_ c f j).mono ?_;rintro _ h' ⟨rfl,g⟩;exact⟨_,i4,e _ _ _ g⟩
end
theorem aee(c0:Sl)(l:aD)(s1:Sl)(l1:aD)(most:Nat)(h:Heap)(hs:Rd h c0 1 av l)(bb:Rd h s1 1 av l1)(a3:most<=100):
  ac xB 7 #[c0,s1,xq xx most] h λv h'=>
   ∃(a pw:Addr) (da:List aM) (ds:aJ) (m:aG) (C:Int->bf),v=xt (dB a)/\Wn (jn l) m C ds/\Sp h h' [bC a pw da 0 Pow.new ds m]:=by
 refine AF c0 s1 most ?_;unfold oF;refine(XI c0 l h hs).mono ?_;rintro _ h1 ⟨r,rfl,R1⟩;refine⟨(jn l,aaG l,r),i4,R1.alloc af i4 λa2 h2 H2=>?_⟩;refine H2.storeAll af 1 i4 i4 [xq xx (jn l).1,xq xx (jn l).2.1,xq xx (jn l).2.2] i4 i4 i4 i4 λh3 H3=>?_;obtain⟨p,O⟩:∃p,p=jn l:=⟨_,rfl⟩
 obtain⟨E,hE⟩:∃E,E=aaG l:=⟨_,rfl⟩
 obtain⟨c,hc⟩:∃c,c=uV l:=⟨_,rfl⟩
 obtain⟨L,hL⟩:∃L,L=FJ l:=⟨_,rfl⟩
 have bl:i1 L=c:=by rw[hL,hc];exact VO l
 have b1:2<=c/\c<=5:=by rw[hc];exact Yx l
 have hp:bO p=eR:=by rw[O];exact acV _ _ _
 have am:p.1<=6/\p.2.2<=9:=by rw[O];unfold jn El;dsimp only;omega
 have b4:=(co p).1 hp;have b7:0<=E/\E<=6:=by rw[hE];unfold aaG;omega
 have ar:∀x∈L,8<=x/\x<=57:=λx hx=>by
  rw[hL]at hx;obtain⟨i,_,rfl⟩:=qu.1 hx;omega
 rw[<-O,<-hE];rw[<-O,<-hL]at H3;have H3:Sp h h3 [an 3 r 1 av ((L.take 0).map (60+·)++L.drop 0),au a2 26 [xq xx p.1,xq xx p.2.1,xq xx p.2.2]]:=H3;have cf:r.len=c:=by rw[<-bl,(H3.own 0 i4).len];rfl
 refine aA (λi:Nat=>(i:Int)) (λi h'=>i<=c/\Sp h h' [an 3 r 1 av ((L.take i).map (60+·)++L.drop i),au a2 26 [xq xx p.1,xq xx p.2.1,xq xx p.2.2]]) (λi=>c-i) 0 i4 ⟨i5,H3⟩ ?_;rintro i h4 ⟨hi,P⟩;dsimp only;refine aj (λe=>?_) λe=>?_
 ·have n:i<i1 L:=i5
  have R:i<i1 ((L.take i).map (60+·)++L.drop i):=i9
  refine(P.seq 0 i4 λ_=>rfl).bG i i4 R L[i] (congrArg av (akD n R)) ?_;have hg:=ar _ (qg n);rw[ak (60+L[i])];refine P.set af 0 i4 (λ_=>rfl) i4 i i4 R (60+L[i]) i4 i4 i4 λh6 H6=>?_;rw[akC n]at H6;exact⟨i+1,j0,⟨i5,H6⟩,i5⟩
 have br:i=i1 L:=i5
 subst br;rw[List.drop_of_length_le i5,qN,qi i5]at P;obtain⟨G,hG⟩:∃G,G=L.map (60+·):=⟨_,rfl⟩
 rw[<-hG]at P;have b3:i1 G=i1 L:=by rw[hG,qy]
 have a8:∀x∈G,1<=x/\x<=512:=by rw[hG];intro x hx;obtain⟨y,hy,rfl⟩:=qu.1 hx;have:=ar y hy;omega
 obtain⟨e0,a4⟩:=aij (extra:=E) hp i5 (show 1<=i1 G/\G.length<=24 by omega) a8;refine bP (λ(t:aM×Int) h'=>∃(a pw:Addr) (da:List aM) (D:aJ),t=(dB a,0)/\D.length=64/\(∀s,bm D s=if s∈bt G G.length then dB ⟨(G.getD s.toNat 0).toNat,bu (cD p E G),0,[],eS,eS⟩else eH)/\
  Sp h h' [bC a pw da 0 Pow.new D (cD p E G),an 3 r 1 av G,au a2 26 [xq xx p.1,xq xx p.2.1,xq xx p.2.2]]) ?_ ?_
 ·refine⟨p,(P.box 1 i4).aV _ i4,(QY h4).mono ?_⟩;rintro _ h6 ⟨pw,rfl,R6⟩;have H6:=P.cm R6;refine⟨_,i4,kP R6.ai ⟨(P.box 1 i4).cell0 i4,(P.box 1 i4).cell i4,(P.box 1 i4).cell i4,trivial⟩,?_⟩;refine(Oq p E r G (As:=[an 3 r 1 av G,au a2 26 [xq xx p.1,xq xx p.2.1,xq xx p.2.2]]) (St.eE 0 i4 λh' J=>J.1.seq (λ_=>rfl) J.2) i5 e0 i4 H6).mono ?_;rintro _ h7 ⟨a,da,D,rfl,f2,f3,H7⟩;exact⟨(dB a,0),i4,trivial,a,pw,da,D,i4,f2,f3,H7⟩
 rintro⟨_,_⟩ h8 ⟨a,pw,da,D,he,f2,f3,H8⟩;injection he with he1 he2
 subst he1 he2;obtain⟨S0,F0,L0⟩:=adM (m:=cD p E G) rfl e0 i5 f2 f3 λ_=>[];have ab:(cD p E G).drives=(qA G.length).map λi:Nat=>(i:Int):=a4;have I0:Wn p (cD p E G) (λ_=>[]) D:=by
  refine⟨S0,?_,λk Z=>?_,i4,λk d w=>by
   rw[f3]at w;split at w
   ·injection w with w;subst w;rfl
   ·cases w⟩
  ·rw[F0.aN,ab];intro h;have h2:i1 G=0:=by have:=congrArg List.length h;rw[qy,zE]at this;exact this
   omega
  ·rw[ab]at Z;obtain⟨i,hi,rfl⟩:=qu.1 Z;have:=qG.1 hi;omega
 refine bi (bY (λe=>absurd i4 e) λ_=>bx (λe=>j1) λ_=>?_);refine⟨p,(H8.box 2 i4).aV _ i4,?_⟩;refine(aaI p s1 l1 most h8 hp (bb.up H8.ai) a3).mono ?_;rintro _ a9 ⟨q,M,rfl,hM,cd,S⟩;obtain⟨rs,S⟩:=S.OZ 0 rfl λ_=>rfl;have F:Sp h a9 [bC a pw da 0 Pow.new D (cD p E G),an 3 r 1 av G,au a2 26 [xq xx p.1,xq xx p.2.1,xq xx p.2.2],cN mH 9 oS q rs M]:=H8.comp S;have F:=F.cK [0,3];refine⟨q,i4,?_⟩;have cn:q.len=i1 M:=by rw[(F.eU 1 i4).1.len,(F.eU 1 i4).2.1]
 refine aA (λi:Nat=>(i:Int)) (λi h'=>i<=i1 M/\∃da ds m C,Wn p m C ds/\Sp h h' [bC a pw da 0 Pow.new ds m,cN mH 9 oS q rs M]) (λi=>i1 M-i) 0 i4 ⟨i5,da,D,_,_,I0,F⟩ ?_;rintro i b5 ⟨hi,da,ds,m,C,I,T⟩;dsimp only;refine aj (λe=>?_) λe=>⟨a,pw,da,ds,m,C,i4,I,T.cK [0]⟩
 have n:i<i1 M:=i5
 have hF:=T.eU 1 i4;have a0:i<i1 rs:=by rw[hF.2.1];exact n
 have next:∀{h':Heap} {K:List aM} {ds':aJ} {X:aG} {C':Int->bf} {ad:List HP},Wn p X C' ds'->Sp h h' (bC a pw K 0 Pow.new ds' X::cN mH 9 oS q rs M::ad)->
   ∃t:Nat,(qc xx ((i:Int)+1):Int)=(t:Int)/\(t<=i1 M/\∃da ds m C,Wn p m C ds/\Sp h h' [bC a pw da 0 Pow.new ds m,cN mH 9 oS q rs M])/\M.length-t<i1 M-i:=λ{h' K ds' X C' ad} U H'=>
  ⟨i+1,j0,⟨i5,K,ds',X,C',U,H'.aX 2 [0,1]|>λz=>aa.Tm (As:=[_,_]) z⟩,i5⟩
 refine hF.1.eC i i4 a0 rs[i] i4 ?_;refine T.alloc af i4 λax cl bk=>?_;refine bk.storeAll af 2 i4 i4 (oS rs[i]) i4 i4 i4 i4 λa7 g=>?_;have g:Sp h a7 [bC a pw da 0 Pow.new ds m,cN mH 9 oS q rs M,au ax 73 (oS rs[i])]:=g;have Q:=g.box 2 i4;obtain⟨⟨k1,k2,k3,k4,k5,k6,kc⟩,kd,_,_⟩:=Fix.row (g.eU 1 rfl) n;have Z:nc p M[i]:=hM _ (qg n);refine⟨rs[i].1,Q.cell0 i4,ck (λY=>?_) λ_=>ck (λY=>?_) λ_=>ck (λY=>?_) λ_=>ck (λY=>?_) λ_=>ck (λY=>?_) λ_=>next I g⟩
 ·obtain⟨n1,n2⟩:=nc.put Z (k1.symm.trans Y);have b6:p.1*p.2.2<=6*9:=Int.mul_le_mul am.1 am.2 i5 i5;refine⟨rs[i].2.1,Q.cell i4,rs[i].2.2.1,Q.cell i4,?_⟩;rw[k2];refine(ahW (As:=[cN mH 9 oS q rs M,au ax 73 (oS rs[i])]) M[i].name rs[i].2.2.1 M[i].data (St.eE (A:=cN mH 9 oS q rs M) 0 i4 λh' J=>(Fix.row J n).2.1) kc (by have:=afX _ n1;omega) I.sto.may i5 g).mono ?_;rintro _ o ⟨rfl,f⟩;obtain⟨e,X,C',ds',J,U⟩:=I.put M[i].name M[i].data;rw[J]at f;exact⟨_,i4,next U f⟩
 ·refine⟨rs[i].2.1,Q.cell i4,(aaF rs[i].2.1 I.sto.may g).mono ?_⟩;rintro _ o ⟨rfl,f⟩;obtain⟨e,X,ds',J,U⟩:=I.del rs[i].2.1;rw[J]at f;exact⟨_,i4,next U f⟩
 ·obtain⟨t1,t2,t3⟩:=(nc.bW Z).2 (k1.symm.trans Y);refine⟨rs[i].2.2.2.1,Q.cell i4,(Cu rs[i].2.2.2.1 g).mono ?_⟩;rintro _ _ ⟨rfl,rfl⟩;refine⟨_,i4,rs[i].2.2.2.2.1,Q.cell i4,?_⟩;cases w:bm ds rs[i].2.2.2.1 with
  |none=>
   rw[acW w g];refine(VY _ _).mono ?_;rintro _ o ⟨rfl,u⟩;have f:=g.up u.ai;refine⟨⟨eH,0,0⟩,i4,(Fo ⟨eH,0,0⟩ [] o (Seq.nil _ _ _ _ _ _) jj (qm _)).mono ?_⟩;rintro _ ao ⟨c1,_⟩;obtain⟨rfl,H⟩:=c1 i6;exact⟨(0,⟨eH,0,0⟩,eS),i4,bx (λh=>j9) λ_=>next I (f.up H.ai)⟩
  |some d=>
   obtain⟨b,W⟩:=JW w g;rw[W];refine(aed rs[i].2.2.2.2.1 w W g).mono ?_;rintro _ o ⟨ah,rfl,u⟩;have f:=g.cm u;have a5:=(I.sto.cells _ _ w)
   obtain⟨cc,V⟩:∃cc,cc=(if 0<=rs[i].2.2.2.2.1 then d.l.getD rs[i].2.2.2.2.1.toNat []else[]):=⟨_,rfl⟩
   rw[<-V]at u f;have b0:i1 cc<=64:=by
    have ay:=((mQ g).2 _ _ w).2.2.cell;rw[V];split
    ·by_cases hj:rs[i].2.2.2.2.1.toNat<i1 d.l
     ·rw[fq [] hj,ay _ (qg hj)];exact qm _
     ·rw[qe,qS i5];exact zy _
    ·exact zy _
   refine⟨ah,i4,(Fo ah cc o (f.seq 0 i4 λ_=>rfl) i5 (f.own 0 i4).cap).mono ?_⟩;rintro _ ao ⟨c1,c2⟩;cases ht:fx cc with
   |none=>
    obtain⟨rfl,H⟩:=c1 ht;exact⟨(0,⟨eH,0,0⟩,eS),i4,bx (λh=>j9) λ_=>next I (f.up H.ai).rest⟩
   |some kx=>
    obtain⟨bd,rfl,H⟩:=c2 kx.1 kx.2 ht;have N:=(f.up H.ai).rest;have B:=N.box 2 i4;obtain⟨j,a6,a1,bq⟩:=aaV (l:=d.l) (i:=rs[i].2.2.2.2.1) (by rw[<-V,ht];exactλh=>j9);refine⟨(kx.1,bd,eR),i4,bx (λ_=>?_) λh=>j9⟩;refine⟨rs[i].2.2.2.2.1,B.cell i4,rs[i].2.2.2.2.2.1,B.cell i4,rs[i].2.2.2.2.2.2.1,B.cell i4,(aaW _ _ _ (by rw[k6];exact t3) w W N).mono ?_⟩;rintro _ b9 ⟨z,rfl,ap⟩;rw[a6]at ap;exact⟨_,i4,next (I.lN w a1 bq (by rw[k5];omega)) ap⟩
 ·obtain⟨t1,t2,t3⟩:=(nc.bW Z).1 (k1.symm.trans Y);refine⟨rs[i].2.2.2.1,Q.cell i4,rs[i].2.2.2.2.1,Q.cell i4,?_⟩;refine(ahX rs[i].2.2.2.1 (qc xx (rs[i].2.2.2.2.1+40)) I.sto.may g).mono ?_;rintro _ o ⟨rfl,K,f⟩;obtain⟨e,X,ds',J,U⟩:=I.add (slot:=rs[i].2.2.2.1) (by rw[k3];exact t1) (qc xx (rs[i].2.2.2.2.1+40));rw[J]at f;exact⟨_,i4,next U f⟩
 ·refine(Bl I.sto.may g).mono ?_;rintro _ o ⟨lv,rfl,u⟩;have b2:=(u.own 0 i4).len;have f:=g.up u.ai;refine⟨lv,i4,aj (λe2=>?_) λe2=>next I f⟩;refine⟨rs[i].2.2.2.1,(f.box 2 i4).cell i4,(aga rs[i].2.2.2.1 I.sto.may f).mono ?_⟩;rintro _ ao ⟨rfl,N⟩;exact⟨_,i4,next (I.EB _ i5) N⟩
section
variable {B:aC} {h0 h:Heap} {As:List HP} {a pw:Addr} {offs:Int} {da:List aM} {w:Pow} {ds:aJ} {m:aG}
theorem Ql(d:m.aH=[])(i:dO w offs=eS)(H:aa B h0 h (bC a pw da offs w ds m::As)):
  ac xB 38 #[xt (dB a)] h λv h'=>v=xr eH 0 0/\Sp h h' []:=by
 refine EV (dB a) ?_;unfold um;obtain⟨x,H⟩:=gg H;refine(Cq H).mono ?_;rintro _ c ⟨rfl,rfl⟩;refine⟨_,i4,bx (λe=>by rw[i]at e;cases e) λ_=>?_⟩;obtain⟨_,j⟩:=aa.cY H;have g:dn c x m:=H.at 1 i4;have b:=bK.len g.aH;rw[d]at b;refine⟨a,i4,x.2.2.2.2.2.2.2,j.cell i4,?_⟩;refine aA (λ_:Unit=>((⟨eH,0,0⟩:Sl),(0:Int))) (λ_ h'=>h'=c) (λ_=>0) () i4 i4 ?_;rintro _ f rfl;refine aj (λe=>?_) λe=>⟨i4,Sp.refl f⟩
 exfalso;have:x.2.2.2.2.2.2.2.len=0:=b;omega
theorem ON(i:m.aH=[])(d:dO w offs=eS)(H:aa B h0 h (bC a pw da offs w ds m::As)):
  ac xB 59 #[xt (dB a)] h λv h'=>v=xr eH 0 0/\Sp h h' []:=by
 refine MX (dB a) ?_;unfold Gd;refine(Sp.refl h).boxed λc k b=>⟨dB a,(b.box 0 i4).cell0 i4,(Jn (H.up b.ai)).mono ?_⟩
 rintro _ n ⟨rfl,rfl⟩;refine⟨_,i4,bx (λe=>by rw[d]at e;cases e) λ_=>⟨dB a,(b.box 0 rfl).cell0 rfl,(Ql i d (H.up b.ai)).mono ?_⟩⟩;rintro _ h3 ⟨rfl,j⟩;refine⟨⟨eH,0,0⟩,i4,?_⟩;refine(nV ⟨eH,0,0⟩ (124,#[],#[xt (dB c)]) (R:=λv h'=>v=xr eH 0 0/\Sp h3 h' []) ?_).mono ?_
 ·unfold jV;refine(ou ⟨eH,0,0⟩ (124,#[],#[xt (dB c)]) (R:=λv h'=>v=xq xx (-1)/\h'=h3) ?_).mono ?_
  ·unfold ku;refine aA (λ_:Unit=>(0:Int)) (λ_ h'=>h'=h3) (λ_=>0) () i4 i4 ?_;rintro _ f rfl;exact aj (λe=>absurd e i6) λe=>⟨i4,i4⟩
  ·rintro _ f ⟨rfl,rfl⟩;exact⟨-1,i4,ck (λ_=>⟨i4,Sp.refl f⟩) λe=>absurd i4 e⟩
 ·rintro _ l ⟨rfl,g⟩;exact⟨⟨eH,0,0⟩,i4,i4,.zip (((b.up j.ai).up g.ai).ai)⟩
theorem XO{p:Pm}{E:Int}{c:Nat}{x:Int}{D:aJ}(F:Kb p E c x m D):oR m D=c:=by
 unfold oR;rw[F.live,zO.2 λk a=>?_]
 ·rw[F.dr,qy,zE]
 ·unfold md;rw[F.at_,g0 a];show gB m (bu m)=eR;unfold gB;rw[F.may,z8];exact qZ.2 λd b=>hU b
theorem VZ(h:Heap):ac xB 18 #[] h λv h'=>v=xv eR/\Sp h h' []:=by
 refine xN ?_;unfold oh;refine(QY h).mono ?_;rintro _ t ⟨pw,rfl,n⟩;refine⟨_,i4,n.lit af av gM i4 [5] i4 (show 1*1<=2^20 by decide) i4 λd z r=>?_⟩;have l:bO (1,1,1)=eR:=i6
 refine(Oq (1,1,1) 0 d [5] (As:=[an 3 d 1 av [5]]) (St.eE 0 i4 λh' g=>g.1.seq (λ_=>rfl) g.2) i6 (adN l i6 1 5 i6 i6) i4 r).mono ?_;rintro _ h3 ⟨a,da,D,rfl,j,f,b⟩;have F:=afZ (c:=1) (x:=5) l i6 i6 i6 j f;obtain⟨m,i⟩:∃m,m=cD (1,1,1) 0 (List.replicate 1 5):=⟨_,rfl⟩
 rw[<-i]at F;have b:Sp h h3 [bC a pw da 0 Pow.new D m,an 3 d 1 av [5]]:=by rw[i];exact b
 refine⟨(dB a,0),i4,(xV 0 F.may i6 b).mono ?_⟩;have o:ff m 0 Pow.new D 0=(eR,0):=by obtain⟨u,j,f⟩:=pd (m:=m) (offs:=0) (w:=Pow.new) (ds:=D) (by rw[F.live,F.dr];decide);have s:=XJ (offs:=0) (w:=Pow.new) (N:=1) F.aH.1 i4 (by rw[F.live,F.dr];decide) (XO F) (by rw[F.live,F.dr];decide);exact f 0 (by rw[s];decide)
 rintro _ A ⟨rfl,q⟩;rw[o];have k:=b.up q.ai;refine⟨(eR,0),i4,ck (λ_=>ck (λ_=>bx (λ_=>(ON F.aH.1 i4 k).mono ?_) λe=>j1) λe=>absurd i4 e) λe=>absurd i4 e⟩;rintro _ y ⟨rfl,p⟩;exact⟨⟨eH,0,0⟩,i4,i4,.zip (k.up p.ai).ai⟩
end
theorem Qm(G:Sl)(l:aD)(K:Sl)(l1:aD)(t most:Int)(h:Heap)(S:Rd h G 1 av l)(ao:Rd h K 1 av l1):
  ac xB 4 #[G,K,xq xx t,xq xx most] h λv h'=>v=xv eR/\Sp h h' []:=by
 refine sq G K t most ?_;unfold mh;refine(aee G l K l1 8 h S ao i6).mono ?_;rintro _ H ⟨a,pw,da,ds,m,C,rfl,W,H1⟩;have x:=W.sto.may;refine⟨dB a,i4,bx (λe=>j1) λ_=>(Bl x H1).mono ?_⟩;rintro _ h2 ⟨lv,rfl,R2⟩;have D:=(R2.own 0 i4).len;have H2:=H1.up R2.ai;obtain⟨live,c⟩:∃live,live=aN ds m.drives:=⟨_,rfl⟩
 obtain⟨n,r⟩:∃n,n=i1 live:=⟨_,rfl⟩
 have a8:1<=n:=by rw[r,c];exact List.length_pos_iff.2 W.live
 have ar:n<=9:=by rw[r,c];exact W.few
 rw[<-c,<-r]at D;obtain⟨N,hN⟩:∃N:Int,N=(if(4:Int)<(lv.len:Int)then(4:Int)else(lv.len:Int)):=⟨_,rfl⟩
 have a5:1<=N/\N<=4/\N<=n:=by rw[hN];split<;>omega
 refine⟨lv,i4,?_⟩;dsimp only;rw[<-hN];refine(ci t N h2 i5 i5).mono ?_;rintro _ _ ⟨rfl,rfl⟩;have q0:=Int.emod_nonneg t (show N≠0 by omega);have q1:=Int.emod_lt_of_pos t (show 0<N by omega);obtain⟨T,hT⟩:∃T:Int,T=t%N:=⟨_,rfl⟩
 rw[<-hT]at q0 q1⊢;refine⟨T,i4,?_⟩;refine bP (λ(_:Unit) h'=>∃ds',aN ds' m.drives=live/\Sp h h' [bC a pw da 0 Pow.new ds' m]) ?_ ?_
 ·refine(ci most 65 _ i6 i6).mono ?_;rintro _ _ ⟨rfl,rfl⟩;obtain⟨M,hM⟩:∃M:Int,M=most%65:=⟨_,rfl⟩
  have ab:0<=M/\M<=64:=by rw[hM];omega
  rw[<-hM];have Z:Do m live ds T M:=⟨c,i5,i5,KY i5 q0 i5,ab,λs S=>lx x s (iZ (by rw[<-c];exact S)).1⟩
  have E:=λk d u=>((mQ H2).2 k d u)
  obtain⟨a1,_,a3,a4,_,a6,_⟩:=aaS Z W.sto (λk d u=>⟨(E k d u).1,(E k d u).2.1⟩) W.wt;refine⟨M,i4,(aaD T M x i5 H2).mono ?_⟩;obtain⟨R,hR⟩:∃R,R=iA m 0 Pow.new ds T M:=⟨_,rfl⟩
  rw[<-hR]at a1 a3 a4 a6⊢;rintro _ h5 ⟨rfl,L⟩;rw[a1]at L;have g:aN R.2.2.2 m.drives=live:=by rw[a3.live,c]
  refine⟨((R.1:Int),R.2.1),i4,ck (λe=>?_) λ_=>⟨R.2.2.2,g,L⟩⟩;obtain⟨Q,o⟩:=a6 e;have hh:=aaU (Z.next a3) a4 (λk O d u=>(Q.tidy k O d u).whole) o;refine(xV T x i5 L).mono ?_;rw[hh];rintro _ h6 ⟨rfl,X⟩;exact⟨(eR,0),i4,bo (λe=>j1) λ_=>bY (λe=>absurd i4 e) λ_=>⟨R.2.2.2,g,L.up X.ai⟩⟩
 rintro _ h7 ⟨ds',f,H7⟩;have Y:i1 (aN ds' m.drives)<=9:=by rw[f,<-r];exact ar
 obtain⟨F,hF⟩:∃F,F=kw m 0 Pow.new ds':=⟨_,rfl⟩
 obtain⟨f1,f2,P⟩:=pd (m:=m) (offs:=0) (w:=Pow.new) (ds:=ds') i5;rw[<-hF]at f1 f2 P;have ay:F<=n:=by refine Nat.le_of_not_lt λax=>?_;have H:=P n ax;unfold ff at H;rw[g9 i6,g0 (by rw[f,<-r];omega)]at H;cases H
 have hz:∀k:Nat,k<n->(ff m 0 Pow.new ds' (k:Int)).2=0:=λk O=>aaT Y i5 (by rw[f,<-r];omega);refine bP (λ(z:Bool×Int) h'=>(z=(eR,(n:Int))/\F=n∨z=(eS,(F:Int)+1))/\Sp h h' [bC a pw da 0 Pow.new ds' m]) ?_ ?_
 ·refine aA (λz:Bool×Nat=>(z.1,(z.2:Int))) (λz h'=>z.2<=n/\(z.1=eR->z.2<=F)/\(z.1=eS->F+1=z.2)/\Sp h h' [bC a pw da 0 Pow.new ds' m]) (λz=>n-z.2) (eR,0) i4 ⟨zy _,λ_=>zy _,λe=>j1,H7⟩ ?_;rintro⟨b,k⟩ h8 ⟨O,q,p,I⟩;dsimp only at O q p⊢;refine bi (aj (λe=>bx (λi=>?_) λi=>?_) λe=>?_)
  ·have U:k<n:=i5
   have a7:=q i;refine(xV (k:Int) x i5 I).mono ?_;rintro _ h9 ⟨rfl,R9⟩;have H9:=I.up R9.ai;have A:=hz k U;refine⟨((ff m 0 Pow.new ds' (k:Int)).1,(ff m 0 Pow.new ds' (k:Int)).2),i4,bY (λe=>absurd A e) λ_=>?_⟩;refine⟨((ff m 0 Pow.new ds' (k:Int)).1,k+1),js,⟨i5,λJ=>?_,λJ=>?_,H9⟩,i7⟩
   ·have a2:k≠F:=λh=>f2 (by rw[<-h];exact Prod.ext J A);dsimp only;omega
   ·have a0:¬k<F:=λh=>by
     have h4:=P k h;rw[h4]at J;cases J
    dsimp only;omega
  ·refine⟨.inr ?_,I⟩;have:=p i;rw[i,<-this];rfl
  ·have ah:k=n:=i5
   refine⟨?_,I⟩;cases b with
   |true=>exact .inl ⟨by rw[ah],by have:=q i4;omega⟩
   |false=>
    have:=p i4;exact .inr (by rw[<-this];rfl)
 rintro⟨b,kz⟩ am ⟨ap,y⟩;refine bP (λ(z:Int) h'=>z=(F:Int)+1/\am=h') ?_ ?_
 ·rcases ap with⟨e,hFe⟩|e
  ·injection e with e1 i
   subst e1 i;exact bx (λ_=>⟨by rw[ak _,hFe],i4⟩) λe=>j1
  ·injection e with e1 i
   subst e1 i;exact bx (λe=>j1) λ_=>⟨i4,i4⟩
 rintro _ _ ⟨rfl,rfl⟩;refine(VK x y).mono ?_;rintro _ B ⟨rfl,V⟩;have j:ae xB 18 #[] bN B λr6 h6=>(λv ad=>v=Value.bool eR/\Sp h ad []) (Value.bool r6) h6:=by refine(VZ B).mono ?_;rintro _ h6 ⟨rfl,X⟩;exact⟨eR,i4,i4,.zip ((y.up V.ai).up X.ai).ai⟩
 have hw:nP m 0 Pow.new ds'=if F=0 then(0,5)else((F:Int)-1,0):=by unfold nP;rw[g9 i6,<-hF]
 rw[hw];by_cases h0:F=0
 ·rw[g0 h0,h0];exact⟨(0,5),i4,ck (λ_=>ck (λ_=>ck (λ_=>j) λe=>absurd i4 e) λe=>absurd i4 e) λe=>absurd i4 e⟩
 ·rw[g9 h0];refine⟨((F:Int)-1,0),i4,ck (λe=>absurd e i5) λ_=>ck (λ_=>ck (λ_=>j) λe=>absurd ?_ e) λe=>absurd i4 e⟩;dsimp only;rw[ak _];omega
theorem Jv(s:Sl)(l:aD)(c:Sl)(l1:aD)(t most:Int)(h:Heap)(d:Rd h s 1 av l)(a:Rd h c 1 av l1):
  ac xB 4 #[s,c,xq xx t,xq xx most] h λv h'=>v=xv eR/\bc (λb=>b<h.size) h h':=
 (Qm s l c l1 t most h d a).mono λ_ _ q=>⟨q.1,q.2.ai⟩
end Go.Qw
