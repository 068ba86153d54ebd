/- Lemmas for the proof of the law; no condition. -/
import Derived.Test.YtdibhfbogjngkaaGreatDoorKD
import Derived.Lib.BufferWrite
import Derived.Lib.UnsafeStr
set_option linter.unusedVariables false
set_option maxHeartbeats 2000000
set_option linter.unusedSimpArgs false
open Go.Proofs.Tryz renaming prog -> xB
open BitVec renaming eq_of_toNat_eq -> wC, getLsbD_and -> xf, ofNat -> wE, toNat -> xn, toNat_ushiftRight -> y5, xor_assoc -> wA, xor_self -> yV, xor_zero -> vX, zero_xor -> vY
open Nat renaming shiftRight_eq_div_pow -> yR
open List renaming filter_congr -> yZ, mem_append_right -> wV, pairwise_lt_range -> yF, range -> qy
open Int renaming fdiv -> qX
open Prod renaming fst -> qH
open Go.Value renaming bool -> xv, int -> xq, pointer -> xt, slice -> xr
open Go.IntKind renaming i64 -> xx, u32 -> xz, wrap -> qc
set_option maxRecDepth 100000
open Option renaming some -> dB, none -> eH
open Bool renaming true -> eL, false -> eR
open List renaming length -> ii
namespace Wl
open Go
theorem Ji(a:jO):a&&&1#32=0#32∨a&&&1#32=1#32:=by
 have h:((a&&&1#32).toNat)=a.toNat%2:=by rw[BitVec.toNat_and];exact Nat.and_one_is_mod _
 rcases Nat.mod_two_eq_zero_or_one a.toNat with e|e
 ·left;apply wC;rw[h,e];rfl
 ·right;apply wC;rw[h,e];rfl
theorem jZ{a:jO}(h:a&&&1#32=0#32):kj a=a>>>1:=by unfold kj;rw[g0 (by rw[h];decide)]
theorem mF{a:jO}(h:a&&&1#32=1#32):kj a=(a>>>1)^^^3988292384#32:=by unfold kj;rw[f9 h]
theorem VK(a b c:jO):a^^^b^^^c=a^^^c^^^b:=by rw[wA,BitVec.xor_comm b c,<-wA]
theorem aax(a b:jO):kj (a^^^b)=kj a^^^kj b:=by
 have e:(a^^^b)&&&1#32=(a&&&1#32)^^^(b&&&1#32):=by apply BitVec.eq_of_getLsbD_eq;intro i _;rw[xf,BitVec.getLsbD_xor,BitVec.getLsbD_xor,xf,xf,Bool.and_xor_distrib_right]
 have s:(a^^^b)>>>1=(a>>>1)^^^(b>>>1):=BitVec.ushiftRight_xor_distrib a b 1;rcases Ji a with ha|ha<;>rcases Ji b with hb|hb
 ·rw[jZ ha,jZ hb,jZ o0,s]
 ·rw[jZ ha,mF hb,mF o0,s,wA]
 ·rw[mF ha,jZ hb,mF o0,s,VK]
 ·rw[mF ha,mF hb,jZ o0,s,<-wA,VK _ 3988292384#32,wA _ 3988292384#32 3988292384#32,yV,vX]
theorem Xy{a:jO}(h:kj a=0#32):a=0#32:=by
 rcases Ji a with ha|ha
 ·rw[jZ ha]at h;apply wC;have c:=congrArg xn h;have b:=congrArg xn ha;rw[y5,yR]at c;have h3:(a&&&1#32).toNat=a.toNat%2:=by rw[BitVec.toNat_and];exact Nat.and_one_is_mod _
  rw[h3]at b;simp at c b⊢;omega
 ·rw[mF ha]at h;exfalso;have c:a>>>1=3988292384#32:=by have:=congrArg (λz=>z^^^3988292384#32) h;simp only[wA,yV,vX,vY]at this;exact this
  have b:=congrArg xn c;rw[y5,yR]at b;have:=a.isLt;simp at b;omega
theorem oS:∀(n:Nat) (a b:jO),ez n (a^^^b)=ez n a^^^ez n b
 |0,_,_=>rfl
 |n+1,a,b=>by unfold ez;rw[oS n,aax]
theorem Jj:∀(n:Nat) {a:jO},ez n a=0#32->a=0#32
 |0,_,h=>h
 |n+1,_,h=>Jj n (Xy h)
theorem afN{a b:jO}(h:a^^^b=0#32):a=b:=by have:=congrArg (λz=>z^^^b) h;simp only[wA,yV,vX,vY]at this;exact this
theorem KS{n:Nat}{a b:jO}(h:ez n a=ez n b):a=b:=
 afN (Jj n (by rw[oS,h,yV]))
theorem tW:∀(m n:Nat) (a:jO),ez (m+n) a=ez m (ez n a)
 |0,n,a=>by rw[Nat.zero_add];rfl
 |m+1,n,a=>by rw[show m+1+n=(m+n)+1 by omega];show kj (ez (m+n) a)=kj (ez m (ez n a));rw[tW m n a]
theorem OD:∀(n x:Nat),x<2^(32-n)->n<=32->ez n (wE 32 (x*2^n))=wE 32 x
 |0,x,_,_=>by rw[Nat.pow_zero,z6];rfl
 |n+1,x,h,hn=>by
  have b:x*2<2^(32-n):=by
   have:2^(32-n)=2^(32-(n+1))*2:=by rw[<-Nat.pow_succ];congr 1;omega
   omega
  show kj (ez n (wE 32 (x*2^(n+1))))=_;rw[show x*2^(n+1)=x*2*2^n by rw[Nat.pow_succ,Nat.mul_assoc,vI 2],OD n (x*2) b i4];have a:x*2<2^32:=qW b (Nat.pow_le_pow_right i5 i4);rw[jZ]
  ·apply wC;rw[y5,wK,wK,wc a,wc i4,yR];omega
  ·apply wC;rw[BitVec.toNat_and,wK,wc a];show(x*2)&&&1=0;rw[Nat.and_one_is_mod];omega
def VL(a b c d:UInt8):jO:=wE 32 (a.toNat*2^0)^^^wE 32 (b.toNat*2^8)^^^wE 32 (c.toNat*2^16)^^^wE 32 (d.toNat*2^24)
theorem afO(s:jO)(a b c d:UInt8):mP (mP (mP (mP s a) b) c) d=ez 32 (s^^^VL a b c d):=by
 have k:=a.toNat_lt;have j:=b.toNat_lt;have i:=c.toNat_lt;have g:=d.toNat_lt;have e:∀(n:Nat) (x:UInt8),n<=24->wE 32 x.toNat=ez n (wE 32 (x.toNat*2^n)):=λn x h=>by
  have f:=x.toNat_lt;refine(OD n x.toNat ?_ i4).symm;exact qW (show x.toNat<2^8 from f) (Nat.pow_le_pow_right i5 i4)
 unfold mP VL;rw[e 8 b i5,<-oS,<-tW,e 16 c i5,<-oS,<-tW,e 24 d i5,<-oS,<-tW];simp only[Nat.pow_zero,z6,wA]
theorem Qb(a b c d:UInt8):(VL a b c d).toNat=a.toNat+b.toNat*256+c.toNat*65536+d.toNat*16777216:=by
 have o:=a.toNat_lt;have n:=b.toNat_lt;have m:=c.toNat_lt;have l:=d.toNat_lt;have e:∀(k x y:Nat),x<2^k->x^^^(y*2^k)=x+y*2^k:=λk x y g=>by
  rw[vI y];have j:=Nat.two_pow_add_eq_or_of_lt g y;have h:x^^^(2^k*y)=(2^k*y)|||x:=by
   apply Nat.eq_of_testBit_eq;intro i;rw[Nat.testBit_xor,Nat.testBit_or,Nat.testBit_two_pow_mul];by_cases f:k<=i
   ·have:x.testBit i=eR:=Nat.testBit_lt_two_pow (qW g (Nat.pow_le_pow_right i5 f));simp[this]
   ·simp[f]
  rw[h,<-j];omega
 unfold VL;rw[BitVec.toNat_xor,BitVec.toNat_xor,BitVec.toNat_xor,wK,wK,wK,wK];rw[wc i4,wc i4,wc i4,wc i4];rw[Nat.pow_zero,z6,e 8 _ _ i4,e 16 _ _ i4,e 24 _ _ i4]
theorem ahU{a b c d i f e g:UInt8}(h:VL a b c d=VL i f e g):a=i/\b=f/\c=e/\d=g:=by have j:=congrArg xn h;rw[Qb,Qb]at j;have:=a.toNat_lt;have:=b.toNat_lt;have:=c.toNat_lt;have:=d.toNat_lt;have:=i.toNat_lt;have:=f.toNat_lt;have:=e.toNat_lt;have:=g.toNat_lt;refine⟨wL.1 ?_,wL.1 ?_,wL.1 ?_,wL.1 ?_⟩<;>omega
theorem VM:∀{q:bf} {s t:jO},q.foldl mP s=q.foldl mP t->s=t
 |[],_,_,h=>h
 |x::q,s,t,h=>by
  have:=KS (VM (q:=q) h);have:=congrArg (λz=>z^^^wE 32 x.toNat) this;simp only[wA,yV,vX]at this;exact this
theorem adA{p q:bf}{a b c d i f e g:UInt8}(h:lG (p++([a,b,c,d]++q))=lG (p++([i,f,e,g]++q))):[a,b,c,d]=[i,f,e,g]:=by unfold lG at h;rw[zN,zN,zN,zN]at h;have h:=VM h;simp only[zB,wu]at h;rw[afO,afO]at h;have h:=KS h;have h:=congrArg (λz=>List.foldl mP 4294967295#32 p^^^z) h;simp only[<-wA,yV,vY]at h;obtain⟨rfl,rfl,rfl,rfl⟩:=ahU h;rfl
theorem ahV(s:jO):∃a b c d,lO s=[a,b,c,d]/\VL a b c d=s:=by
 refine⟨_,_,_,_,i0,?_⟩;apply wC;rw[Qb];have m:=s.isLt;have e:∀n:Int,((b8 n).toNat:Int)=n%256:=λn=>by have:=ri n;omega
 have f:∀k:Nat,qX (s.toNat:Int) (2^(8*k))=((s.toNat/2^(8*k):Nat):Int):=λk=>by
  rw[Int.fdiv_eq_ediv_of_nonneg _ (by exact_mod_cast zt _)];norm_cast
 have g:∀k:Nat,(b8 (qX (s.toNat:Int) (2^(8*k)))).toNat=s.toNat/2^(8*k)%256:=λk=>by
  have:=e (qX (s.toNat:Int) (2^(8*k)));rw[f k]at this;rw[f k];omega
 have l:=g 0;have i:=g 1;have h:=g 2;have j:=g 3;simp only[Nat.mul_zero,z6,Nat.pow_zero,Nat.div_one,Nat.reduceMul,Nat.reducePow]at l i h j;simp only[Nat.mul_zero,z6,Nat.reduceMul];rw[l,i,h,j];omega
theorem ahW(x:bf):lG (x++lO (mI x))=ez 32 4294967295#32:=by obtain⟨a,b,c,d,f,e⟩:=ahV (mI x);rw[f];unfold lG;rw[zN];simp only[zB,wu];rw[afO,e];unfold mI lG;congr 1;rw[BitVec.xor_comm 4294967295#32,<-wA,yV,vY]
theorem Rs{c:bf}{k:Int}{x:bf}(h:fz c=dB (k,x)):ii c=64/\c=c.take 59++(lO (mI (c.take 59))++[165]):=by
 unfold fz at h;split at h
 ·rename_i d;obtain⟨b,a⟩:=d;refine⟨b,?_⟩;unfold dX at a;split at a
  ·rename_i f;have g:=Ap (kind:=((c.getD 3 0).toNat:Int)) f.2.2;have e:c.take 59=dT ((c.getD 3 0).toNat:Int) ((c.drop 4).take 55):=by
    conv=>lhs;rw[<-a]
    rw[qp,wj i4,qi i4]
   rw[e];rw[<-qp];exact a.symm
  ·rw[<-a]at b;simp at b
 ·cases h
theorem adB{l:bf}{p:Nat}(h:p+4<=ii l)(a:Int):∃u v,ii u=4/\v.length=4/\l=l.take p++(u++l.drop (p+4))/\fB l p a 4=l.take p++(v++l.drop (p+4)):=by
 have b:∀k,k<=4->(fB l p a k).take p=l.take p/\(fB l p a k).drop (p+4)=l.drop (p+4):=by
  intro k
  induction k with
  |zero=>exactλ_=>⟨i0,i0⟩
  |succ k ih=>
   intro j;obtain⟨g,e⟩:=ih i4;unfold fB;rw[List.take_set_of_le i4,List.drop_set_of_lt i4];exact⟨g,e⟩
 have c:∀m:bf,ii m=ii l->m=m.take p++((m.drop p).take 4++m.drop (p+4)):=λm n=>by
  rw[<-List.drop_drop,qE,qE]
 obtain⟨i,f⟩:=b 4 (qm _);have d:=Ct l p a 4;refine⟨(l.drop p).take 4,((fB l p a 4).drop p).take 4,i7,by simp[d];omega,c l i0,?_⟩;rw[<-i,<-f];exact c _ d
theorem aay{c:bf}{k:Int}{x:bf}(h:fz c=dB (k,x)){a b:Int}(G:0<=a/\a<=60)(e:Cr c a b≠c):fz (Cr c a b)=eH:=by
 obtain⟨F,o⟩:=Rs h;cases hb:fz (Cr c a b)with
 |none=>rfl
 |some y=>
  exfalso;obtain⟨m,d⟩:=Rs (k:=y.1) (x:=y.2) hb;obtain⟨j,B⟩:∃j,j=Cr c a b:=⟨_,rfl⟩
  rw[<-B]at m d e;by_cases i:j.take 59=c.take 59
  ·apply e;rw[o,d,i,<-o]
  ·obtain⟨p,rfl⟩:∃p:Nat,a=p:=⟨a.toNat,i4⟩
   obtain⟨u,v,t,q,r,g⟩:=adB (l:=c) (p:=p) i4 b;have g:j=c.take p++(v++c.drop (p+4)):=by rw[B];unfold Cr;rw[ql];exact g
   have H:p<=59:=by refine Decidable.byContradiction λI=>i ?_;rw[g,wj i7,List.take_take,Nat.min_eq_left i4]
   have D:∀z:bf,z=z.take 59++(lO (mI (z.take 59))++[165])->ii z=64->lG (z.take 63)=ez 32 4294967295#32:=λz n E=>by
    have:z.take 63=z.take 59++lO (mI (z.take 59)):=by
     conv=>lhs;rw[n]
     rw[<-qp,wj (by simp[Ev];omega),qi (by simp[Ev];omega)]
    rw[this,ahW]
   have w:∀z:bf,ii z=4->(c.take p++(z++c.drop (p+4))).take 63=c.take p++(z++(c.drop (p+4)).take (59-p)):=λz n=>by
    have f:ii (c.take p)=p:=i7
    generalize c.take p=P at f⊢;rw[List.take_append,qi i4,List.take_append,qi i4,f,n];congr 3;omega
   have s:=D c o F;have A:=D j d m;rw[g,w v q]at A;rw[r,w u t]at s
   match u,v,t,q with
   |[u0,u1,u2,u3],[v0,v1,v2,v3],_,_=>
    have:=adA (s.trans A.symm);apply e;rw[g,<-this,<-r]
end Wl
namespace Go.Qw
open Go Go.Vc Go.Proofs Wl
theorem afP{m:aG}{C:Int->bf}{c:bf}(h:fz c=eH):dM m C c:=by
 have d:eC c=eH:=by unfold eC;rw[h]
 have e:uA c=eH:=by unfold uA;rw[h]
 exact⟨λr a=>(by rw[d]at a;cases a),λr a _=>(by rw[d]at a;cases a),λg b=>(by rw[e]at b;cases b)⟩
theorem gA.aaz{m:aG}{C:Int->bf}{ds:aJ}(S:gA m C ds){k:Int}{b d:bt}(f:bh ds k=dB b)(g:∀c∈d.l,dM m C c):gA m C (bQ ds k d):=
 ⟨S.may,by rw[Bc];exact S.len,λj e a=>by
  rw[iv S.len f]at a;split at a
  ·injection a with a;subst a;exact g
  ·exact S.cells j e a,S.ents⟩
theorem adC{ds:aJ}{k:Int}{b d:bt}(a:ii ds=64)(c:bh ds k=dB b)(f:d.lost=b.lost)(l:aC):aT (bQ ds k d) l=aT ds l:=by
 unfold aT;refine yZ λx _=>?_;unfold isLive;rw[iv a c];by_cases e:x=k
 ·subst e;rw[f9 i0,c];simp only[f]
 ·rw[g0 e]
theorem aaA{d:bt}{j a b:Int}:(d.lK j a b).lost=d.lost/\(d.lK j a b).l.length=ii d.l:=by
 unfold bt.lK;split
 ·exact⟨i0,i9⟩
 ·exact⟨i0,i0⟩
theorem Xz{m:aG}{C:Int->bf}{d:bt}(f:∀c∈d.l,dM m C c){j:Nat}(g:j<ii d.l)(i:fz d.l[j]≠eH){a b:Int}(n:0<=a/\a<=60):∀c∈(d.lK j a b).l,dM m C c:=λc h=>by
 unfold bt.lK at h;split at h
 ·have h:c∈d.l.set ((j:Int)).toNat (Cr (d.l.getD ((j:Int)).toNat []) a b):=h;rw[ql,fu [] g]at h;rcases List.mem_or_eq_of_mem_set h with h|rfl
  ·exact f c h
  ·by_cases e:Cr d.l[j] a b=d.l[j]
   ·rw[e];exact f _ (qg g)
   ·cases ht:fz d.l[j]with
    |none=>exact absurd ht i
    |some y=>exact afP (aay (k:=y.1) (x:=y.2) ht n e)
 ·exact f c h
structure Wn (p:Pm) (m:aG) (C:Int->bf) (ds:aJ):Prop where
 sto:gA m C ds
 live:aT ds m.drives≠[]
 dr:∀k∈m.drives,k<9
 pe:m.p=p
 wt:∀k d,bh ds k=dB d->d.wait=0
variable {p:Pm} {m:aG} {C:Int->bf} {ds:aJ}
theorem VN{ds a:aJ}{f:Int->bt->bt}(h:∀k,bh a k=(bh ds k).map (f k))(b:∀k d,(f k d).lost=d.lost)(l:aC):aT a l=aT ds l:=by
 unfold aT;refine yZ λx _=>?_;unfold isLive;rw[h];cases bh ds x with
 |none=>rfl
 |some d=>simp only[Option.map_some,b]
theorem Yo{k:Int}{d e:bt}(b:ii ds=64)(c:bh ds k=dB d)(f:∀k d,bh ds k=dB d->d.wait=0)(g:e.wait=0):∀j x,bh (bQ ds k e) j=dB x->x.wait=0:=λj x a=>by
 rw[iv b c]at a;split at a
 ·injection a with a;subst a;exact g
 ·exact f j x a
theorem adD{b:aJ}{f:Int->bt->bt}(h:∀k,bh b k=(bh ds k).map (f k))(e:∀k d,bh ds k=dB d->d.wait=0)(c:∀k d,d.wait=0->(f k d).wait=0):∀j x,bh b j=dB x->x.wait=0:=λj x a=>by
 rw[h]at a;cases hd:bh ds j with
 |none=>rw[hd]at a;cases a
 |some d=>
  rw[hd]at a;injection a with a
  rw[<-a];exact c j d (e j d hd)
theorem Yp{a:cL}{d:bt}(h:d.wait=0):(eI a d).wait=0:=by
 unfold eI;split
 ·exact h
 ·rfl
theorem VO{d:bt}{n:Int}(h:d.wait=0):(dD m d n).wait=0:=by
 unfold dD;split
 ·exact h
 ·rfl
theorem aaB{d:bt}{j a b:Int}:(d.lK j a b).wait=d.wait:=by unfold bt.lK;split<;>rfl
theorem Wn.lK(W:Wn p m C ds){k:Int}{d:bt}(b:bh ds k=dB d){j:Nat}(e:j<ii d.l)(f:fz d.l[j]≠eH){a c:Int}(g:0<=a/\a<=60):Wn p m C (bQ ds k (d.lK j a c)):=
 ⟨W.sto.aaz b (Xz (W.sto.cells k d b) e f g),by rw[adC W.sto.len b aaA.1];exact W.live,W.dr,W.pe,Yo W.sto.len b W.wt (by rw[aaB];exact W.wt _ _ b)⟩
theorem aaC(t:aC)(b:bf)(n:aG)(k:Int)(d:bt):(JR m ds t b n k d).lost=d.lost:=by
 unfold JR;split
 ·rw[(Cl _ _).1,(Rr _ _ _).1]
 ·rfl
theorem Wn.put(W:Wn p m C ds)(name:ByteArray)(b:bf):∃e c f ds',iH m 0 Pow.new ds name b=(e,c,Pow.new,ds')/\Wn p c f ds':=by
 rcases ahS (offs:=0) (w:=Pow.new) (name:=name) (b:=b) nI W.sto with⟨⟨e,_,h⟩,_⟩|⟨_,t,ds',_,h,S,hat⟩
 ·exact⟨e,m,C,ds,h,W⟩
 ·refine⟨0,_,_,ds',h,S,by rw[VN hat (aaC _ _ _)];exact W.live,W.dr,W.pe,adD hat W.wt λk d a=>?_⟩;unfold JR;split
  ·exact Yp (VO a)
  ·exact a
theorem afQ(n:aG)(k:Int)(d:bt):(if k∈aT ds n.drives then eI (bu n) (dD m d (bu n).length)else d).lost=d.lost:=by
 split
 ·rw[(Cl _ _).1,(Rr _ _ _).1]
 ·rfl
theorem Wn.adE(W:Wn p m C ds){n:aG}(j:bS n=eL)(i:n.seq=m.seq+1)(e:n.p=m.p)(g:m.next<=n.next)(a:∀x∈n.aH,x∈m.aH)(b:∀k∈n.drives,k<9):
  db m 0 Pow.new ds n=(7,m,Pow.new,ds)∨∃ds',db m 0 Pow.new ds n=(0,n,Pow.new,ds')/\Wn p n C ds':=by
 rcases aap (offs:=0) (w:=Pow.new) nI W.sto i5 j i e g a with⟨_,h⟩|⟨⟨hl,_⟩,ds',h,S,hat⟩
 ·exact .inl h
 ·exact .inr ⟨ds',h,S,by rw[VN (f:=λk d=>if k∈aT ds n.drives then eI (bu n) (dD m d (bu n).length)else d) hat (afQ n)];exact hl,b,e.trans W.pe,adD (f:=λk d=>if k∈aT ds n.drives then eI (bu n) (dD m d (bu n).length)else d) hat W.wt λk d c=>by
   split
   ·exact Yp (VO c)
   ·exact c⟩
theorem Wn.del(W:Wn p m C ds)(name:ByteArray):∃e a ds',gB m 0 Pow.new ds name=(e,a,Pow.new,ds')/\Wn p a C ds':=by
 unfold gB;rw[g0 i5];split
 ·exact⟨5,m,ds,i0,W⟩
 ·split
  ·exact⟨7,m,ds,i0,W⟩
  ·rename_i c;rcases W.adE (n:=Mg m (m.aH.findIdx (mM name))) (afL W.sto.may i4 _) rfl rfl (vW _) (λx b=>Yn b) W.dr with h|⟨ds',h,W'⟩
   ·exact⟨7,m,ds,h,W⟩
   ·exact⟨0,_,ds',h,W'⟩
theorem Wn.Et(W:Wn p m C ds)(slot:Int)(q:1<ii (aT ds m.drives)):Wn p m C (tV m 0 Pow.new ds slot).2:=by
 unfold tV;rw[g0 i5];split
 ·exact W
 ·rename_i u;cases hd:bh ds slot with
  |none=>exact W
  |some d=>
   dsimp only;refine⟨W.sto.aaz hd λc r=>(by cases r),?_,W.dr,W.pe,Yo W.sto.len hd W.wt i0⟩;intro h;have g:=sg (ds:=ds) (xF W.sto.may);have f:∀k∈aT ds m.drives,k=slot:=λk o=>Decidable.byContradiction λi=>by
    obtain⟨a,e,t,s⟩:=kr o;have:k∈aT (bQ ds slot d.Et) m.drives:=afh.2 ⟨a,e,by rw[iv W.sto.len hd,g0 i];exact t,s⟩;rw[h]at this;cases this
   match hL:aT ds m.drives,q with
   |a::b::l,_=>
    rw[hL]at f g;have j:=f a i9;have n:=f b i9;rw[j,n]at g;simp at g
theorem aaD{l:aC}(h:l.Pairwise (·<·)){s:Int}(c:s∉l):(ia (l++[s])).Pairwise (·<·):=by have d:(l++[s]).Nodup:=List.nodup_append.2 ⟨h.imp λh e=>i4,i9,λa j b i e=>c (by rw[<-qC.1 i,<-e];exact j)⟩;have f:(ia (l++[s])).Perm (l++[s]):=List.mergeSort_perm _ _;have g:(ia (l++[s])).Pairwise (λa b=>a≠b):=f.nodup_iff.2 d;exact(Wl.Ar _).imp₂ (λa b=>i4) g
theorem Wn.add(W:Wn p m C ds){slot:Int}(F:0<=slot/\slot<9)(cells:Int):∃e v ds',lZ m 0 Pow.new ds slot cells=(e,v,Pow.new,ds')/\Wn p v C ds':=by
 unfold lZ;rw[g0 i5];split
 ·exact⟨1,m,ds,i0,W⟩
 split
 ·exact⟨4,m,ds,i0,W⟩
 rename_i g;split
 ·exact⟨7,m,ds,i0,W⟩
 rename_i E;have u:=W.sto.len;have b:∀o k,bh (ds.set slot.toNat o) k=if k=slot then o else bh ds k:=λo k=>by
  unfold bh;by_cases f:0<=k/\k<64
  ·rw[f9 f,List.getElem?_set];by_cases e:k=slot
   ·subst e;rw[f9 i0,f9 i0,f9 i4];rfl
   ·rw[g0 i4,g0 e,f9 f]
  ·rw[g0 f,g0 i4,g0 f]
 have i:∀o,aT (ds.set slot.toNat o) m.drives=aT ds m.drives:=λo=>by
  unfold aT;refine yZ λx q=>?_;have l:x≠slot:=λe=>g (by rw[<-e];exact q);unfold isLive;rw[b,g0 l]
 obtain⟨a,w,B,r,j,t,s⟩:=(cD m).1 W.sto.may;have y:gA m C (ds.set slot.toNat (dB (bt.new cells.toNat))):=⟨W.sto.may,by simp[u],λk d a=>by
  rw[b]at a;split at a
  ·injection a with a;subst a;intro c D;cases D
  ·exact W.sto.cells k d a,W.sto.ents⟩
 have z:bS (JM m (ia (m.drives++[slot])))=eL:=by
  refine(cD _).2 ⟨?_,aaD w g,λk f=>?_,r,j,t,s⟩
  ·rw[fF]at a⊢;exact⟨by show 1<=m.seq+1/\m.seq+1<=2147483647;omega,a.2⟩
  ·rcases qA.1 ((BH _ _).1 f)with h|h
   ·exact B k h
   ·rw[qC.1 h];omega
 have A:Wn p m C (ds.set slot.toNat (dB (bt.new cells.toNat))):=⟨y,by rw[i];exact W.live,W.dr,W.pe,λk d a=>by
  rw[b]at a;split at a
  ·injection a with a;subst a;rfl
  ·exact W.wt k d a⟩
 rcases A.adE (n:=JM m (ia (m.drives++[slot]))) z rfl rfl (vW _) (λx q=>q) (λk f=>by
  rcases qA.1 ((BH _ _).1 f)with h|h
  ·exact W.dr k h
  ·rw[qC.1 h];omega)with h|⟨ds',h,W'⟩
 ·rw[h];dsimp only;rw[f9 i0,List.set_set];exact⟨7,m,_,i0,⟨W.sto.may,by simp[u],λk d a=>by
   rw[b]at a;split at a
   ·cases a
   ·exact W.sto.cells k d a,W.sto.ents⟩,by rw[i];exact W.live,W.dr,W.pe,λk d a=>by
   rw[b]at a;split at a
   ·cases a
   ·exact W.wt k d a⟩
 ·rw[h];dsimp only;rw[g0 i5];exact⟨0,_,ds',i0,W'⟩
end Go.Qw
namespace Wl
end Wl
namespace Go.Qw
open Go Go.Vc Go.Proofs Wl
variable {p:Pm} {m:aG} {C:Int->bf} {ds ds':aJ}
theorem Wn.VP(W:Wn p m C ds):ii (aT ds m.drives)<=9:=by have d:=((cD m).1 W.sto.may).2.1;have e:=Ll (a:=0) (b:=9) d (λk c=>⟨(lq W.sto.may k c).1,W.dr k c⟩) i5;have h3:ii (aT ds m.drives)<=ii m.drives:=List.length_filter_le _ _;omega
theorem adF:∀n:Fin 10,∀t:Fin 4,iN ((n:Nat):Int) ((t:Nat):Int)<=4096:=j4
structure akA (m:aG) (ds ds':aJ) (gone:aC):Prop where
 len:ii ds'=64
 at_:∀k,k∉gone->bh ds' k=bh ds k
 live:∀k,k∈aT ds' m.drives↔k∈aT ds m.drives/\k∉gone
 sub:∀k∈gone,k∈aT ds m.drives
 nd:gone.Nodup
theorem FD{o b:Int}{live:aC}{i:Nat}(a:i<ii live):(de m ds o b live).getD i []=(iQ m ds o b live[i]).map qH:=by rw[fu [] (by unfold de;rw[qz];exact a)];unfold de;rw[List.getElem_map];unfold fN;rw[zk,zZ,qO]
end Go.Qw
namespace Go.Qw
open Go Go.Vc Go.Proofs Wl
theorem Jk(W:ct)(a:aC)(x:Int):∀k,x∈sh W a k↔∃i,i<k/\(i:Int)∉a/\x∈W.getD i []
 |0=>by simp[sh]
 |k+1=>by
  rw[sh,qA,Jk W a x k];constructor
  ·rintro(⟨i,e,b,h3⟩|h)
   ·exact⟨i,i4,b,h3⟩
   ·by_cases d:(k:Int)∈a
    ·rw[f9 d]at h;cases h
    ·rw[g0 d]at h;exact⟨k,i4,d,h⟩
  ·rintro⟨i,e,b,h3⟩;by_cases c:i=k
   ·subst c;exact .inr (by rw[g0 b];exact h3)
   ·exact .inl ⟨i,i4,b,h3⟩
theorem adG(p:Pm)(seed:Int){a b:aC}(h:∀x∈a,x∈b):oW p seed a<=oW p seed b:=by
 unfold oW;refine Hq (jP p seed a) (jP p seed b) λr c=>?_;unfold dR at c⊢;split at c
 ·rename_i e;rw[f9 e];rcases qA.1 c with c|c
  ·exact zC _ c
  ·obtain⟨i,d,rfl⟩:=qu.1 c;rw[qI]at d;exact wV _ (qu.2 ⟨i,qI.2 ⟨h i d.1,d.2⟩,i0⟩)
 ·cases c
theorem adH{p:Pm}{seed:Int}{W V:ct}{g g':aC}(h:ii W<=ii V)(e:∀x∈g',x∈g)(d:∀i x,x∈W.getD i []->x∈V.getD i []):nK p seed W g<=nK p seed V g':=by unfold nK;refine adG p seed λx a=>?_;rw[Jk]at a⊢;obtain⟨i,f,c,h3⟩:=a;exact⟨i,i4,λb=>c (e _ b),d i x h3⟩
theorem Ru{p:Pm}{seed:Int}{W V:ct}{t:Nat}(b:ii V=ii W)(a:∀i x,x∈W.getD i []->x∈V.getD i [])(h:oZ p seed W t=eH):oZ p seed V t=eH:=by
 unfold oZ at h⊢;rw[b];rw[yn]at h⊢;intro g e d;have j:(nK p seed W g:Int)=bK p:=by simpa using h g e
 have f:=adH (p:=p) (seed:=seed) (W:=W) (V:=V) (g:=g) (g':=g) i4 (λ_ h=>h) a;have h3:=aen p seed (sh V g V.length);have c:(nK p seed V g:Int)≠bK p:=hZ d;apply c;unfold nK at*;omega
variable {m:aG} {C:Int->bf} {ds:aJ}
theorem afR(e:bS m=eL){l l':cL}(d:∀c∈l',dM m C c)(h:∀c∈l,c∈l'){r:dm}(f:r∈eZ m l):r∈eZ m l':=by obtain⟨a,b,c⟩:=nM f;exact Fy e d (h _ a) b c
theorem Rv(i:bS m=eL){l:cL}(j:∀c∈l,dM m C c){r:dm}:r∈eZ m (ck m l)↔r∈eZ m l:=by
 constructor
 ·intro g;obtain⟨a,b,c⟩:=nM g;rcases qA.1 a with h|h
  ·rw[tJ h]at b;cases b
  ·obtain⟨k,d,e⟩:=qu.1 h;obtain⟨_,f,_⟩:=nM d;rw[e,b]at f;injection f with f
   rw[f];exact d
 ·intro g;obtain⟨a,b,c⟩:=nM g;exact Fy i (PZ i j) (wV _ (qu.2 ⟨r,g,i0⟩)) b c
theorem aaE(r:dm):oV r r=eL:=by rw[mi];exact⟨i0,i0,i0⟩
theorem OE(l:cL):(eZ m l).Nodup:=(Xw m l).imp λh e=>by subst e;rw[aaE]at h;cases h
theorem ahX{l l':cL}(h:∀r∈eZ m l,r∈eZ m l'):ii (eZ m l)<=ii (eZ m l'):=by
 letI:DecidableEq dm:=λa b=>Classical.propDecidable _
 exact FC (OE l) h
theorem nN(b:bS m=eL){l:cL}:kY m l=eL↔∀c∈bu m,c∈l:=by unfold kY;rw[b,wg,q9];exact⟨λh c a=>hZ (h c a),λh c a=>g9 (h c a)⟩
theorem Mh(l:cL):ii (ck m l)=ii (bu m)+ii (eZ m l):=by unfold ck oO;rw[qx,qz]
structure DK (m:aG) (d d':bt):Prop where
 lost:d'.lost=d.lost
 room:d'.room=d.room
 recs:∀r∈eZ m d.l,r∈eZ m d'.l
 whole:kY m d.l=eL->kY m d'.l=eL
theorem DK.refl(d:bt):DK m d d:=⟨i0,i0,λ_ h=>h,λh=>h⟩
theorem DK.trans{a b c:bt}(e:DK m a b)(d:DK m b c):DK m a c:=⟨d.lost.trans e.lost,d.room.trans e.room,λr h=>d.recs r (e.recs r h),λh=>d.whole (e.whole h)⟩
structure jx (m:aG) (ds ds':aJ):Prop where
 len:ii ds'=ii ds
 at_:∀k d,bh ds k=dB d->∃d',bh ds' k=dB d'/\DK m d d'
 no:∀k,bh ds k=eH->bh ds' k=eH
theorem jx.refl(ds:aJ):jx m ds ds:=⟨i0,λ_ d h=>⟨d,h,.refl d⟩,λ_ h=>h⟩
theorem jx.trans{a b c:aJ}(f:jx m a b)(e:jx m b c):jx m a c:=⟨e.len.trans f.len,λk d i=>by
 obtain⟨o,g,n⟩:=f.at_ k d i;obtain⟨l,j,p⟩:=e.at_ k o g;exact⟨l,j,n.trans p⟩,λk h=>e.no k (f.no k h)⟩
theorem jx.set{k:Int}{d e:bt}(c:ii ds=64)(f:bh ds k=dB d)(h:DK m d e):jx m ds (bQ ds k e):=⟨Bc _ _ _,λs x a=>by
 rw[iv c f];split
 ·rename_i b;subst b;rw[f]at a;injection a with a;subst a
  exact⟨_,i0,h⟩
 ·exact⟨x,a,.refl x⟩,λs b=>by
 rw[iv c f];split
 ·rename_i h;subst h;rw[f]at b;cases b
 ·exact b⟩
theorem jx.live{a:aJ}(K:jx m ds a)(l:aC):aT a l=aT ds l:=by
 unfold aT;refine yZ λx _=>?_;unfold isLive;cases hd:bh ds x with
 |none=>rw[K.no x hd]
 |some d=>
  obtain⟨b,e,k⟩:=K.at_ x d hd;rw[e];simp only[k.lost]
theorem jx.syms{a:aJ}(K:jx m ds a){o b k:Int}{id:Int}(h:id∈(iQ m ds o b k).map qH):id∈(iQ m a o b k).map qH:=by obtain⟨x,i,rfl⟩:=qu.1 h;obtain⟨d,r,c,g,j,f,rfl⟩:=Fz i;obtain⟨n,e,l⟩:=K.at_ k d c;refine qu.2 ⟨(r.id,r.data),?_,i0⟩;unfold iQ;rw[e];exact qu.2 ⟨r,qI.2 ⟨l.recs r g,by rw[j,f];simp⟩,i0⟩
theorem Yq(a:bS m=eL){d:bt}(b:∀c∈d.l,dM m C c):DK m d {d with l:=ck m d.l,wait:=0,laid:=[],has:=eR}:=
 ⟨i0,i0,λr h=>(Rv a b).2 h,λ_=>(nN a).2 λc h=>zC _ h⟩
structure Tidy (m:aG) (d:bt):Prop where
 whole:kY m d.l=eL
 keep:ii (ck m d.l)<=ii d.l
 room:ii d.l<=d.room
theorem Rw(a:bS m=eL){d:bt}(b:∀c∈d.l,dM m C c)(e:ii (ck m d.l)<=d.room):Tidy m {d with l:=ck m d.l,wait:=0,laid:=[],has:=eR}:=
 ⟨(nN a).2 λc h=>zC _ h,by
  show(ck m (ck m d.l)).length<=ii (ck m d.l);rw[Mh,Mh];exact Nat.add_le_add_left (ahX λr h=>(Rv a b).1 h) _,e⟩
theorem oT{k:Int}{w:Pow}:∀{live:aC} {w:Pow} {ds:aJ},ii ds=64->k∉live->bh (dq m live w ds).2.2 k=bh ds k
 |[],_,_,_,_=>rfl
 |j::live,w,ds,h64,hk=>by
  have b:k≠j:=λe=>hk (by rw[e];exact qN);have a:k∉live:=λh=>hk (qG _ h);unfold dq;cases hd:bh ds j with
  |none=>exact oT (w:=w) h64 a
  |some d=>
   dsimp only;split
   ·exact oT (w:=w) h64 a
   ·have e:bh (bQ ds j (d.rewrite w (ck m d.l)).2.2) k=bh ds k:=by rw[iv h64 hd,g0 b]
    split
    ·rw[oT (w:=w) (by rw[Bc];exact h64) a,e]
    ·exact e
theorem FE:∀{live:aC} {ds:aJ},live.Nodup->gA m C ds->(∀k∈live,∃d,bh ds k=dB d/\d.lost=eR)->(∀k d,bh ds k=dB d->ii d.l<=d.room/\d.wait=0)->
  (dq m live Pow.new ds).2.1=Pow.new/\((dq m live Pow.new ds).1=0∨(dq m live Pow.new ds).1=7)/\gA m C (dq m live Pow.new ds).2.2/\jx m ds (dq m live Pow.new ds).2.2/\
  (∀k d,bh (dq m live Pow.new ds).2.2 k=dB d->ii d.l<=d.room/\d.wait=0)/\
  ((∀k d,bh ds k=dB d->k∈live->ii (ck m d.l)<=d.room)->(dq m live Pow.new ds).1=0)/\
  ((dq m live Pow.new ds).1=0->∀k∈live,∀d,bh (dq m live Pow.new ds).2.2 k=dB d->Tidy m d)
 |[],ds,_,S,_,hw=>⟨i0,.inl i0,S,.refl _,hw,λ_=>rfl,λ_ k H=>by cases H⟩
 |k::live,ds,i,S,hlv,hw=>by
  obtain⟨n,i⟩:=List.nodup_cons.1 i;obtain⟨d,g,G⟩:=hlv k qN;have t:=S.cells k d g;have p:=λj f=>hlv j (qG _ f);unfold dq;rw[g];dsimp only;by_cases e:d.l=ck m d.l
  ·rw[f9 e];obtain⟨D,B,a3,a4,a5,v,z⟩:=FE (live:=live) i S p hw;refine⟨D,B,a3,a4,a5,λh=>v λj x a f=>h j x a (qG _ f),λh0 j f x a=>?_⟩;rcases zb.1 f with rfl|f
   ·rw[oT (w:=Pow.new) S.len n,g]at a;injection a with a
    subst a;exact⟨(nN S.may).2 λc t=>by rw[e];exact zC _ t,by rw[<-e];exact qm _,(hw j d g).1⟩
   ·exact z h0 j f x a
  ·rw[g0 e];by_cases u:ii (ck m d.l)<=d.room
   ·have A:=IQ nI (Fo m d.l) G u;rw[A];dsimp only;rw[f9 rfl];have E:=Yq S.may t;have F:gA m C (bQ ds k {d with l:=ck m d.l,wait:=0,laid:=[],has:=eR}):=S.aaz g (PZ S.may t);have o:=λs=>iv (d:={d with l:=ck m d.l,wait:=0,laid:=[],has:=eR}) S.len g s;have I:jx m ds (bQ ds k {d with l:=ck m d.l,wait:=0,laid:=[],has:=eR}):=.set S.len g E;obtain⟨D,B,a3,a4,a5,v,z⟩:=FE (live:=live) i F (λj f=>by
     obtain⟨x,a,y⟩:=p j f;have q:j≠k:=λh=>n (by rw[<-h];exact f);exact⟨x,by rw[o,g0 q];exact a,y⟩) (λj x a=>by
     rw[o]at a;split at a
     ·injection a with a;subst a;exact⟨u,i0⟩
     ·exact hw j x a)
    refine⟨D,B,a3,I.trans a4,a5,λh=>v λj x a f=>?_,λh0 j f x a=>?_⟩
    ·have q:j≠k:=λh=>n (by rw[<-h];exact f);rw[o,g0 q]at a;exact h j x a (qG _ f)
    ·rcases zb.1 f with rfl|f
     ·rw[oT (w:=Pow.new) F.len n,o,f9 rfl]at a;injection a with a
      subst a;exact Rw S.may t u
     ·exact z h0 j f x a
   ·have A:d.rewrite Pow.new (ck m d.l)=(7,Pow.new,d):=by unfold bt.rewrite;have r:(ck m d.l).all (λb=>decide (ii b=64))=eL:=q9.2 λc h=>g9 (Fo m d.l c h);rw[r,g0 i5,g0 (by rw[G];decide),f9 i4]
    rw[A];dsimp only;rw[g0 (show¬(7:Int)=0 by decide),acv g];exact⟨i0,.inr i0,S,.refl _,hw,λh=>absurd (h k d g qN) u,λh=>absurd h (show¬(7:Int)=0 by decide)⟩
structure VQ (m:aG) (C:Int->bf) (e:Wl.cv) (i:Nat) (x:jC):Prop where
 he:e∈m.aH
 hi:i<e.tries.length
 o:x.o=e.object
 b:x.b=i
 seed:x.seed=cz e.object i (e.tries.getD i 0)
 M:x.M=dv m.p x.seed (jc m C e.object i)
theorem VQ.Ol{e:Wl.cv}{i:Nat}{x:jC}(X:VQ m C e i x)(id:Nat):x.Ol m id=ox m e.object i (cz e.object i (e.tries.getD i 0)) (jc m C e.object i) id:=by unfold jC.Ol ox uO;rw[X.M,X.o,X.b,X.seed]
theorem adI(S:gA m C ds){e:Wl.cv}(b:e∈m.aH){i:Nat}(d:i<e.tries.length){id:Nat}(hid:id<=65535):dM m C (dG (ox m e.object i (cz e.object i (e.tries.getD i 0)) (jc m C e.object i) id)):=by
 have c:=S.VE b d hid;have a:=Hl c (oQ _ _ _);refine⟨λr h=>?_,λr h _=>?_,λg h=>?_⟩
 ·rw[a]at h;injection h with h;subst h
  exact S.old b
 ·rw[a]at h;injection h with h;subst h
  rfl
 ·rw[Ow c]at h;cases h
theorem adJ{W:ct}:eU W<=ii W.flatten:=by
 have h:=FC (l:=(qy (eU W)).map λi:Nat=>(i:Int)) (m:=W.flatten) (by
  rw[List.Nodup,List.pairwise_map];exact yF.imp λh e=>i4) λx b=>by
   obtain⟨j,a,rfl⟩:=qu.1 b;have:=IV (qJ.1 a);unfold mB at this;rw[List.any_eq_true]at this;obtain⟨l,d,c⟩:=this;exact List.mem_flatten.2 ⟨l,d,hZ c⟩
 simpa using h
theorem afS{W:ct}{c:Nat}(h:∀l∈W,ii l<=c):ii W.flatten<=ii W*c:=by
 induction W with
 |nil=>simp
 |cons l W ih=>
  rw[List.flatten_cons,qx,List.length_cons,Nat.succ_mul];have d:=h l qN;have b:=ih λz a=>h z (qG _ a);omega
theorem adK{live:aC}{s:Int}(h:s∈live):∃k:Nat,gm live s=k/\∃a:k<ii live,live[k]=s:=by
 unfold gm;cases hx:live.idxOf? s with
 |none=>
  unfold List.idxOf? at hx;rw[List.findIdx?_eq_none_iff]at hx;have:=hx s h;simp at this
 |some k=>
  unfold List.idxOf? at hx;obtain⟨a,b,_⟩:=List.findIdx?_eq_some_iff_getElem.1 hx;exact⟨k,i0,a,j7⟩
def Rx(m:aG)(live:aC)(ds:aJ)(x:jC):Prop:=∀k (a:k<ii live),∀id∈x.W.getD k [],id∈(iQ m ds x.o x.b live[k]).map qH
theorem Rx.keep{live:aC}{a:aJ}{x:jC}(h:Rx m live ds x)(K:jx m ds a):Rx m live a x:=λk b id hid=>K.syms (h k b id hid)
theorem XA(e:bS m=eL){d:bt}{c:bf}{g:dm}(o:∀z∈d.l,dM m C z)(i:dM m C c)(s:eC c=dB g)(h:Tidy m d)(f:ii d.l+1<=d.room)(n:Nat):Tidy m {d with l:=d.l++[c],wait:=n,laid:=[],has:=eR}:=by
 refine⟨(nN e).2 λz k=>zC _ ((nN e).1 h.whole z k),?_,i7⟩;show(ck m (d.l++[c])).length<=ii (d.l++[c]);have p:=h.keep;rw[Mh]at p⊢;have j:ii (eZ m (d.l++[c]))<=ii (eZ m d.l++[g]):=by
  letI:DecidableEq dm:=λa b=>Classical.propDecidable _
  refine FC (OE _) λr f=>?_;obtain⟨a,b,q⟩:=nM f;rcases qA.1 a with a|a
  ·exact zC _ (Fy e o a b q)
  ·rw[qC.1 a,s]at b;injection b with b
   exact wV _ (by rw[b];simp)
 simp at j⊢;omega
theorem adL(b:bS m=eL){d:bt}{n:Int}(a:∀c∈d.l,dM m C c)(h:Tidy m d):Tidy m (dD m d n):=by
 unfold dD;split
 ·exact h
 ·exact Rw b a (zf h.keep h.room)
theorem ahY(b:bS m=eL){d:bt}{n:Int}(a:∀c∈d.l,dM m C c):DK m d (dD m d n):=by
 unfold dD;split
 ·exact .refl d
 ·exact Yq b a
structure sK (m:aG) (C:Int->bf) (live:aC) (ds:aJ) (got:aC):Prop where
 sto:gA m C ds
 lv:∀k∈live,∃d,bh ds k=dB d/\d.lost=eR
 wt:∀k d,bh ds k=dB d->d.wait=0∨k∈got
 tidy:∀k∈live,∀d,bh ds k=dB d->Tidy m d
 rm:∀k d,bh ds k=dB d->ii d.l<=d.room/\d.room<=512
theorem Df{live set order:aC}{c:bf}{id:Nat}{w:Pow}:∀l:List Nat,(gG m live set order c id w ds l).1=(7,w,ds)∨
  ∃i∈l,∃d,bh ds (gj order ((id:Int)+i))=dB d/\iu m d 1=eL/\gG m live set order c id w ds l=(jB m c w ds (gj order ((id:Int)+i)) d,gm live (gj order ((id:Int)+i)),gj order ((id:Int)+i))
 |[]=>.inl i0
 |i::l=>by
  unfold gG;dsimp only;have step:∀{P:Prop},(gG m live set order c id w ds l).1=(7,w,ds)∨(∃i∈l,∃d,bh ds (gj order ((id:Int)+i))=dB d/\iu m d 1=eL/\gG m live set order c id w ds l=(jB m c w ds (gj order ((id:Int)+i)) d,gm live (gj order ((id:Int)+i)),gj order ((id:Int)+i)))->
   (gG m live set order c id w ds l).1=(7,w,ds)∨(∃j∈i::l,∃d,bh ds (gj order ((id:Int)+j))=dB d/\iu m d 1=eL/\gG m live set order c id w ds l=(jB m c w ds (gj order ((id:Int)+j)) d,gm live (gj order ((id:Int)+j)),gj order ((id:Int)+j))):=λ{P} h=>by
    rcases h with h|⟨j,hj,r⟩
    ·exact .inl h
    ·exact .inr ⟨j,qG _ hj,r⟩
  cases hd:bh ds (gj order ((id:Int)+i))with
  |none=>exact step (P:=True) (Df l)
  |some d=>
   dsimp only;by_cases a:gm live (gj order ((id:Int)+i))∈set∨iu m d 1=eR
   ·rw[f9 a];exact step (P:=True) (Df l)
   ·rw[g0 a];exact .inr ⟨i,qN,d,hd,by cases hf:iu m d 1 with|true=>rfl|false=>exact absurd (.inr hf) a,rfl⟩
theorem adM{live set:aC}{e:Wl.cv}{i:Nat}{x:jC}(ah:live.length<=9)(Q:sK m C live ds x.got)(X:VQ m C e i x)(F:nL m live x)(O:Rx m live ds x):
  (fb m live set Pow.new ds x).2.1=Pow.new/\((fb m live set Pow.new ds x).1=0∨(fb m live set Pow.new ds x).1=7)/\jx m ds (fb m live set Pow.new ds x).2.2.1/\
  sK m C live (fb m live set Pow.new ds x).2.2.1 (fb m live set Pow.new ds x).2.2.2.got/\VQ m C e i (fb m live set Pow.new ds x).2.2.2/\Rx m live (fb m live set Pow.new ds x).2.2.1 (fb m live set Pow.new ds x).2.2.2:=by
 have u:eU x.W<=65535:=by
  have T:=adJ (W:=x.W);have h2:=afS (W:=x.W) (c:=4160) λl Y=>by have:=F.rl l Y;have:=F.gl;omega
  have h3:=F.wl;have h4:x.W.length*4160<=9*4160:=zH _ i4;omega
 have g:=Q.sto.counts X.he X.hi u;have G:=Q.sto.VE X.he X.hi u;have A:=adI Q.sto X.he X.hi u;obtain⟨p,v⟩:∃p,p=ox m e.object i (cz e.object i (e.tries.getD i 0)) (jc m C e.object i) (eU x.W):=⟨_,rfl⟩
 rw[<-v]at g G A;have L:=Hl G (by rw[v];exact oQ _ _ _);have U:(dG p).length=64:=Lh G;have eP:fb m live set Pow.new ds x=(let r:=gG m live set (fy x.o x.b live) (dG p) (eU x.W) Pow.new ds (qy (fy x.o x.b live).length);(r.1.1,r.1.2.1,r.1.2.2,if r.1.1=0 then x.De (eU x.W) r.2.1 r.2.2 else x)):=by rw[v,<-X.Ol];rfl
 rw[eP];dsimp only;obtain⟨o,ho⟩:∃o,o=fy x.o x.b live:=⟨_,rfl⟩
 rw[<-ho];rcases Df (m:=m) (ds:=ds) (live:=live) (set:=set) (order:=o) (c:=dG p) (id:=eU x.W) (w:=Pow.new) (qy o.length)with h|⟨j,S,d,hd,hf,h⟩
 ·rw[h];dsimp only;rw[g0 (show¬(7:Int)=0 by decide)];exact⟨i0,.inr i0,.refl _,Q,X,O⟩
 obtain⟨s,hs⟩:∃s,s=gj o ((eU x.W:Int)+j):=⟨_,rfl⟩
 rw[<-hs]at hd h;have S:=qJ.1 S;have E:s∈live:=by rw[hs];exact Fw (by rw[<-ho];exact PY (by intro h;rw[h]at S;simp at S))
 obtain⟨kk,ad,V,Z⟩:=adK E;have hc:=Q.sto.cells s d hd;obtain⟨r1,r2,r3⟩:=Fq hf;have ea:jB m (dG p) Pow.new ds s d=(0,Pow.new,bQ ds s {dD m d 1 with l:=(dD m d 1).l++[dG p],wait:=(dD m d 1).wait+1,laid:=[],has:=eR}):=by unfold jB;rw[Od nI hf];dsimp only;rw[g0 λh=>h i0,KM (n:=0) nI r1 i4 U];dsimp only;rw[xR]
 rw[h,ea];dsimp only;rw[f9 rfl];obtain⟨y,t⟩:∃y,y={dD m d 1 with l:=(dD m d 1).l++[dG p],wait:=(dD m d 1).wait+1,laid:=[],has:=eR}:=⟨_,rfl⟩
 rw[<-t];have D:=Q.sto.may;have H:=Qa D hc (N:=1);have J:∀c∈y.l,dM m C c:=λc f=>by
  rw[t]at f;rcases qA.1 f with f|f
  ·exact H c f
  ·rw[qC.1 f];exact A
 have I:DK m d y:=(ahY D hc (n:=1)).trans (by
  rw[t];refine⟨i0,i0,λr hr=>afR D (l:=(dD m d 1).l) (l':=(dD m d 1).l++[dG p]) (λc f=>by
   rcases qA.1 f with f|f
   ·exact H c f
   ·rw[qC.1 f];exact A) (λc f=>zC _ f) hr,λhw=>(nN D).2 λc f=>zC _ ((nN D).1 hw c f)⟩)
 have K:jx m ds (bQ ds s y):=.set Q.sto.len hd I;have q:=λz=>iv (d:=y) Q.sto.len hd z;have S':gA m C (bQ ds s y):=Q.sto.aaz hd J;have P:Tidy m y:=by rw[t];exact XA D H A L (adL D hc (Q.tidy s E d hd)) i4 _
 refine⟨i0,.inl i0,K,⟨S',λk B=>?_,λk z a=>?_,λk B z a=>?_,λk z a=>?_⟩,⟨X.he,X.hi,X.o,X.b,X.seed,X.M⟩,λk B id hid=>?_⟩
 ·rw[q];split
  ·exact⟨y,i0,by rw[I.lost];obtain⟨z,a,Y⟩:=Q.lv s E;rw[hd]at a;injection a with a;rw[a];exact Y⟩
  ·exact Q.lv k B
 ·show z.wait=0∨k∈x.got++[s]
  rw[q]at a;split at a
  ·rename_i B;rw[B];exact .inr i9
  ·rcases Q.wt k z a with h|h
   ·exact .inl h
   ·exact .inr (zC _ h)
 ·rw[q]at a;split at a
  ·injection a with a
   rw[<-a];exact P
  ·exact Q.tidy k B z a
 ·rw[q]at a;split at a
  ·injection a with a
   rw[<-a];exact⟨P.room,by rw[I.room];exact(Q.rm s d hd).2⟩
  ·exact Q.rm k z a
 ·have hid:id∈(x.W.set (gm live s).toNat (x.W.getD (gm live s).toNat []++[(eU x.W:Int)])).getD k []:=hid;rw[ad,ql]at hid;show id∈(iQ m (bQ ds s y) x.o x.b live[k]).map qH;have ab:kk<x.W.length:=by rw[F.wl];exact V
  by_cases R:k=kk
  ·subst R;rw[fu [] (by rw[List.length_set];exact ab),List.getElem_set_self]at hid;rcases qA.1 hid with T|T
   ·exact K.syms (O k B id T)
   ·rw[qC.1 T,Z];refine qu.2 ⟨(p.id,p.data),?_,by rw[v];rfl⟩;unfold iQ;rw[q,f9 rfl];refine qu.2 ⟨p,qI.2 ⟨Fy D J (by rw[t];exact wV _ i9) L g,?_⟩,i0⟩;rw[X.o,X.b,v];show(decide (e.object=e.object)&&decide ((i:Int)=(i:Int)))=eL;simp
  ·rw[qe,List.getElem?_set_ne λh=>R h.symm,<-qe]at hid;exact K.syms (O k B id hid)
end Go.Qw
namespace Go.Qw
open Go Go.Vc Go.Proofs Wl
variable {m:aG} {C:Int->bf} {ds:aJ}
theorem Ry{p:Pm}(d:bP p=eL){seed:Int}{W:ct}{t:Int}(a:0<=t/\t<=ii W)(b:ii W<=64)(c:¬iN W.length t>4096):gF p seed W t=match oZ p seed W t.toNat with|some g=>(g,eL,0)|none=>([],eR,0):=by unfold gF;rw[f9 d,f9 ⟨a.1,a.2,b⟩,g0 c];rfl
theorem OF{live:aC}{t most:Int}{e:Wl.cv}{i:Nat}(k:0<=t/\t<=ii live)(b:ii live<=9)(r:¬iN live.length t>4096)(a:most<=64):∀(f:Nat) (ds:aJ) (x:jC),sK m C live ds x.got->VQ m C e i x->nL m live x->Rx m live ds x->
  (dF m live t most f Pow.new ds x).2.1=Pow.new/\((dF m live t most f Pow.new ds x).1=0∨(dF m live t most f Pow.new ds x).1=7∨(dF m live t most f Pow.new ds x).1=12)/\jx m ds (dF m live t most f Pow.new ds x).2.2.1/\
  sK m C live (dF m live t most f Pow.new ds x).2.2.1 (dF m live t most f Pow.new ds x).2.2.2.got/\VQ m C e i (dF m live t most f Pow.new ds x).2.2.2/\nL m live (dF m live t most f Pow.new ds x).2.2.2/\Rx m live (dF m live t most f Pow.new ds x).2.2.1 (dF m live t most f Pow.new ds x).2.2.2/\
  ((dF m live t most f Pow.new ds x).1=0->oZ m.p x.seed (dF m live t most f Pow.new ds x).2.2.2.W t.toNat=eH)/\
  (oZ m.p x.seed x.W t.toNat=eH->0<f->dF m live t most f Pow.new ds x=(0,Pow.new,ds,x))
 |0,ds,x,Q,X,F,O=>⟨i0,.inr (.inr i0),.refl _,Q,X,F,O,λh=>absurd h (show¬(12:Int)=0 by decide),λ_ h=>absurd h i5⟩
 |f+1,ds,x,Q,X,F,O=>by
  have l:=Ry Q.sto.VD (seed:=x.seed) (W:=x.W) (t:=t) ⟨k.1,by rw[F.wl];exact k.2⟩ (by rw[F.wl];omega) (by rw[F.wl];exact r);unfold dF;dsimp only;rw[l];cases hwk:oZ m.p x.seed x.W t.toNat with
  |none=>
   dsimp only;rw[g0 λh=>h i0,f9 rfl];exact⟨i0,.inl i0,.refl _,Q,X,F,O,λ_=>hwk,λ_ _=>rfl⟩
  |some g=>
   dsimp only;rw[g0 λh=>h i0,g0 i5];by_cases o:(ii x.got:Int)>=most
   ·rw[f9 o];exact⟨i0,.inr (.inr i0),.refl _,Q,X,F,O,λh=>absurd h (show¬(12:Int)=0 by decide),λh=>j6⟩
   ·rw[g0 o];obtain⟨j,n,a3,a4,a5,c⟩:=adM (set:=g) b Q X F O;have d:=(Me (set:=g) (w:=Pow.new) (ds:=ds) F i4).1;obtain⟨q,z⟩:∃q,q=fb m live g Pow.new ds x:=⟨_,rfl⟩
    rw[<-z]at j n a3 a4 a5 c d⊢;by_cases h0:q.1≠0
    ·rw[f9 h0];exact⟨j,n.elim (λh=>absurd h h0) λh=>.inr (.inl h),a3,a4,a5,d,c,λh=>absurd h h0,λh=>j6⟩
    ·rw[g0 h0,j];obtain⟨E,v,s,A,u,B,y,b8,_⟩:=OF k b r a f q.2.2.1 q.2.2.2 a4 a5 d c;have D:q.2.2.2.seed=x.seed:=by rw[a5.seed,X.seed]
     rw[D]at b8;exact⟨E,v,a3.trans s,A,u,B,y,b8,λh=>j6⟩
theorem sK.fit{live got:aC}(Q:sK m C live ds got):Fit ds live []:=⟨Q.sto.len,λs b=>by
 obtain⟨d,a,c⟩:=Q.lv s b;exact⟨d,a,c,by have:=(Q.tidy s b d a).room;simp;omega⟩⟩
theorem sK.sync{live got:aC}(Q:sK m C live ds got)(t:∀s∈got,s∈live)(q:∀s∈live,0<=s/\s<64):
  (eW (cM got) Pow.new ds).1=0/\(eW (cM got) Pow.new ds).2.1=Pow.new/\jx m ds (eW (cM got) Pow.new ds).2.2/\sK m C live (eW (cM got) Pow.new ds).2.2 []/\∀k,(bh (eW (cM got) Pow.new ds).2.2 k).map bt.l=(bh ds k).map bt.l:=by
 obtain⟨y,p,a3⟩:=Fm nI (cM got) ds Q.fit λs u=>by
  unfold cM at u;exact t s (hZ (qI.1 u).2)
 obtain⟨D,A⟩:∃D,D=(eW (cM got) Pow.new ds).2.2:=⟨_,rfl⟩
 rw[<-A]at p a3⊢;have g:∀k d,bh ds k=dB d->∃c,bh D k=dB c/\c.l=d.l/\c.room=d.room/\c.lost=d.lost/\(c.wait=0∨c.wait=d.wait/\k∉cM got):=λk d b=>by
  rw[a3,b];refine⟨_,i0,?_⟩;split
  ·exact⟨i0,i0,i0,.inl i0⟩
  ·exact⟨i0,i0,i0,.inr ⟨i0,oj⟩⟩
 have j:∀k,bh ds k=eH->bh D k=eH:=λk h=>by rw[a3,h];rfl
 have f:∀k c,bh D k=dB c->∃d,bh ds k=dB d:=λk c h=>by
  cases b:bh ds k with
  |none=>rw[j k b]at h;cases h
  |some d=>exact⟨d,i0⟩
 refine⟨y,Fl nI _ _,⟨by rw[p.len,Q.sto.len],λk d b=>?_,j⟩,⟨⟨Q.sto.may,p.len,λk c a=>?_,Q.sto.ents⟩,λk o=>?_,λk c a=>?_,λk o c a=>?_,λk c a=>?_⟩,λk=>?_⟩
 ·obtain⟨c,e,i,n,h3,_⟩:=g k d b;exact⟨c,e,h3,n,λr w=>by rw[i];exact w,λh=>by rw[i];exact h⟩
 ·obtain⟨d,b⟩:=f k c a;obtain⟨z,e,i,_⟩:=g k d b;rw[a]at e;injection e with e;subst e
  rw[i];exact Q.sto.cells k d b
 ·obtain⟨d,b,v⟩:=Q.lv k o;obtain⟨c,e,_,_,h3,_⟩:=g k d b;exact⟨c,e,by rw[h3];exact v⟩
 ·obtain⟨d,b⟩:=f k c a;obtain⟨z,e,_,_,_,x⟩:=g k d b;rw[a]at e;injection e with e;subst e
  rcases x with h|⟨h,hn⟩
  ·exact .inl h
  ·rcases Q.wt k d b with h5|h5
   ·exact .inl (h.trans h5)
   ·exact absurd ((Db (q k (t k h5))).2 h5) hn
 ·obtain⟨d,b⟩:=f k c a;obtain⟨z,e,i,n,_,_⟩:=g k d b;rw[a]at e;injection e with e;subst e
  have:=Q.tidy k o d b;exact⟨by rw[i];exact this.whole,by rw[i];exact this.keep,by rw[i,n];exact this.room⟩
 ·obtain⟨d,b⟩:=f k c a;obtain⟨z,e,i,n,_,_⟩:=g k d b;rw[a]at e;injection e with e;subst e
  rw[i,n];exact Q.rm k d b
 ·cases b:bh ds k with
  |none=>rw[j k b]
  |some d=>
   obtain⟨c,e,i,_⟩:=g k d b;rw[e];simp[i]
structure uT (m:aG) (live:aC) (ds:aJ) (t most:Int):Prop where
 lv:live=aT ds m.drives
 VP:ii live<=9
 tt:0<=t/\t<ii live
 c:¬iN live.length t>4096
 mo:0<=most/\most<=64
 bV:∀s∈live,0<=s/\s<64
def iX(m:aG)(live:aC)(ds:aJ)(t:Int)(e:Wl.cv)(i:Nat):Prop:=oZ m.p (cz e.object i (e.tries.getD i 0)) (de m ds e.object i live) t.toNat=eH
theorem nO(m:aG)(ds:aJ)(o b:Int)(live:aC):ii (de m ds o b live)=ii live:=by unfold de;rw[qz]
theorem iX.keep{live:aC}{a:aJ}{t:Int}{e:Wl.cv}{i:Nat}(h:iX m live ds t e i)(K:jx m ds a):iX m live a t e i:=by
 refine Ru (by rw[nO,nO]) (λk x b=>?_) h;by_cases c:k<ii live
 ·rw[FD c]at b⊢;exact K.syms b
 ·rw[qe,qQ (by rw[nO];omega)]at b;cases b
theorem adN{live:aC}{t most:Int}{e:Wl.cv}{i:Nat}(Z:uT m live ds t most)(S:gA m C ds)(y:e∈m.aH)(s:i<e.tries.length)(o:∀k d,bh ds k=dB d->d.l.length<=512):
  ((fp m live ds e.object e.tries i).1=0∨(fp m live ds e.object e.tries i).1=11)/\
  ((fp m live ds e.object e.tries i).1=0->VQ m C e i (fp m live ds e.object e.tries i).2/\Rx m live ds (fp m live ds e.object e.tries i).2/\(fp m live ds e.object e.tries i).2.W=de m ds e.object i live)/\
  (iX m live ds t e i->(fp m live ds e.object e.tries i).1=0):=by
 have v:=S.Jd y s;unfold Wl.Jd at v;rw[<-Z.lv]at v;obtain⟨K,H,w,n,B⟩:=S.fY y s;have g:iW m.p (cz e.object i (e.tries.getD i 0)) (jc m C e.object i).length=0:=B.iW;unfold fp;dsimp only;rw[v,<-Z.lv];by_cases f:gC m.p (cz e.object i (e.tries.getD i 0)) (JS m ds e.object i)=eL
 ·rw[f9 f];dsimp only;rw[g0 λh=>h i0,g0 λh=>h g];refine⟨.inl i0,λ_=>⟨⟨y,s,i0,i0,i0,i0⟩,λk A id hid=>?_,i0⟩,λ_=>rfl⟩;dsimp only at hid⊢;rw[FD A]at hid;exact hid
 ·rw[g0 f];dsimp only;rw[f9 (show¬(9:Int)=0 by decide)];refine⟨.inr i0,λh=>absurd h (show¬(11:Int)=0 by decide),λr=>absurd ?_ f⟩;unfold iX at r;obtain⟨W,j⟩:∃W,W=de m ds e.object i live:=⟨_,rfl⟩
  rw[<-j]at r;have D:W.length=live.length:=by rw[j];exact nO _ _ _ _ _
  have q:ints (qy t.toNat)∈Co W.length t.toNat:=qu.2 ⟨_,TB i9 (λx u=>by have:=qJ.1 u;have:=Z.tt;omega) yF,i0⟩;have E:(nK m.p (cz e.object i (e.tries.getD i 0)) W (ints (qy t.toNat)):Int)=bK m.p:=by have:=yn.1 r _ q;simpa using this
  have a:gC m.p (cz e.object i (e.tries.getD i 0)) (sh W (ints (qy t.toNat)) W.length)=eL:=by unfold gC;rw[S.VD,wg];exact beq_iff_eq.2 E
  refine ads S.VD (λx u=>?_) a;obtain⟨k,A,_,b⟩:=(Jk W _ x W.length).1 u;have c:k<live.length:=i4
  rw[j,FD c]at b;obtain⟨z,F,rfl⟩:=qu.1 b;unfold JS fN;exact qu.2 ⟨z,zP.2 ⟨live[k],by rw[<-Z.lv];exact qg c,F⟩,i0⟩
theorem XB{live:aC}{t most:Int}{e:Wl.cv}{i:Nat}(Z:uT m live ds t most)(Q:sK m C live ds [])(P:e∈m.aH)(L:i<e.tries.length):
  (dJ m live t most Pow.new ds e i).2.1=Pow.new/\((dJ m live t most Pow.new ds e i).1=0∨(dJ m live t most Pow.new ds e i).1=7∨(dJ m live t most Pow.new ds e i).1=11∨(dJ m live t most Pow.new ds e i).1=12)/\jx m ds (dJ m live t most Pow.new ds e i).2.2.1/\gA m C (dJ m live t most Pow.new ds e i).2.2.1/\sK m C live (dJ m live t most Pow.new ds e i).2.2.1 []/\
  ((dJ m live t most Pow.new ds e i).1=0->iX m live (dJ m live t most Pow.new ds e i).2.2.1 t e i)/\
  (iX m live ds t e i->dJ m live t most Pow.new ds e i=(0,Pow.new,ds,0)):=by
 have a:∀k d,bh ds k=dB d->d.l.length<=512:=λk d E=>by have:=Q.rm k d E;omega
 obtain⟨D,B,A⟩:=adN Z Q.sto P L a;have w:=λh=>Mf (m:=m) (live:=live) (ds:=ds) (o:=e.object) (tries:=e.tries) (i:=i) a (by rw[<-Z.lv]) h;unfold dJ;dsimp only;obtain⟨p,N⟩:∃p,p=fp m live ds e.object e.tries i:=⟨_,rfl⟩
 rw[<-N]at D B A w⊢;by_cases h0:p.1=0
 rotate_left
 ·rw[f9 h0];exact⟨i0,D.elim (λh=>absurd h h0) λh=>.inr (.inr (.inl h)),.refl _,Q.sto,Q,λh=>absurd h h0,λh=>absurd (A h) h0⟩
 rw[g0 λh=>h h0];obtain⟨X,O,I⟩:=B h0;obtain⟨F,f⟩:=w h0;have S:sK m C live ds p.2.got:=by rw[f];exact Q
 obtain⟨z,K,a3,a4,a5,g,v,n,a9⟩:=OF (most:=most) ⟨Z.tt.1,by have:=Z.tt.2;omega⟩ Z.VP Z.c Z.mo.2 65 ds p.2 S X F O;obtain⟨q,J⟩:∃q,q=dF m live t most 65 Pow.new ds p.2:=⟨_,rfl⟩
 rw[<-J]at z K a3 a4 a5 g v n a9⊢;rw[g0 i4,z];obtain⟨R,H,u,y,T⟩:=a4.sync (λs M=>g.gi s M) Z.bV;rw[R,g0 λh=>h rfl];dsimp only;refine⟨H,i4,a3.trans u,y.sto,y,λh=>?_,λh=>?_⟩
 ·have h8:=n h;rw[X.seed]at h8;refine Ru (V:=de m (eW (cM q.2.2.2.got) Pow.new q.2.2.1).2.2 e.object i live) (by rw[nO,g.wl]) (λk x j=>?_) h8;by_cases r:k<live.length
  ·rw[FD r];have:=(v.keep u) k r x j;rw[a5.o,a5.b]at this;exact this
  ·rw[qe,qQ (by rw[g.wl];omega)]at j;cases j
 ·have G:=a9 (by rw[I,X.seed];exact h) i5;rw[G,f];rfl
end Go.Qw
namespace Go.Qw
open Go Go.Vc Go.Proofs Wl
variable {m:aG} {C:Int->bf} {ds:aJ}
theorem uT.next{live:aC}{a:aJ}{t most:Int}(Z:uT m live ds t most)(K:jx m ds a):uT m live a t most:=⟨by rw[K.live];exact Z.lv,Z.VP,Z.tt,Z.c,Z.mo,Z.bV⟩
def okE(e:Int):Prop:=e=0∨e=7∨e=11∨e=12
theorem Jl{live:aC}{t most:Int}{e:Wl.cv}(r:e∈m.aH):∀(l:List Nat) (ds:aJ) (k:Nat),(∀i∈l,i<e.tries.length)->uT m live ds t most->sK m C live ds []->
  (gO m live t most e l Pow.new ds k).2.1=Pow.new/\okE (gO m live t most e l Pow.new ds k).1/\jx m ds (gO m live t most e l Pow.new ds k).2.2.1/\sK m C live (gO m live t most e l Pow.new ds k).2.2.1 []/\
  ((gO m live t most e l Pow.new ds k).1=0->∀i∈l,iX m live (gO m live t most e l Pow.new ds k).2.2.1 t e i)/\
  ((∀i∈l,iX m live ds t e i)->gO m live t most e l Pow.new ds k=(0,Pow.new,ds,k))
 |[],ds,k,_,_,Q=>⟨i0,.inl i0,.refl _,Q,λ_ i v=>(by cases v),λ_=>rfl⟩
 |i::l,ds,k,hl,Z,Q=>by
  obtain⟨d,p,a3,a4,a5,f,c⟩:=XB Z Q r (hl i qN);unfold gO;dsimp only;obtain⟨b,u⟩:∃b,b=dJ m live t most Pow.new ds e i:=⟨_,rfl⟩
  rw[<-u]at d p a3 a4 a5 f c⊢;by_cases h0:b.1=0
  rotate_left
  ·rw[f9 h0];exact⟨d,p,a3,a5,λh=>absurd h h0,λh=>absurd (by rw[c (h i qN)]) h0⟩
  rw[g0 λh=>h h0,d];obtain⟨s,y,c3,x,w,q⟩:=Jl r l b.2.2.1 (k+b.2.2.2) (λj a=>hl j (qG _ a)) (Z.next a3) a5;refine⟨s,y,a3.trans c3,x,λh j a=>?_,λh=>?_⟩
  ·rcases zb.1 a with rfl|a
   ·exact(f h0).keep c3
   ·exact w h j a
  ·have g:=c (h i qN);have o:b.2.2.1=ds:=by rw[g]
   have n:b.2.2.2=0:=by rw[g]
   rw[o,n,wN]at q;rw[o,n,wN];exact q λj a=>h j (qG _ a)
theorem OG{live:aC}{t most:Int}:∀(l:List Wl.cv) (ds:aJ) (k:Nat),(∀e∈l,e∈m.aH)->uT m live ds t most->sK m C live ds []->
  (lc m live t most l Pow.new ds k).2.1=Pow.new/\okE (lc m live t most l Pow.new ds k).1/\jx m ds (lc m live t most l Pow.new ds k).2.2.1/\sK m C live (lc m live t most l Pow.new ds k).2.2.1 []/\
  ((lc m live t most l Pow.new ds k).1=0->∀e∈l,∀i<e.tries.length,iX m live (lc m live t most l Pow.new ds k).2.2.1 t e i)/\
  ((∀e∈l,∀i<e.tries.length,iX m live ds t e i)->lc m live t most l Pow.new ds k=(0,Pow.new,ds,k))
 |[],ds,k,_,_,Q=>⟨i0,.inl i0,.refl _,Q,λ_ i a=>(by cases a),λ_=>rfl⟩
 |e::l,ds,k,hl,Z,Q=>by
  obtain⟨f,o,a3,a5,g,d⟩:=Jl (hl e qN) (qy e.tries.length) ds k (λi a=>qJ.1 a) Z Q;unfold lc;dsimp only;obtain⟨b,u⟩:∃b,b=gO m live t most e (qy e.tries.length) Pow.new ds k:=⟨_,rfl⟩
  rw[<-u]at f o a3 a5 g d⊢;by_cases h0:b.1=0
  rotate_left
  ·rw[f9 h0];exact⟨f,o,a3,a5,λh=>absurd h h0,λh=>absurd (by rw[d λi a=>h e qN i (qJ.1 a)]) h0⟩
  rw[g0 λh=>h h0,f];obtain⟨s,x,c3,w,v,p⟩:=OG l b.2.2.1 b.2.2.2 (λj c=>hl j (qG _ c)) (Z.next a3) a5;refine⟨s,x,a3.trans c3,w,λh j c=>?_,λh=>?_⟩
  ·rcases zb.1 c with rfl|c
   ·exactλi a=>(g h0 i (qJ.2 a)).keep c3
   ·exact v h j c
  ·have n:=d λi a=>h e qN i (qJ.1 a);have r:b.2.2.1=ds:=by rw[n]
   have q:b.2.2.2=k:=by rw[n]
   rw[r,q]at p⊢;exact p λj c=>h j (qG _ c)
theorem OH{live:aC}{t most:Int}(Z:uT m live ds t most)(S:gA m C ds)(g:∀k d,bh ds k=dB d->d.l.length<=d.room/\d.room<=512)(p:∀k d,bh ds k=dB d->d.wait=0):
  (gn m 0 Pow.new ds t most).2.2.1=Pow.new/\okE (gn m 0 Pow.new ds t most).2.1/\jx m ds (gn m 0 Pow.new ds t most).2.2.2/\gA m C (gn m 0 Pow.new ds t most).2.2.2/\
  (∀k d,bh (gn m 0 Pow.new ds t most).2.2.2 k=dB d->d.l.length<=d.room/\d.wait=0)/\
  ((gn m 0 Pow.new ds t most).2.1=0->sK m C live (gn m 0 Pow.new ds t most).2.2.2 []/\∀e∈m.aH,∀i<e.tries.length,iX m live (gn m 0 Pow.new ds t most).2.2.2 t e i)/\
  ((∀k∈live,∀d,bh ds k=dB d->Tidy m d)->(∀e∈m.aH,∀i<e.tries.length,iX m live ds t e i)->(gn m 0 Pow.new ds t most).1=0/\(gn m 0 Pow.new ds t most).2.1=0):=by
 have n:∀k∈live,∃d,bh ds k=dB d/\d.lost=eR:=λk f=>(kr (by rw[<-Z.lv];exact f)).2;have r:live.Nodup:=by rw[Z.lv];exact sg (xF S.may)
 obtain⟨u,z,a3,a4,a5,x,y⟩:=FE r S n λk d a=>⟨(g k d a).1,p k d a⟩
 have M:=Z.tt;have J:=Z.c;have B:=Z.mo;have H:gn m 0 Pow.new ds t most=(let c:=dq m live Pow.new ds;if c.1≠0 then(0,c.1,c.2.1,c.2.2)else(let q:=lc m live t most m.aH c.2.1 c.2.2 0;(q.2.2.2,q.1,q.2.1,q.2.2.1))):=by unfold gn;rw[<-Z.lv,g0 i5,g0 i4,g0 J]
 rw[H];dsimp only;obtain⟨c,v⟩:∃c,c=dq m live Pow.new ds:=⟨_,rfl⟩
 rw[<-v]at u z a3 a4 a5 x y⊢;have b:∀k d,bh c.2.2 k=dB d->d.l.length<=d.room/\d.room<=512:=λk d a=>by
  refine⟨(a5 k d a).1,?_⟩;cases h:bh ds k with
  |none=>rw[a4.no k h]at a;cases a
  |some d0=>
   obtain⟨A,e,w⟩:=a4.at_ k d0 h;rw[a]at e;injection e with e;rw[e,w.room];exact(g k d0 h).2
 by_cases h0:c.1=0
 rotate_left
 ·rw[f9 h0];refine⟨u,z.elim (λh=>absurd h h0) λh=>.inr (.inl h),a4,a3,a5,λh=>absurd h h0,λh _=>absurd (x λk d a f=>?_) h0⟩;have:=h k f d a;exact zf this.keep this.room
 rw[g0 λh=>h h0,u];have Q:sK m C live c.2.2 []:=⟨a3,λk f=>by
  obtain⟨d,a,I⟩:=n k f;obtain⟨A,e,w⟩:=a4.at_ k d a;exact⟨A,e,by rw[w.lost];exact I⟩,λk d a=>.inl (a5 k d a).2,λk f d a=>y h0 k f d a,b⟩
 obtain⟨L,G,D,o,E,K⟩:=OG m.aH c.2.2 0 (λe j=>j) (Z.next a4) Q;refine⟨L,G,a4.trans D,o.sto,λk d a=>⟨(o.rm k d a).1,?_⟩,λh=>⟨o,λe j i s=>E h e j i s⟩,λ_ h=>?_⟩
 ·rcases o.wt k d a with h|h
  ·exact h
  ·cases h
 ·have F:=K λe j i s=>(h e j i s).keep a4;rw[F];exact⟨i0,i0⟩
end Go.Qw
namespace Wl
open Go Go.Vc Go.Qw
def iY(l:List cv):List (Int×Int×Int):=l.flatMap λe=>(qy e.tries.length).map λi:Nat=>(e.object,(i:Int),cz e.object i (e.tries.getD i 0))
theorem VR{l:List cv}{i:Nat}(h:i<l.length):iY (l.take (i+1))=iY (l.take i)++((qy l[i].tries.length).map λj:Nat=>(l[i].object,(j:Int),cz l[i].object j (l[i].tries.getD j 0))):=by unfold iY;rw[aK _ _ h,List.flatMap_append,zk,zZ,qO]
theorem XC{l:List cv}{x:Int×Int×Int}(h:x∈iY l):∃e∈l,∃i,i<e.tries.length/\x=(e.object,(i:Int),cz e.object i (e.tries.getD i 0)):=by obtain⟨e,c,b⟩:=zP.1 h;obtain⟨i,a,rfl⟩:=qu.1 b;exact⟨e,c,i,qJ.1 a,i0⟩
theorem KT{l:List cv}{c n:Nat}(h:∀e∈l,e.tries.length<=c)(b:l.length<=n):(iY l).length<=n*c:=by unfold iY;refine zf (Go.Qw.JL (c:=c) λe a=>?_) (zH _ b);rw[qz,zE];exact h e a
end Wl
namespace Go.Qw
open Go Go.Vc Go.Proofs Wl
def sM(x:Int×Int×Int):bg:=[xq xx x.1,xq xx x.2.1,xq xz x.2.2]
theorem ajE:∀x,∀c∈sM x,c.oneCell'=eL:=by intro x c a;simp[sM]at a;rcases a with rfl|rfl|rfl<;>rfl
abbrev eBq:bY C.toDi 49 48 3 [xq xx 0,xq xx 0,xq xz 0] 24:=⟨_,_,i0,i0,i0,i0,i0,i0⟩
theorem Sq(y:bU)(m:aG)(h:Heap)(W:df h y m)(M:bS m=eL):
  ac xB 17 #[fw y] h λv h'=>∃r:Sl,v=r/\Sp h h' [ak 48 r 3 sM (iY m.aH)]:=by
 refine uI y ?_;unfold nv;have K:m.aH.length<=12:=((cD m).1 M).2.2.2.1;have f:∀e∈m.aH,e.tries.length<=8:=λe G=>by
  have F:=(ig m e).1 (((cD m).1 M).2.2.2.2.1 e G);have S:=oc F.2.2.1.2;omega
 obtain⟨N,L,q2,X⟩:=bO.kt W.aH;have T:=L.len;refine(Sp.refl h).boxed λn F q=>?_;have q:Sp h F [ak 48 ⟨eH,0,0⟩ 3 sM (iY (m.aH.take 0)),au n 44 (aV y)]:=((q.nil 48 3 sM).cG [1,0])
 refine⟨y.2.2.2.2.2.2.2,(q.box 1 i0).cell i0,?_⟩;refine aA (λt:Sl×Nat=>(t.1,(t.2:Int))) (λt h'=>t.2<=m.aH.length/\Sp h h' [ak 48 t.1 3 sM (iY (m.aH.take t.2)),au n 44 (aV y)]) (λt=>m.aH.length-t.2) (⟨eH,0,0⟩,0) i0 ⟨zt _,q⟩ ?_;rintro⟨u,i⟩ S ⟨V,d⟩;dsimp only at V d⊢;refine ai (λe=>?_) λe=>?_
 rotate_left
 ·have H:i=m.aH.length:=i4
  rw[H,List.take_length]at d;exact⟨u,i0,d.cG [0]⟩
 have a:i<m.aH.length:=i4
 have l:i<N.length:=i4
 obtain⟨E,B⟩:∃E,E=m.aH[i]:=⟨_,rfl⟩
 have ab:E.tries.length<=8:=f E (by rw[B];exact qg a);have b:=X i l a;rw[<-B]at b;obtain⟨x,o⟩:∃x,x=N[i]:=⟨_,rfl⟩
 rw[<-o]at b;obtain⟨⟨k1,w,k3⟩,I⟩:=b;have ad:=I.len;refine(Seq.up L d.aj).eu (g:=bI) i i0 l x (by rw[o]) ?_;refine d.alloc af i0 λA h3 H3=>?_;refine H3.storeAll af 2 i0 i0 (bI x) i0 i0 i0 i0 λU z=>?_;have z:Sp h U [ak 48 u 3 sM (iY (m.aH.take i)++((qy 0).map λj:Nat=>(E.object,(j:Int),cz E.object j (E.tries.getD j 0)))),au n 44 (aV y),au A 94 (bI x)]:=by rw[List.range_zero,List.map_nil,qO];exact z
 refine⟨x.2.2.2,(z.box 2 i0).cell i0,?_⟩;have J:(iY (m.aH.take i)).length<=12*8:=KT (λe G=>f e (List.mem_of_mem_take G)) i7;refine aA (λt:Sl×Nat=>(t.1,(t.2:Int))) (λt h'=>t.2<=E.tries.length/\Sp h h' [ak 48 t.1 3 sM (iY (m.aH.take i)++((qy t.2).map λj:Nat=>(E.object,(j:Int),cz E.object j (E.tries.getD j 0)))),au n 44 (aV y),au A 94 (bI x)]) (λt=>E.tries.length-t.2) (u,0) i0 ⟨zt _,z⟩ ?_;rintro⟨Z,j⟩ h5 ⟨P,c⟩;dsimp only at P c⊢;refine ai (λQ=>?_) λQ=>?_
 rotate_left
 ·have D:j=E.tries.length:=i4
  refine⟨(Z,i+1),jj,⟨i6,?_⟩,i6⟩;dsimp only;rw[VR a,<-B,<-D];exact c.cG [0,1]
 have k:j<E.tries.length:=i4
 have R:=Seq.up I c.aj;refine R.bH j i0 k E.tries[j] i0 ?_;have s:=c.box 2 i0;refine⟨x.2.1,s.cell i0,x.2.1,s.cell i0,?_⟩;refine(rV x.2.1 j E.tries[j] h5).mono ?_;rintro _ _ ⟨rfl,rfl⟩;refine⟨_,i0,⟨s.cell i0,trivial⟩,?_⟩;have Y:cz x.2.1 j E.tries[j]=cz E.object j (E.tries.getD j 0):=by rw[w,fu 0 k]
 rw[Y,w];refine c.nQ af sM eBq i0 [(E.object,(j:Int),cz E.object j (E.tries.getD j 0))] i0 (show 1*3<=2^20 by decide) j1 ⟨by rw[<-w];exact s.cell i0,trivial⟩ ?_;refine c.push af 0 i0 eBq i0 i5 (λ_=>rfl) ajE (E.object,(j:Int),cz E.object j (E.tries.getD j 0)) j1 i5 i7 λu3 O p=>?_;have p:Sp h O [ak 48 u3 3 sM ((iY (m.aH.take i)++((qy j).map λj:Nat=>(E.object,(j:Int),cz E.object j (E.tries.getD j 0))))++[(E.object,(j:Int),cz E.object j (E.tries.getD j 0))]),au n 44 (aV y),au A 94 (bI x)]:=p;refine⟨⟨by rw[<-w];exact(p.box 2 i0).cell i0,trivial⟩,?_⟩;refine⟨(u3,j+1),jj,⟨i6,?_⟩,i6⟩;dsimp only;rw[List.range_succ,qU,List.map_singleton,<-qp];exact p
section
variable {B:aD} {h0 h:Heap} {As:List HP} {a pw:Addr} {offs:Int} {da:List aO} {w:Pow} {ds:aJ} {m:aG}
end
section
variable {B:aD} {h0 h:Heap} {As:List HP} {a pw:Addr} {offs:Int} {da:List aO} {w:Pow} {ds:aJ} {m:aG}
end
section
variable {B:aD} {h0 h:Heap} {As:List HP} {a pw:Addr} {offs:Int} {da:List aO} {w:Pow} {ds:aJ}
end
section
end
theorem akq{l:aC}{i:Nat}(a:i<ii l):((l.take i).map (60+·)++l.drop i).set i (60+l[i])=(l.take (i+1)).map (60+·)++l.drop (i+1):=by rw[List.set_append_right _ _ i7,aK _ _ a,qU,qp];congr 1;rw[show i-ii ((l.take i).map (60+·))=0 by simp;omega,List.drop_eq_getElem_cons a];rfl
theorem akr{l:aC}{i:Nat}(a:i<ii l)(h:i<ii ((l.take i).map (60+·)++l.drop i)):((l.take i).map (60+·)++l.drop i)[i]=l[i]:=by rw[List.getElem_append_right i7];simp[show i+(i-min i l.length)=i by omega]
theorem mX.bV{p:Pm}{b:Mv}(h:mX p b):(b.kind=6->(0<=b.slot/\b.slot<9)/\6<=b.n/\b.n<66)/\(b.kind=11->(0<=b.n/\b.n<40)/\(0<=b.m/\b.m<61)/\0<=b.mask/\b.mask<4294967296):=by unfold mX at h;omega
section
variable {B:aD} {h0 h:Heap} {As:List HP} {a pw:Addr} {offs:Int} {da:List aO} {w:Pow} {ds:aJ} {m:aG}
theorem adO{k:Int}{d:bt}{b:Addr}(i:Int)(c:bh ds k=dB d)(g:gr da k=dB b)(H:aa B h0 h (bB a pw da offs w ds m::As)):
  ac xB 77 #[xt (dB b),xq xx i] h λv h'=>∃r:Sl,v=r/\Sp h h' [ak 5 r 1 aF (if 0<=i then d.l.getD i.toNat []else[])]:=by
 obtain⟨s,e,f,j,n⟩:=LW c g H;exact abK s e i f j n.cell
theorem VS(i:Int)(h:Heap):ac xB 77 #[xt eH,xq xx i] h λv h'=>v=xr eH 0 0/\Sp h h' []:=by refine rF eH i ?_;unfold nw;exact bj (bC (λ_=>⟨i0,Sp.refl h⟩) λe=>j0)
theorem aaF{l:cL}{i:Int}(h:fz (if 0<=i then l.getD i.toNat []else[])≠eH):∃j:Nat,i=j/\∃b:j<ii l,fz l[j]≠eH:=by
 have a:fz []=eH:=i5
 by_cases c:0<=i
 ·rw[f9 c]at h;by_cases b:i.toNat<ii l
  ·rw[fu [] b]at h;exact⟨i.toNat,i4,b,h⟩
  ·rw[qe,qQ i4]at h;exact absurd a h
 ·rw[g0 c]at h;exact absurd a h
theorem aaG{k:Int}{d:bt}{b:Addr}(i at_ c:Int)(n:0<=c/\c<2^32)(g:bh ds k=dB d)(l:gr da k=dB b)(H:aa B h0 h (bB a pw da offs w ds m::As)):
  ac xB 78 #[xt (dB b),xq xx i,xq xx at_,xq xz c] h λv h'=>∃z:Bool,v=xv z/\aa B h0 h' (bB a pw da offs w (bQ ds k (d.lK i at_ c)) m::As):=by
 obtain⟨o,A2,j,e⟩:=Jc g l H;refine(aaw i at_ c n j).mono ?_;rintro _ h' ⟨rfl,f⟩;exact⟨_,i0,e _ _ _ f⟩
end
theorem adP(c0:Sl)(l:aC)(s1:Sl)(l1:aC)(most:Nat)(h:Heap)(hs:Rd h c0 1 av l)(bq:Rd h s1 1 av l1)(a4:most<=100):
  ac xB 24 #[c0,s1,xq xx most] h λv h'=>
   ∃(a pw:Addr) (da:List aO) (ds:aJ) (m:aG) (C:Int->bf),v=xt (dB a)/\Wn (jl l) m C ds/\Sp h h' [bB a pw da 0 Pow.new ds m]:=by
 refine Az c0 s1 most ?_;unfold oE;refine(WW c0 l h hs).mono ?_;rintro _ h1 ⟨r,rfl,R1⟩;refine⟨(jl l,ZQ l,r),i0,R1.alloc af i0 λa2 h2 H2=>?_⟩;refine H2.storeAll af 1 i0 i0 [xq xx (jl l).1,xq xx (jl l).2.1,xq xx (jl l).2.2] i0 i0 i0 i0 λh3 H3=>?_;obtain⟨p,K⟩:∃p,p=jl l:=⟨_,rfl⟩
 obtain⟨E,hE⟩:∃E,E=ZQ l:=⟨_,rfl⟩
 obtain⟨c,hc⟩:∃c,c=uR l:=⟨_,rfl⟩
 obtain⟨L,hL⟩:∃L,L=Ft l:=⟨_,rfl⟩
 have a5:ii L=c:=by rw[hL,hc];exact Vi l
 have b0:2<=c/\c<=5:=by rw[hc];exact Yi l
 have hp:bP p=eL:=by rw[K];exact acH _ _ _
 have ax:p.1<=6/\p.2.2<=9:=by rw[K];unfold jl Ee;dsimp only;omega
 have b5:=(cu p).1 hp;have b2:0<=E/\E<=6:=by rw[hE];unfold ZQ;omega
 have ar:∀x∈L,8<=x/\x<=57:=λx hx=>by
  rw[hL]at hx;obtain⟨i,_,rfl⟩:=qu.1 hx;omega
 rw[<-K,<-hE];rw[<-K,<-hL]at H3;have H3:Sp h h3 [ak 3 r 1 av ((L.take 0).map (60+·)++L.drop 0),au a2 24 [xq xx p.1,xq xx p.2.1,xq xx p.2.2]]:=H3;have b7:r.len=c:=by rw[<-a5,(H3.own 0 i0).len];rfl
 refine aA (λi:Nat=>(i:Int)) (λi h'=>i<=c/\Sp h h' [ak 3 r 1 av ((L.take i).map (60+·)++L.drop i),au a2 24 [xq xx p.1,xq xx p.2.1,xq xx p.2.2]]) (λi=>c-i) 0 i0 ⟨i4,H3⟩ ?_;rintro i h4 ⟨hi,O⟩;dsimp only;refine ai (λe=>?_) λe=>?_
 ·have n:i<ii L:=i4
  have V:i<ii ((L.take i).map (60+·)++L.drop i):=i7
  refine(O.seq 0 i0 λ_=>rfl).bH i i0 V L[i] (congrArg av (akr n V)) ?_;have hg:=ar _ (qg n);rw[al (60+L[i])];refine O.set af 0 i0 (λ_=>rfl) i0 i i0 V (60+L[i]) i0 i0 i0 λh6 H6=>?_;rw[akq n]at H6;exact⟨i+1,js,⟨i4,H6⟩,i4⟩
 have bk:i=ii L:=i4
 subst bk;rw[List.drop_of_length_le i4,qO,qi i4]at O;obtain⟨G,hG⟩:∃G,G=L.map (60+·):=⟨_,rfl⟩
 rw[<-hG]at O;have cl:ii G=ii L:=by rw[hG,qz]
 have a8:∀x∈G,1<=x/\x<=512:=by rw[hG];intro x hx;obtain⟨y,hy,rfl⟩:=qu.1 hx;have:=ar y hy;omega
 obtain⟨e0,a3⟩:=ahT (extra:=E) hp i4 (show 1<=ii G/\G.length<=24 by omega) a8;refine bX (λ(t:aO×Int) h'=>∃(a pw:Addr) (da:List aO) (D:aJ),t=(dB a,0)/\D.length=64/\(∀s,bh D s=if s∈bv G G.length then dB ⟨(G.getD s.toNat 0).toNat,bu (cH p E G),0,[],eR,eR⟩else eH)/\
  Sp h h' [bB a pw da 0 Pow.new D (cH p E G),ak 3 r 1 av G,au a2 24 [xq xx p.1,xq xx p.2.1,xq xx p.2.2]]) ?_ ?_
 ·refine⟨p,(O.box 1 i0).aU _ i0,(QM h4).mono ?_⟩;rintro _ h6 ⟨pw,rfl,R6⟩;have H6:=O.co R6;refine⟨_,i0,kL R6.aj ⟨(O.box 1 i0).cell0 i0,(O.box 1 i0).cell i0,(O.box 1 i0).cell i0,trivial⟩,?_⟩;refine(Oh p E r G (As:=[ak 3 r 1 av G,au a2 24 [xq xx p.1,xq xx p.2.1,xq xx p.2.2]]) (St.dS 0 i0 λh' J=>J.1.seq (λ_=>rfl) J.2) i4 e0 i0 H6).mono ?_;rintro _ h7 ⟨a,da,D,rfl,f2,f3,H7⟩;exact⟨(dB a,0),i0,trivial,a,pw,da,D,i0,f2,f3,H7⟩
 rintro⟨_,_⟩ h8 ⟨a,pw,da,D,he,f2,f3,H8⟩;injection he with he1 he2
 subst he1 he2;obtain⟨S0,F0,L0⟩:=adz (m:=cH p E G) rfl e0 i4 f2 f3 λ_=>[];have ab:(cH p E G).drives=(qy G.length).map λi:Nat=>(i:Int):=a3;have I0:Wn p (cH p E G) (λ_=>[]) D:=by
  refine⟨S0,?_,λk Z=>?_,i0,λk d w=>by
   rw[f3]at w;split at w
   ·injection w with w;subst w;rfl
   ·cases w⟩
  ·rw[F0.aT,ab];intro h;have h2:ii G=0:=by have:=congrArg List.length h;rw[qz,zE]at this;exact this
   omega
  ·rw[ab]at Z;obtain⟨i,hi,rfl⟩:=qu.1 Z;have:=qJ.1 hi;omega
 refine bj (cb (λe=>absurd i0 e) λ_=>bC (λe=>j0) λ_=>?_);refine⟨p,(H8.box 2 i0).aU _ i0,?_⟩;refine(aav p s1 l1 most h8 hp (bq.up H8.aj) a4).mono ?_;rintro _ a7 ⟨q,M,rfl,hM,b4,Y⟩;obtain⟨rs,Y⟩:=Y.OT 0 rfl λ_=>rfl;have F:Sp h a7 [bB a pw da 0 Pow.new D (cH p E G),ak 3 r 1 av G,au a2 24 [xq xx p.1,xq xx p.2.1,xq xx p.2.2],cO mE 9 oR q rs M]:=H8.comp Y;have F:=F.cG [0,3];refine⟨q,i0,?_⟩;have b9:q.len=ii M:=by rw[(F.eV 1 i0).1.len,(F.eV 1 i0).2.1]
 refine aA (λi:Nat=>(i:Int)) (λi h'=>i<=ii M/\∃da ds m C,Wn p m C ds/\Sp h h' [bB a pw da 0 Pow.new ds m,cO mE 9 oR q rs M]) (λi=>ii M-i) 0 i0 ⟨i4,da,D,_,_,I0,F⟩ ?_;rintro i b6 ⟨hi,da,ds,m,C,I,U⟩;dsimp only;refine ai (λe=>?_) λe=>⟨a,pw,da,ds,m,C,i0,I,U.cG [0]⟩
 have n:i<ii M:=i4
 have hF:=U.eV 1 i0;have bd:i<ii rs:=by rw[hF.2.1];exact n
 have next:∀{h':Heap} {N:List aO} {ds':aJ} {X:aG} {C':Int->bf} {ah:List HP},Wn p X C' ds'->Sp h h' (bB a pw N 0 Pow.new ds' X::cO mE 9 oR q rs M::ah)->
   ∃t:Nat,(qc xx ((i:Int)+1):Int)=(t:Int)/\(t<=ii M/\∃da ds m C,Wn p m C ds/\Sp h h' [bB a pw da 0 Pow.new ds m,cO mE 9 oR q rs M])/\M.length-t<ii M-i:=λ{h' N ds' X C' ah} W H'=>
  ⟨i+1,js,⟨i4,N,ds',X,C',W,H'.aX 2 [0,1]|>λz=>aa.Tf (As:=[_,_]) z⟩,i4⟩
 refine hF.1.eu i i0 bd rs[i] i0 ?_;refine U.alloc af i0 λad b3 bb=>?_;refine bb.storeAll af 2 i0 i0 (oR rs[i]) i0 i0 i0 i0 λa9 g=>?_;have g:Sp h a9 [bB a pw da 0 Pow.new ds m,cO mE 9 oR q rs M,au ad 135 (oR rs[i])]:=g;have Q:=g.box 2 i0;obtain⟨⟨k1,k2,k3,k4,k5,k6,kc⟩,kd,_,_⟩:=Fix.row (g.eV 1 rfl) n;have Z:mX p M[i]:=hM _ (qg n);refine⟨rs[i].1,Q.cell0 i0,cy (λR=>?_) λ_=>cy (λR=>?_) λ_=>cy (λR=>?_) λ_=>cy (λR=>?_) λ_=>cy (λR=>?_) λ_=>next I g⟩
 ·obtain⟨n1,n2⟩:=mX.put Z (k1.symm.trans R);have cd:p.1*p.2.2<=6*9:=Int.mul_le_mul ax.1 ax.2 i4 i4;refine⟨rs[i].2.1,Q.cell i0,rs[i].2.2.1,Q.cell i0,?_⟩;rw[k2];refine(ahG (As:=[cO mE 9 oR q rs M,au ad 135 (oR rs[i])]) M[i].name rs[i].2.2.1 M[i].data (St.dS (A:=cO mE 9 oR q rs M) 0 i0 λh' J=>(Fix.row J n).2.1) kc (by have:=afK _ n1;omega) I.sto.may i4 g).mono ?_;rintro _ u ⟨rfl,f⟩;obtain⟨e,X,C',ds',J,W⟩:=I.put M[i].name M[i].data;rw[J]at f;exact⟨_,i0,next W f⟩
 ·refine⟨rs[i].2.1,Q.cell i0,(aat rs[i].2.1 I.sto.may g).mono ?_⟩;rintro _ u ⟨rfl,f⟩;obtain⟨e,X,ds',J,W⟩:=I.del rs[i].2.1;rw[J]at f;exact⟨_,i0,next W f⟩
 ·obtain⟨t1,t2,t3⟩:=(mX.bV Z).2 (k1.symm.trans R);refine⟨rs[i].2.2.2.1,Q.cell i0,(uy rs[i].2.2.2.1 g).mono ?_⟩;rintro _ _ ⟨rfl,rfl⟩;refine⟨_,i0,rs[i].2.2.2.2.1,Q.cell i0,?_⟩;cases w:bh ds rs[i].2.2.2.1 with
  |none=>
   rw[acI w g];refine(VS _ _).mono ?_;rintro _ u ⟨rfl,o⟩;have f:=g.up o.aj;refine⟨⟨eH,0,0⟩,i0,(Ff ⟨eH,0,0⟩ [] u (Seq.nil _ _ _ _ _ _) i9 (qm _)).mono ?_⟩;rintro _ ao ⟨c1,_⟩;obtain⟨rfl,H⟩:=c1 i5;exact⟨(0,⟨eH,0,0⟩,eR),i0,bC (λh=>j6) λ_=>next I (f.up H.aj)⟩
  |some d=>
   obtain⟨b,T⟩:=JN w g;rw[T];refine(adO rs[i].2.2.2.2.1 w T g).mono ?_;rintro _ u ⟨am,rfl,o⟩;have f:=g.co o;have a1:=(I.sto.cells _ _ w)
   obtain⟨cc,S⟩:∃cc,cc=(if 0<=rs[i].2.2.2.2.1 then d.l.getD rs[i].2.2.2.2.1.toNat []else[]):=⟨_,rfl⟩
   rw[<-S]at o f;have bs:ii cc<=64:=by
    have a0:=((nJ g).2 _ _ w).2.2.cell;rw[S];split
    ·by_cases hj:rs[i].2.2.2.2.1.toNat<ii d.l
     ·rw[fu [] hj,a0 _ (qg hj)];exact qm _
     ·rw[qe,qQ i4];exact zt _
    ·exact zt _
   refine⟨am,i0,(Ff am cc u (f.seq 0 i0 λ_=>rfl) i4 (f.own 0 i0).cap).mono ?_⟩;rintro _ ao ⟨c1,c2⟩;cases ht:fz cc with
   |none=>
    obtain⟨rfl,H⟩:=c1 ht;exact⟨(0,⟨eH,0,0⟩,eR),i0,bC (λh=>j6) λ_=>next I (f.up H.aj).rest⟩
   |some kx=>
    obtain⟨ay,rfl,H⟩:=c2 kx.1 kx.2 ht;have P:=(f.up H.aj).rest;have B:=P.box 2 i0;obtain⟨j,a6,bl,br⟩:=aaF (l:=d.l) (i:=rs[i].2.2.2.2.1) (by rw[<-S,ht];exactλh=>j6);refine⟨(kx.1,ay,eL),i0,bC (λ_=>?_) λh=>j6⟩;refine⟨rs[i].2.2.2.2.1,B.cell i0,rs[i].2.2.2.2.2.1,B.cell i0,rs[i].2.2.2.2.2.2.1,B.cell i0,(aaG _ _ _ (by rw[k6];exact t3) w T P).mono ?_⟩;rintro _ cf ⟨z,rfl,ap⟩;rw[a6]at ap;exact⟨_,i0,next (I.lK w bl br (by rw[k5];omega)) ap⟩
 ·obtain⟨t1,t2,t3⟩:=(mX.bV Z).1 (k1.symm.trans R);refine⟨rs[i].2.2.2.1,Q.cell i0,rs[i].2.2.2.2.1,Q.cell i0,?_⟩;refine(ahH rs[i].2.2.2.1 (qc xx (rs[i].2.2.2.2.1+40)) I.sto.may g).mono ?_;rintro _ u ⟨rfl,N,f⟩;obtain⟨e,X,ds',J,W⟩:=I.add (slot:=rs[i].2.2.2.1) (by rw[k3];exact t1) (qc xx (rs[i].2.2.2.2.1+40));rw[J]at f;exact⟨_,i0,next W f⟩
 ·refine(Fs I.sto.may g).mono ?_;rintro _ u ⟨lv,rfl,o⟩;have b1:=(o.own 0 i0).len;have f:=g.up o.aj;refine⟨lv,i0,ai (λe2=>?_) λe2=>next I f⟩;refine⟨rs[i].2.2.2.1,(f.box 2 i0).cell i0,(afM rs[i].2.2.2.1 I.sto.may f).mono ?_⟩;rintro _ ao ⟨rfl,P⟩;exact⟨_,i0,next (I.Et _ i4) P⟩
theorem Wn.set{p:Pm}{m:aG}{C:Int->bf}{ds:aJ}(W:Wn p m C ds){t most:Int}(a:0<=t)(d:t<ii (aT ds m.drives))(h3:t<=3)(f:0<=most/\most<=64):uT m (aT ds m.drives) ds t most:=by have c:=W.VP;have b:=adF ⟨ii (aT ds m.drives),i4⟩ ⟨t.toNat,i4⟩;dsimp only at b;rw[Int.toNat_of_nonneg a]at b;exact⟨i0,c,⟨a,d⟩,i4,f,λs e=>lq W.sto.may s (kr e).1⟩
theorem aaH{m:aG}{C:Int->bf}{live:aC}{ds:aJ}{t most:Int}{e:Wl.cv}{i:Nat}(Z:uT m live ds t most)(S:gA m C ds)(b:iX m live ds t e i):gF m.p (cz e.object i (e.tries.getD i 0)) (de m ds e.object i live) t=([],eR,0):=by have a:=nO m ds e.object i live;have g:=Z.tt;have f:=Z.VP;have d:=Z.c;rw[Ry S.VD (by rw[a];omega) (by rw[a];omega) (by rw[a];exact d)];unfold iX at b;rw[b]
theorem OI(c0:Sl)(l:aC)(s1:Sl)(l1:aC)(t most:Int)(h:Heap)(hs:Rd h c0 1 av l)(c1:Rd h s1 1 av l1):
  ac xB 6 #[c0,s1,xq xx t,xq xx most] h λv h'=>v=xv eL/\Sp h h' []:=by
 refine rC c0 s1 t most ?_;unfold lS;refine(adP c0 l s1 l1 10 h hs c1 i5).mono ?_;rintro _ h1 ⟨a,pw,da,ds,m,C,rfl,W,H1⟩;have K:=W.sto.may;have br:=kb K;refine⟨dB a,i0,bC (λe=>j0) λ_=>(Fs K H1).mono ?_⟩;rintro _ h2 ⟨I,rfl,R2⟩;have L:=(R2.own 0 i0).len;have H2:=H1.comp R2;obtain⟨live,f⟩:∃live,live=aT ds m.drives:=⟨_,rfl⟩
 obtain⟨n,hn⟩:∃n,n=ii live:=⟨_,rfl⟩
 have c5:1<=n:=by rw[hn,f];exact List.length_pos_iff.2 W.live
 have c7:n<=9:=by rw[hn,f];exact W.VP
 rw[<-f]at L H2;rw[<-hn]at L;obtain⟨N,hN⟩:∃N:Int,N=(if(4:Int)<(I.len:Int)then(4:Int)else(I.len:Int)):=⟨_,rfl⟩
 have dk:1<=N/\N<=4/\N<=n:=by rw[hN];split<;>omega
 refine⟨I,i0,?_⟩;dsimp only;rw[<-hN];refine(cm t N h2 i4 i4).mono ?_;rintro _ _ ⟨rfl,rfl⟩;have q0:=Int.emod_nonneg t (show N≠0 by omega);have q1:=Int.emod_lt_of_pos t (show 0<N by omega);obtain⟨T,hT⟩:∃T:Int,T=t%N:=⟨_,rfl⟩
 rw[<-hT]at q0 q1⊢;refine⟨T,i0,(cm most 65 _ i5 i5).mono ?_⟩;rintro _ _ ⟨rfl,rfl⟩;obtain⟨M,hM⟩:∃M:Int,M=most%65:=⟨_,rfl⟩
 have cd:0<=M/\M<=64:=by rw[hM];omega
 rw[<-hM];have Z:uT m live ds T M:=by rw[f];exact W.set q0 (by rw[<-f,<-hn];omega) i4 cd
 have H2:Sp h _ [bB a pw da 0 Pow.new ds m,ak 3 I 1 av live]:=H2;have ap:=λk d s=>((nJ H2).2 k d s)
 obtain⟨a1,a2,a3,a4,a5,a6,_⟩:=OH Z W.sto (λk d s=>⟨(ap k d s).1,(ap k d s).2.1⟩) W.wt;refine⟨M,i0,(OB T M K i4 H2).mono ?_⟩;obtain⟨R,hR⟩:∃R,R=gn m 0 Pow.new ds T M:=⟨_,rfl⟩
 rw[<-hR]at a1 a2 a3 a4 a5 a6⊢;rintro _ h5 ⟨rfl,X⟩;rw[a1]at X;have w:∀{h':Heap} {As:List HP},Sp h h' As->ae xB 14 #[] bN h' λr6 h6=>(λv b0=>v=Value.bool eL/\Sp h b0 []) (Value.bool r6) h6:=λ{h' As} H'=>by
  refine(Vj h').mono ?_;rintro _ h6 ⟨rfl,R6⟩;exact⟨eL,i0,i0,.zip (H'.up R6.aj).aj⟩
 refine⟨((R.1:Int),R.2.1),i0,cb (λe=>?_) λe=>?_⟩
 ·refine cy (λ_=>w X) λcr=>cy (λ_=>w X) λe7=>cy (λ_=>w X) λcp=>?_;rcases a2 with h|h|h|h
  ·exact absurd h e
  ·exact absurd h e7
  ·exact absurd h cp
  ·exact absurd h cr
 obtain⟨Q,u⟩:=a6 e;obtain⟨ds',a7⟩:∃ds',ds'=R.2.2.2:=⟨_,rfl⟩
 rw[<-a7]at X Q u a3 a4 a5;have Z':uT m live ds' T 0:=⟨by rw[a3.live];exact Z.lv,Z.VP,Z.tt,Z.c,i5,Z.bV⟩
 refine(LV K X).mono ?_;rintro _ h9 ⟨y,rfl,R9⟩;have H9:=X.comp R9;refine⟨y,i0,H9.alloc af i0 λq c9 cs=>?_⟩;refine cs.storeAll af 3 i0 i0 (aV y) i0 i0 i0 i0 λP H=>?_;have H:Sp h P [bB a pw da 0 Pow.new ds' m,ak 3 I 1 av live,cj y m,au q 44 (aV y)]:=H;have ar:df P y m:=H.at 2 i0;refine⟨y,(H.box 3 i0).aU _ i0,(Sq y m P ar K).mono ?_⟩;rintro _ b1 ⟨B,rfl,bl⟩;have G:=H.comp bl;obtain⟨A,Y⟩:∃A,A=iY m.aH:=⟨_,rfl⟩
 rw[<-Y]at G;have G:Sp h b1 [bB a pw da 0 Pow.new ds' m,ak 3 I 1 av live,cj y m,au q 44 (aV y),ak 48 B 3 sM A]:=G;have c4:=(G.own 4 i0).len;have c2:ii A<=12*8:=by rw[Y];refine KT (λe he=>?_) ((cD m).1 K).2.2.2.1;have h1:=(ig m e).1 (((cD m).1 K).2.2.2.2.1 e he);have h2:=oc h1.2.2.1.2;omega
 refine⟨B,i0,?_⟩;refine aA (λi:Nat=>(i:Int)) (λi h'=>i<=ii A/\Sp h h' [bB a pw da 0 Pow.new ds' m,ak 3 I 1 av live,cj y m,au q 44 (aV y),ak 48 B 3 sM A]) (λi=>ii A-i) 0 i0 ⟨zt _,G⟩ ?_;rintro i c6 ⟨hi,U⟩;refine ai (λe1=>?_) λe1=>?_
 ·have ax:i<ii A:=i4
  obtain⟨E,hE,j,hj,ah⟩:=XC (show A[i]∈iY m.aH by rw[<-Y];exact qg ax);obtain⟨x,hx⟩:∃x,x=A[i]:=⟨_,rfl⟩
  rw[<-hx]at ah;refine(U.seq 4 i0 λ_=>rfl).eu (g:=sM) i i0 ax x (by rw[hx]) ?_;refine U.alloc af i0 λb3 dd cc=>?_;refine cc.storeAll af 5 i0 i0 (sM x) i0 i0 i0 i0 λb6 F=>?_;have F:Sp h b6 [bB a pw da 0 Pow.new ds' m,ak 3 I 1 av live,cj y m,au q 44 (aV y),ak 48 B 3 sM A,au b3 48 (sM x)]:=F;have a0:∀{h':Heap} {Bs:List HP},Sp h h' (bB a pw da 0 Pow.new ds' m::ak 3 I 1 av live::cj y m::au q 44 (aV y)::Bs)->aq h' (q.add 2) 0 [xq xx m.p.1,xq xx m.p.2.1,xq xx m.p.2.2]:=λ{h' Bs} H'=>by
   have hy:df h' y m:=H'.at 2 i0;have b2:y.2.2.1=m.p.1:=congrArg (·.1) hy.p;have b9:y.2.2.2.1=m.p.2.1:=congrArg (·.2.1) hy.p;have cq:y.2.2.2.2.1=m.p.2.2:=congrArg (·.2.2) hy.p;rw[<-b2,<-b9,<-cq];exact(H'.box 3 i0).cells 2 _ i0
  refine bX (λ(z:Bool×Int) h'=>z=(eR,0)/\Sp h h' [bB a pw da 0 Pow.new ds' m,ak 3 I 1 av live,cj y m,au q 44 (aV y),ak 48 B 3 sM A]) ?_ ?_
  ·have D:=F.box 5 i0;refine⟨m.p,a0 F,x.2.2,D.cell i0,x.1,D.cell0 i0,x.2.1,D.cell i0,(Rf x.1 x.2.1 K F).mono ?_⟩;rintro _ ay ⟨V,rfl,a9⟩;have ab:=F.comp a9;have S:=a0 ab;refine⟨V,i0,⟨(ab.box 5 i0).cell i0,S.1,S.2.1,S.2.2.1,trivial⟩,?_⟩;have bd:=nO m ds' x.1 x.2.1 (aT ds' m.drives);have O:∀l∈de m ds' x.1 x.2.1 (aT ds' m.drives),ii l<=2^20:=λl hl=>by
    obtain⟨k,_,rfl⟩:=Je hl;rw[qz];have:=FA (m:=m) (ds:=ds') (o:=x.1) (b:=x.2.1) (k:=k) λk d s=>by have:=Q.rm k d s;omega
    omega
   have cf:dW (bO (cF 1 av) 1 bw) ay V (de m ds' x.1 x.2.1 (aT ds' m.drives)):=by obtain⟨rs,z1,z2,z3⟩:=aa.FH a9 λ_=>rfl;exact⟨rs,z1,z2,z3⟩
   refine(Cp m.p x.2.2 V _ T ay cf (by rw[bd,<-Z'.lv];omega) O (vW _)).mono ?_;rintro _ dr ⟨cn,rfl,b4⟩;have hw:gF m.p x.2.2 (de m ds' x.1 x.2.1 (aT ds' m.drives)) T=([],eR,0):=by rw[ah,<-Z'.lv];exact aaH Z' a4 (u E hE j hj)
   rw[hw];exact⟨(cn,eR,0),i0,trivial,i0,(ab.up b4.aj).cG [0,1,2,3,4]⟩
  ·rintro z du ⟨rfl,cl⟩;exact bC (λh=>j6) λ_=>cb (λh=>absurd i0 h) λ_=>⟨i+1,js,⟨i4,cl⟩,i4⟩
 refine aA (λi:Nat=>(i:Int)) (λi h'=>i<=ii live/\Sp h h' [bB a pw da 0 Pow.new ds' m,ak 3 I 1 av live,cj y m,au q 44 (aV y),ak 48 B 3 sM A]) (λi=>ii live-i) 0 i0 ⟨zt _,U⟩ ?_;rintro j bk ⟨hj,r⟩;refine ai (λe2=>?_) λe2=>?_
 ·have ao:j<ii live:=i4
  refine(r.seq 1 i0 λ_=>rfl).bH j i0 ao live[j] i0 ?_;have am:live[j]∈live:=qg ao;obtain⟨d,s,_⟩:=Q.lv _ am;obtain⟨dp,J⟩:=JN s r;have a8:df bk y m:=r.at 2 i0;have D:=r.box 3 i0;refine⟨y,D.aU _ i0,(uy live[j] r).mono ?_⟩;rintro _ _ ⟨rfl,rfl⟩;rw[J];refine⟨_,i0,⟨D.cell0 i0,D.cell i0,D.cell i0,D.cell i0,D.cell i0,D.cell i0,D.cell i0,D.cell i0,trivial⟩,?_⟩;refine(acJ y m s J a8 br r).mono ?_;rintro _ dx ⟨rfl,bb⟩;have ad:=r.up bb.aj;have ht:=Q.tidy _ am d s;rw[ht.whole];refine⟨eL,i0,trivial,bo (λh=>j6) λ_=>(uy live[j] ad).mono ?_⟩;rintro _ _ ⟨rfl,rfl⟩;rw[J];refine⟨_,i0,trivial,(afm s J ad).mono ?_⟩;rintro _ _ ⟨rfl,rfl⟩;have b5:d.wait=0:=(a5 _ d s).2;refine⟨_,i0,trivial,cb (λh=>absurd (by rw[b5];rfl) h) λ_=>⟨j+1,js,⟨i4,ad⟩,i4⟩⟩
 obtain⟨_,_,_,_,_,_,b7⟩:=OH Z' a4 Q.rm λk d s=>(a5 k d s).2;obtain⟨z1,z2⟩:=b7 (λk hk d s=>Q.tidy k hk d s) u;refine(OB T 0 K i4 r).mono ?_;rintro _ c8 ⟨rfl,bq⟩;refine⟨(((gn m 0 Pow.new ds' T 0).1:Int),(gn m 0 Pow.new ds' T 0).2.1),i0,cy (λ_=>cy (λ_=>w bq) λh=>absurd z2 h) λh=>absurd (by show((gn m 0 Pow.new ds' T 0).1:Int)=0;rw[z1];rfl) h⟩
theorem GJ(s:Sl)(l:aC)(c:Sl)(l1:aC)(t most:Int)(h:Heap)(d:Rd h s 1 av l)(a:Rd h c 1 av l1):
  ac xB 6 #[s,c,xq xx t,xq xx most] h λv h'=>v=xv eL/\be (λb=>b<h.size) h h':=
 (OI s l c l1 t most h d a).mono λ_ _ q=>⟨q.1,q.2.aj⟩
end Go.Qw
