/- Lemmas for the proof of the law; no condition. -/
import Derived.Test.YtdibhfbogjngkaaGreatDoorKE
import Derived.Test.YtdibhfbogjngkaaGreatDoorKD
set_option linter.unusedVariables false
set_option maxHeartbeats 2000000
set_option linter.unusedSimpArgs false
open Go.Proofs.Tryz renaming prog -> xR
open Go.Value renaming bool -> xL, int -> xH, pointer -> xJ, slice -> xI, string -> xK
open List renaming all_eq_true -> qL, any_eq_true -> zV, append_nil -> qN, getD_eq_getElem?_getD -> qe, getElem?_eq_none -> qZ, getElem_map -> wy, getElem_mem -> qg, length_append -> qx, length_filter_le -> qP, length_map -> qy, length_range -> zA, mem_append -> qz, mem_filter -> qI, mem_map -> qw, mem_range -> qG, mem_singleton -> qC, range -> qE, take_of_length_le -> qi
open Go.IntKind renaming bits -> qk, i64 -> xN, u32 -> xP, wrap -> qc
open Nat renaming le_refl -> qn, le_trans -> zi, zero_le -> z7
open Int renaming emod_lt_of_pos -> wh, emod_nonneg -> yc, toNat_natCast -> ql
open Prod renaming fst -> qJ
open Bool renaming true_and -> zU
set_option maxRecDepth 100000
open Option renaming some -> dB, none -> eH
open Bool renaming true -> eL
open List renaming length -> ii
namespace Go.Qw
open Go Go.Vc Go.Proofs Wl
def nr(m:aI)(offs:Int)(w:Pow):List ByteArray:=if di w offs then[]else m.aG.map Wl.cb.name
section
variable {B:aB} {h0 h:Heap} {As:List HP} {a pw:Addr} {offs:Int} {da:List aT} {w:Pow} {ds:aW} {m:aI}
theorem ZB(x:cg)(s:bO m=eL)(H:aa B h0 h (bj bu a pw (aX x) offs da w ds::cx x m::As)):
  ac xR 13 #[xJ (dB a)] h λv h'=>∃r:Sl,v=r/\Sp h h' [aq 9 r 1 mC (nr m offs w)]:=by
 refine pQ (dB a) ?_;unfold mT;refine(pu H).mono ?_;rintro _ j ⟨rfl,rfl⟩;refine⟨_,i0,bv (λe=>?_) λz=>?_⟩
 ·have:nr m offs w=[]:=by unfold nr;rw[f9 e]
  rw[this];exact⟨⟨eH,0,0⟩,i0,(Sp.refl j).nil 9 1 mC⟩
 have O:nr m offs w=m.aG.map Wl.cb.name:=by unfold nr;rw[g0 q6]
 rw[O];have u:=(aa.cC H).2;have A:dY j x m:=H.at 1 i0;have y:=((bU m).1 s).2.2.2.1;obtain⟨M,F⟩:=bE.fix A.aG;have D:=F.2.1;have P:=F.1.len;refine⟨a,i0,x.2.2.2.2.2.2.2,u.cell i0,?_⟩;refine av (λt:Sl×Nat=>(t.1,(t.2:Int))) (λt h'=>t.2<=ii m.aG/\Sp j h' [aq 9 t.1 1 mC ((m.aG.map Wl.cb.name).take t.2)]) (λt=>ii m.aG-t.2) (⟨eH,0,0⟩,0) i0 ⟨i9,by simpa using(Sp.refl j).nil 9 1 mC⟩ ?_;rintro⟨o,i⟩ S ⟨L,k⟩;dsimp only at L k⊢;refine aj (λe=>?_) λe=>?_
 ·have c:i<ii m.aG:=i4
  have b:=Fix.row F c;obtain⟨E,n⟩:∃E,E=m.aG[i]:=⟨_,rfl⟩
  have p:E∈m.aG:=by rw[n];exact qg c
  obtain⟨xe,f⟩:∃xe,xe=M[i]'(by omega):=⟨_,rfl⟩
  rw[<-n,<-f]at b;have d:xe.1=E.name:=b.1.1;have N:E.name.size<=12:=by have:=((gP m E).1 (((bU m).1 s).2.2.2.2.1 E p)).1;unfold lP at this;simp at this;omega
  refine(Seq.up F.1 k.ai).dQ (g:=bQ) i i0 i4 xe (by rw[f]) ?_;refine k.alloc af i0 λI h3 G=>?_;refine G.storeAll af 1 i0 i0 (bQ xe) i0 i0 i0 i0 λq l=>?_;have l:Sp j q [aq 9 o 1 mC ((m.aG.map Wl.cb.name).take i),aw I 94 (bQ xe)]:=l;refine⟨xe.1,(l.box 1 i0).cell0 i0,(RC xe.1 q (by rw[d];omega)).mono ?_⟩;rintro _ U ⟨rfl,J⟩;have K:=(l.up J.ai).ck [0];refine⟨_,i0,K.push af 0 i0 aid i0 i5 (λ_=>rfl) agt xe.1 i0 i5 i7 λQ T R=>?_⟩;refine⟨(Q,i+1),jj,⟨i6,?_⟩,i6⟩;dsimp only;rw[aK _ _ (show i<ii (m.aG.map Wl.cb.name) by simpa using c),wy,<-n,<-d];exact R
 ·rw[qi m0]at k;exact⟨o,i0,k⟩
theorem Vf(b:bO m=eL)(H:aa B h0 h (dF a pw da offs w ds m::As)):
  ac xR 13 #[xJ (dB a)] h λv h'=>∃r:Sl,v=r/\Sp h h' [aq 9 r 1 mC (nr m offs w)]:=by
 obtain⟨x,H⟩:=gf H;exact ZB x b H
end
section
variable {B:aB} {h0 h:Heap} {As:List HP} {a pw:Addr} {offs:Int} {da:List aT} {w:Pow} {ds:aW}
end
section
theorem agA{B:aB}{f h:Heap}{As:List HP}{a pw:Addr}{offs:Int}{g:List aT}{w:Pow}{ds:aW}{m:aI}(name:ByteArray)(i:bO m=eL)(H:aa B f h (dF a pw g offs w ds m::As)):
  ac xR 32 #[xJ (dB a),xK name] h λv h'=>∃r:Sl,v=.tuple #[r,xH xN (kL m offs w ds name).2]/\Sp h h' [EA (ct 1 aE) r (kL m offs w ds name).1]:=by
 have b:=(NL H).2;obtain⟨x,e⟩:=gf H;exact aep x name i (λk d c=>zi (b k d c).1 (b k d c).2.1) e
theorem acn{m:aI}:nr m 0 Pow.new=m.aG.map Wl.cb.name:=by unfold nr;rw[g0 i5]
end
end Go.Qw
namespace Wl
open Go Go.Qw Go.Vc
end Wl
namespace Go.Qw
open Go Go.Vc Go.Proofs Wl
section
variable {B:aB} {h0 h:Heap} {As:List HP} {a pw:Addr} {offs:Int} {da:List aT} {w:Pow} {ds:aW} {m:aI}
end
end Go.Qw
namespace Wl
open Go Go.Qw Go.Vc
end Wl
namespace Go.Qw
open Go Go.Vc Go.Proofs Wl
section
variable {B:aB} {h0 h:Heap} {As:List HP} {a pw:Addr} {offs:Int} {da:List aT} {w:Pow} {ds:aW} {m:aI}
end
end Go.Qw
namespace Wl
open Go Go.Qw Go.Vc
structure Blk where
 o:Int
 b:Int
 seed:Int
 M:aQ
 W:cV
 got:aF
 deriving Inhabited
end Wl
namespace Go.Qw
open Go Go.Vc Go.Proofs Wl
section
variable {B:aB} {h0 h:Heap} {As:List HP} {a pw:Addr} {offs:Int} {da:List aT} {w:Pow} {ds:aW} {m:aI}
theorem aco{k:Int}{d:bw}{b:Addr}(c:bC ds k=dB d)(i:ig da k=dB b)(H:aa B h0 h (dF a pw da offs w ds m::As)):
  ∃p A2:HP,aa B h0 h (iI pw b d::de 92 pw w::p::A2::As)/\
   ∀h' j g,aa B h0 h' (iI pw b g::de 92 pw j::p::A2::As)->aa B h0 h' (dF a pw da offs j (gh ds k g) m::As):=by
 obtain⟨y,H⟩:=gf H;obtain⟨n,rfl,v⟩:=ju c;have r:ds[n]?=dB (dB d):=by
  unfold bC at c;rw[f9 i4,ql]at c;cases hX:ds[n]? with
  |none=>rw[hX]at c;cases c
  |some o=>rw[hX]at c;exact congrArg dB c
 obtain⟨q,f,s⟩:=Go.Vc.aa.ko H r;have l:q=b:=by unfold ig at i;rw[f9 i4,ql,f]at i;injection i
 subst l;refine⟨_,_,s,λh' j g u=>?_⟩;have t:=Go.Vc.aa.AH (k:=bu) (n:=n) f u;have e:gh ds (n:Int) g=ds.set n (dB g):=by simp only[gh,ql]
 rw[e];exact nl t
end
theorem aiO{l:aF}{i:Nat}(a:i<ii l):((l.take i).map (60+·)++l.drop i).set i (60+l[i])=(l.take (i+1)).map (60+·)++l.drop (i+1):=by rw[List.set_append_right _ _ i7,aK _ _ a,List.map_append,List.append_assoc];congr 1;rw[show i-ii ((l.take i).map (60+·))=0 by simp;omega,List.drop_eq_getElem_cons a];rfl
theorem aiP{l:aF}{i:Nat}(a:i<ii l)(h:i<ii ((l.take i).map (60+·)++l.drop i)):((l.take i).map (60+·)++l.drop i)[i]=l[i]:=by rw[List.getElem_append_right i7];simp[show i+(i-min i l.length)=i by omega]
theorem kM.cj{p:Pm}{b:Mv}(h:kM p b):(b.kind=6->(0<=b.slot/\b.slot<9)/\6<=b.n/\b.n<66)/\(b.kind=11->(0<=b.n/\b.n<40)/\(0<=b.m/\b.m<61)/\0<=b.mask/\b.mask<4294967296):=by unfold kM at h;omega
section
variable {B:aB} {h0 h:Heap} {As:List HP} {a pw:Addr} {offs:Int} {da:List aT} {w:Pow} {ds:aW} {m:aI}
theorem acp{k:Int}{d:bw}{b:Addr}(i:Int)(n:bC ds k=dB d)(c:ig da k=dB b)(H:aa B h0 h (dF a pw da offs w ds m::As)):
  ac xR 77 #[xJ (dB b),xH xN i] h λv h'=>∃r:Sl,v=r/\Sp h h' [aq 5 r 1 aE (if 0<=i then d.l.getD i.toNat []else[])]:=by
 obtain⟨s,f,j,e,g⟩:=aee n c H;exact aaG s f i j e g.cell
theorem Vg(i:Int)(h:Heap):ac xR 77 #[xJ eH,xH xN i] h λv h'=>v=xI eH 0 0/\Sp h h' []:=by refine pU eH i ?_;unfold mV;exact bg (bv (λ_=>⟨i0,Sp.refl h⟩) λe=>j0)
theorem ZC{l:cP}{i:Int}(h:fh (if 0<=i then l.getD i.toNat []else[])≠eH):∃j:Nat,i=j/\∃b:j<ii l,fh l[j]≠eH:=by
 have a:fh []=eH:=i5
 by_cases c:0<=i
 ·rw[f9 c]at h;by_cases b:i.toNat<ii l
  ·rw[fR [] b]at h;exact⟨i.toNat,i4,b,h⟩
  ·rw[qe,qZ i4]at h;exact absurd a h
 ·rw[g0 c]at h;exact absurd a h
theorem ZD{k:Int}{d:bw}{b:Addr}(i at_ c:Int)(l:0<=c/\c<2^32)(j:bC ds k=dB d)(e:ig da k=dB b)(H:aa B h0 h (dF a pw da offs w ds m::As)):
  ac xR 78 #[xJ (dB b),xH xN i,xH xN at_,xH xP c] h λv h'=>∃z:Bool,v=xL z/\aa B h0 h' (dF a pw da offs w (gh ds k (d.mH i at_ c)) m::As):=by
 obtain⟨n,A2,f,back⟩:=aco j e H;refine(Zs i at_ c l f).mono ?_;rintro _ h' ⟨rfl,g⟩;exact⟨_,i0,back _ _ _ g⟩
end
theorem acq(c0:Sl)(l:aF)(s1:Sl)(l1:aF)(w:Nat)(h:Heap)(hs:Rd h c0 1 aC l)(br:Rd h s1 1 aC l1)(a5:w<=100):
  ac xR 24 #[c0,s1,xH xN w] h λv h'=>
   ∃(a pw:Addr) (da:List aT) (ds:aW) (m:aI) (C:Int->bc),v=xJ (dB a)/\Wn (iK l) m C ds/\Sp h h' [dF a pw da 0 Pow.new ds m]:=by
 refine Ak c0 s1 w ?_;unfold nY;refine(WD c0 l h hs).mono ?_;rintro _ h1 ⟨r,rfl,R1⟩;refine⟨(iK l,Zp l,r),i0,R1.alloc af i0 λa2 h2 H2=>?_⟩;refine H2.storeAll af 1 i0 i0 [xH xN (iK l).1,xH xN (iK l).2.1,xH xN (iK l).2.2] i0 i0 i0 i0 λh3 H3=>?_;obtain⟨p,N⟩:∃p,p=iK l:=⟨_,rfl⟩
 obtain⟨E,hE⟩:∃E,E=Zp l:=⟨_,rfl⟩
 obtain⟨c,hc⟩:∃c,c=un l:=⟨_,rfl⟩
 obtain⟨L,hL⟩:∃L,L=Fa l:=⟨_,rfl⟩
 have bl:ii L=c:=by rw[hL,hc];exact US l
 have b2:2<=c/\c<=5:=by rw[hc];exact Xt l
 have hp:bI p=eL:=by rw[N];exact abx _ _ _
 have ao:p.1<=6/\p.2.2<=9:=by rw[N];unfold iK DE;dsimp only;omega
 have b4:=(ce p).1 hp;have cf:0<=E/\E<=6:=by rw[hE];unfold Zp;omega
 have ad:∀x∈L,8<=x/\x<=57:=λx hx=>by
  rw[hL]at hx;obtain⟨i,_,rfl⟩:=qw.1 hx;omega
 rw[<-N,<-hE];rw[<-N,<-hL]at H3;have H3:Sp h h3 [aq 3 r 1 aC ((L.take 0).map (60+·)++L.drop 0),aw a2 24 [xH xN p.1,xH xN p.2.1,xH xN p.2.2]]:=H3;have cd:r.len=c:=by rw[<-bl,(H3.own 0 i0).len];rfl
 refine av (λi:Nat=>(i:Int)) (λi h'=>i<=c/\Sp h h' [aq 3 r 1 aC ((L.take i).map (60+·)++L.drop i),aw a2 24 [xH xN p.1,xH xN p.2.1,xH xN p.2.2]]) (λi=>c-i) 0 i0 ⟨i4,H3⟩ ?_;rintro i h4 ⟨hi,K⟩;dsimp only;refine aj (λe=>?_) λe=>?_
 ·have n:i<ii L:=i4
  have U:i<ii ((L.take i).map (60+·)++L.drop i):=i7
  refine(K.seq 0 i0 λ_=>rfl).bB i i0 U L[i] (congrArg aC (aiP n U)) ?_;have hg:=ad _ (qg n);rw[ak (60+L[i])];refine K.set af 0 i0 (λ_=>rfl) i0 i i0 U (60+L[i]) i0 i0 i0 λh6 H6=>?_;rw[aiO n]at H6;exact⟨i+1,js,⟨i4,H6⟩,i4⟩
 have bq:i=ii L:=i4
 subst bq;rw[List.drop_of_length_le i4,qN,qi i4]at K;obtain⟨G,hG⟩:∃G,G=L.map (60+·):=⟨_,rfl⟩
 rw[<-hG]at K;have cn:ii G=ii L:=by rw[hG,qy]
 have a0:∀x∈G,1<=x/\x<=512:=by rw[hG];intro x hx;obtain⟨y,hy,rfl⟩:=qw.1 hx;have:=ad y hy;omega
 obtain⟨e0,ay⟩:=agu (extra:=E) hp i4 (show 1<=ii G/\G.length<=24 by omega) a0;refine cE (λ(t:aT×Int) h'=>∃(a pw:Addr) (da:List aT) (D:aW),t=(dB a,0)/\D.length=64/\(∀s,bC D s=if s∈bp G G.length then dB ⟨(G.getD s.toNat 0).toNat,bo (cw p E G),0,[],false,false⟩else eH)/\
  Sp h h' [dF a pw da 0 Pow.new D (cw p E G),aq 3 r 1 aC G,aw a2 24 [xH xN p.1,xH xN p.2.1,xH xN p.2.2]]) ?_ ?_
 ·refine⟨p,(K.box 1 i0).aS _ i0,(Qd h4).mono ?_⟩;rintro _ h6 ⟨pw,rfl,R6⟩;have H6:=K.cD R6;refine⟨_,i0,kf R6.ai ⟨(K.box 1 i0).cell0 i0,(K.box 1 i0).cell i0,(K.box 1 i0).cell i0,trivial⟩,?_⟩;refine(NM p E r G (As:=[aq 3 r 1 aC G,aw a2 24 [xH xN p.1,xH xN p.2.1,xH xN p.2.2]]) (St.gI 0 i0 λh' J=>J.1.seq (λ_=>rfl) J.2) i4 e0 i0 H6).mono ?_;rintro _ h7 ⟨a,da,D,rfl,f2,f3,H7⟩;exact⟨(dB a,0),i0,trivial,a,pw,da,D,i0,f2,f3,H7⟩
 rintro⟨_,_⟩ h8 ⟨a,pw,da,D,he,f2,f3,H8⟩;injection he with he1 he2
 subst he1 he2;obtain⟨S0,F0,L0⟩:=acb (m:=cw p E G) rfl e0 i4 f2 f3 λ_=>[];have ax:(cw p E G).drives=(qE G.length).map λi:Nat=>(i:Int):=ay;have I0:Wn p (cw p E G) (λ_=>[]) D:=by
  refine⟨S0,?_,λk Z=>?_,i0⟩
  ·rw[F0.aN,ax];intro h;have h2:ii G=0:=by have:=congrArg List.length h;rw[qy,zA]at this;exact this
   omega
  ·rw[ax]at Z;obtain⟨i,hi,rfl⟩:=qw.1 Z;have:=qG.1 hi;omega
 refine bg (cv (λe=>absurd i0 e) λ_=>bv (λe=>j0) λ_=>?_);refine⟨p,(H8.box 2 i0).aS _ i0,?_⟩;refine(Zr p s1 l1 w h8 hp (br.up H8.ai) a5).mono ?_;rintro _ bd ⟨q,M,rfl,hM,b5,W⟩;obtain⟨rs,W⟩:=W.Oe 0 rfl λ_=>rfl;have H:Sp h bd [dF a pw da 0 Pow.new D (cw p E G),aq 3 r 1 aC G,aw a2 24 [xH xN p.1,xH xN p.2.1,xH xN p.2.2],cK lX 9 oq q rs M]:=H8.comp W;have H:=H.ck [0,3];refine⟨q,i0,?_⟩;have b3:q.len=ii M:=by rw[(H.eG 1 i0).1.len,(H.eG 1 i0).2.1]
 refine av (λi:Nat=>(i:Int)) (λi h'=>i<=ii M/\∃da ds m C,Wn p m C ds/\Sp h h' [dF a pw da 0 Pow.new ds m,cK lX 9 oq q rs M]) (λi=>ii M-i) 0 i0 ⟨i4,da,D,_,_,I0,H⟩ ?_;rintro i b9 ⟨hi,da,ds,m,C,I,S⟩;dsimp only;refine aj (λe=>?_) λe=>⟨a,pw,da,ds,m,C,i0,I,S.ck [0]⟩
 have n:i<ii M:=i4
 have hF:=S.eG 1 i0;have a1:i<ii rs:=by rw[hF.2.1];exact n
 have next:∀{h':Heap} {O:List aT} {ds':aW} {X:aI} {C':Int->bc} {ar:List HP},Wn p X C' ds'->Sp h h' (dF a pw O 0 Pow.new ds' X::cK lX 9 oq q rs M::ar)->
   ∃t:Nat,(qc xN ((i:Int)+1):Int)=(t:Int)/\(t<=ii M/\∃da ds m C,Wn p m C ds/\Sp h h' [dF a pw da 0 Pow.new ds m,cK lX 9 oq q rs M])/\M.length-t<ii M-i:=λ{h' O ds' X C' ar} T H'=>
  ⟨i+1,js,⟨i4,O,ds',X,C',T,H'.bs 2 [0,1]|>λz=>aa.Ss (As:=[_,_]) z⟩,i4⟩
 refine hF.1.dQ i i0 a1 rs[i] i0 ?_;refine S.alloc af i0 λap cp a3=>?_;refine a3.storeAll af 2 i0 i0 (oq rs[i]) i0 i0 i0 i0 λa8 g=>?_;have g:Sp h a8 [dF a pw da 0 Pow.new ds m,cK lX 9 oq q rs M,aw ap 135 (oq rs[i])]:=g;have Q:=g.box 2 i0;obtain⟨⟨k1,k2,k3,k4,k5,k6,kc⟩,kd,_,_⟩:=Fix.row (g.eG 1 rfl) n;have Z:kM p M[i]:=hM _ (qg n);refine⟨rs[i].1,Q.cell0 i0,cu (λR=>?_) λ_=>cu (λR=>?_) λ_=>cu (λR=>?_) λ_=>cu (λR=>?_) λ_=>cu (λR=>?_) λ_=>next I g⟩
 ·obtain⟨n1,n2⟩:=kM.put Z (k1.symm.trans R);have b6:p.1*p.2.2<=6*9:=Int.mul_le_mul ao.1 ao.2 i4 i4;refine⟨rs[i].2.1,Q.cell i0,rs[i].2.2.1,Q.cell i0,?_⟩;rw[k2];refine(agr (As:=[cK lX 9 oq q rs M,aw ap 135 (oq rs[i])]) M[i].name rs[i].2.2.1 M[i].data (St.gI (A:=cK lX 9 oq q rs M) 0 i0 λh' J=>(Fix.row J n).2.1) kc (by have:=aeg _ n1;omega) I.fD.may i4 g).mono ?_;rintro _ u ⟨rfl,f⟩;obtain⟨e,X,C',ds',J,T⟩:=I.put M[i].name M[i].data;rw[J]at f;exact⟨_,i0,next T f⟩
 ·refine⟨rs[i].2.1,Q.cell i0,(Zo rs[i].2.1 I.fD.may g).mono ?_⟩;rintro _ u ⟨rfl,f⟩;obtain⟨e,X,ds',J,T⟩:=I.del rs[i].2.1;rw[J]at f;exact⟨_,i0,next T f⟩
 ·obtain⟨t1,t2,t3⟩:=(kM.cj Z).2 (k1.symm.trans R);refine⟨rs[i].2.2.2.1,Q.cell i0,(QG rs[i].2.2.2.1 g).mono ?_⟩;rintro _ _ ⟨rfl,rfl⟩;refine⟨_,i0,rs[i].2.2.2.2.1,Q.cell i0,?_⟩;cases hd:bC ds rs[i].2.2.2.1 with
  |none=>
   rw[abX hd g];refine(Vg _ _).mono ?_;rintro _ u ⟨rfl,o⟩;have f:=g.up o.ai;refine⟨⟨eH,0,0⟩,i0,(EM ⟨eH,0,0⟩ [] u (Seq.nil _ _ _ _ _ _) i9 (qn _)).mono ?_⟩;rintro _ ab ⟨c1,_⟩;obtain⟨rfl,F⟩:=c1 i5;exact⟨(0,⟨eH,0,0⟩,false),i0,bv (λh=>j6) λ_=>next I (f.up F.ai)⟩
  |some d=>
   obtain⟨b,Y⟩:=Xs hd g;rw[Y];refine(acp rs[i].2.2.2.2.1 hd Y g).mono ?_;rintro _ u ⟨am,rfl,o⟩;have f:=g.cD o;have a4:=(I.fD.cells _ _ hd)
   obtain⟨cc,V⟩:∃cc,cc=(if 0<=rs[i].2.2.2.2.1 then d.l.getD rs[i].2.2.2.2.1.toNat []else[]):=⟨_,rfl⟩
   rw[<-V]at o f;have b0:ii cc<=64:=by
    have bk:=((NL g).2 _ _ hd).2.2.cell;rw[V];split
    ·by_cases hj:rs[i].2.2.2.2.1.toNat<ii d.l
     ·rw[fR [] hj,bk _ (qg hj)];exact qn _
     ·rw[qe,qZ i4];exact z7 _
    ·exact z7 _
   refine⟨am,i0,(EM am cc u (f.seq 0 i0 λ_=>rfl) i4 (f.own 0 i0).cap).mono ?_⟩;rintro _ ab ⟨c1,c2⟩;cases ht:fh cc with
   |none=>
    obtain⟨rfl,F⟩:=c1 ht;exact⟨(0,⟨eH,0,0⟩,false),i0,bv (λh=>j6) λ_=>next I (f.up F.ai).rest⟩
   |some kx=>
    obtain⟨bb,rfl,F⟩:=c2 kx.1 kx.2 ht;have P:=(f.up F.ai).rest;have B:=P.box 2 i0;obtain⟨j,a9,a6,a7⟩:=ZC (l:=d.l) (i:=rs[i].2.2.2.2.1) (by rw[<-V,ht];exactλh=>j6);refine⟨(kx.1,bb,eL),i0,bv (λ_=>?_) λh=>j6⟩;refine⟨rs[i].2.2.2.2.1,B.cell i0,rs[i].2.2.2.2.2.1,B.cell i0,rs[i].2.2.2.2.2.2.1,B.cell i0,(ZD _ _ _ (by rw[k6];exact t3) hd Y P).mono ?_⟩;rintro _ b7 ⟨z,rfl,ah⟩;rw[a9]at ah;exact⟨_,i0,next (I.mH hd a6 a7 (by rw[k5];omega)) ah⟩
 ·obtain⟨t1,t2,t3⟩:=(kM.cj Z).1 (k1.symm.trans R);refine⟨rs[i].2.2.2.1,Q.cell i0,rs[i].2.2.2.2.1,Q.cell i0,?_⟩;refine(ags rs[i].2.2.2.1 (qc xN (rs[i].2.2.2.2.1+40)) I.fD.may g).mono ?_;rintro _ u ⟨rfl,O,f⟩;obtain⟨e,X,ds',J,T⟩:=I.add (slot:=rs[i].2.2.2.1) (by rw[k3];exact t1) (qc xN (rs[i].2.2.2.2.1+40));rw[J]at f;exact⟨_,i0,next T f⟩
 ·refine(AV I.fD.may g).mono ?_;rintro _ u ⟨lv,rfl,o⟩;have b1:=(o.own 0 i0).len;have f:=g.up o.ai;refine⟨lv,i0,aj (λe2=>?_) λe2=>next I f⟩;refine⟨rs[i].2.2.2.1,(f.box 2 i0).cell i0,(UW rs[i].2.2.2.1 I.fD.may f).mono ?_⟩;rintro _ ab ⟨rfl,P⟩;exact⟨_,i0,next (I.rU _ i4) P⟩
end Go.Qw
namespace Wl
end Wl
namespace Go.Qw
open Go Go.Vc Go.Proofs Wl
variable {p:Pm} {m:aI} {C:Int->bc} {ds ds':aW}
theorem NR(W:cV)(a:aF)(x:Int):∀k,x∈sP W a k↔∃i,i<k/\(i:Int)∉a/\x∈W.getD i []
 |0=>by simp[sP]
 |k+1=>by
  rw[sP,qz,NR W a x k];constructor
  ·rintro(⟨i,e,b,h3⟩|h)
   ·exact⟨i,i4,b,h3⟩
   ·by_cases c:(k:Int)∈a
    ·rw[f9 c]at h;cases h
    ·rw[g0 c]at h;exact⟨k,i4,c,h⟩
  ·rintro⟨i,e,b,h3⟩;by_cases d:i=k
   ·subst d;exact .inr (by rw[g0 b];exact h3)
   ·exact .inl ⟨i,i4,b,h3⟩
theorem Wn.few(W:Wn p m C ds):ii (aN ds m.drives)<=9:=by have d:=((bU m).1 W.fD.may).2.1;have e:=KC (a:=0) (b:=9) d (λk c=>⟨(kE W.fD.may k c).1,W.dr k c⟩) i5;have h3:ii (aN ds m.drives)<=ii m.drives:=qP _ _;omega
theorem acr:∀n:Fin 10,∀t:Fin 4,iV ((n:Nat):Int) ((t:Nat):Int)<=4096:=j4
theorem Wn.aih(W:Wn p m C ds){t:Int}(a:0<=t)(c:t<ii (aN ds m.drives))(h3:t<=3):(fC m 0 Pow.new ds t).2=0:=by have b:=W.few;have:=acr ⟨ii (aN ds m.drives),i4⟩ ⟨t.toNat,i4⟩;dsimp only at this;rw[Int.toNat_of_nonneg a]at this;unfold fC;rw[g0 i5,g0 i4,g0 i4];split<;>rfl
structure uo (m:aI) (ds ds':aW) (gone:aF):Prop where
 len:ii ds'=64
 at_:∀k,k∉gone->bC ds' k=bC ds k
 live:∀k,k∈aN ds' m.drives↔k∈aN ds m.drives/\k∉gone
 sub:∀k∈gone,k∈aN ds m.drives
 nd:gone.Nodup
theorem uo.start(h:ii ds=64):uo m ds ds []:=⟨h,λ_ _=>rfl,λk=>⟨λh=>⟨h,λh=>j6⟩,λh=>h.1⟩,λk a=>(by cases a),List.nodup_nil⟩
theorem uo.rU{c:aF}(G:uo m ds ds' c){x:Int}(j:x∈aN ds' m.drives):(kz m 0 Pow.new ds' x).1=0/\uo m ds (kz m 0 Pow.new ds' x).2 (c++[x]):=by
 obtain⟨t,d,o,n⟩:=jK j;obtain⟨q,h3⟩:=(G.live x).1 j;have e:kz m 0 Pow.new ds' x=(0,gh ds' x d.rU):=by unfold kz;rw[g0 i5,g0 λh=>h j,o]
 rw[e];have g:=λs=>sq (d:=d.rU) G.len o s;refine⟨i0,by rw[Lk];exact G.len,λk i=>?_,λk=>?_,λk i=>?_,?_⟩
 ·rw[g,g0 λh=>i (by rw[h];simp)];exact G.at_ k λh=>i rb
 ·rw[Ll,g];by_cases f:k=x
  ·subst f;rw[f9 rfl];constructor
   ·rintro⟨_,e,l,n⟩;injection l with l
    subst l;cases n
   ·rintro⟨_,h⟩;exact absurd i9 h
  ·rw[g0 f];have:=G.live k;rw[Ll]at this;rw[this];simp[f]
 ·rcases qz.1 i with h|h
  ·exact G.sub k h
  ·rw[qC.1 h];exact q
 ·exact List.nodup_append.2 ⟨G.nd,i9,λa r b p e=>h3 (by rw[<-qC.1 p,<-e];exact r)⟩
theorem uo.few{a:aF}(G:uo m ds ds' a)(d:bO m=eL):ii (aN ds m.drives)<=ii (aN ds' m.drives)+ii a:=by
 have h:=AU (l:=aN ds m.drives) (m:=aN ds' m.drives++a) (ni (nt d)) λx c=>by
  by_cases b:x∈a
  ·exact List.mem_append_right _ b
  ·exact List.mem_append_left _ ((G.live x).2 ⟨c,b⟩)
 rw[qx]at h;exact h
theorem uo.fD{a:aF}(G:uo m ds ds' a)(S:fl m C ds)(f:∀k d,bC ds' k=dB d->d.l=[]∨bC ds k=dB d):fl m C ds':=
 ⟨S.may,G.len,λk d e c b=>by
  rcases f k d e with h|h
  ·rw[h]at b;cases b
  ·exact S.cells k d h c b,S.ents⟩
theorem Vh{o b k:Int}(h:bC ds' k=bC ds k):kw m ds' o b k=kw m ds o b k:=by unfold kw;rw[h]
theorem aeq{o b:Int}{live:aF}{i:Nat}(a:i<ii live):(fT m ds o b live).getD i []=(kw m ds o b live[i]).map qJ:=by rw[fR [] (by unfold fT;rw[qy];exact a)];unfold fT;rw[wy];unfold fQ;rw[List.flatMap_cons,List.flatMap_nil,qN]
theorem ZE{L a:aF}(c:L.Nodup)(d:a.Nodup)(e:∀k∈a,k∈L):ii (L.filter λk=>decide (k∈a))=ii a:=by
 have g:=AU (l:=L.filter λk=>decide (k∈a)) (m:=a) (c.filter _) λx b=>by simpa using(qI.1 b).2
 have f:=AU (l:=a) (m:=L.filter λk=>decide (k∈a)) d λx b=>qI.2 ⟨e x b,k7⟩;omega
theorem agB(L:aF)(P:Int->Bool):ii ((qE L.length).filter λi=>P (L.getD i 0))=ii (L.filter P):=by
 have:L=(qE L.length).map λi=>L.getD i 0:=by apply List.ext_getElem i9;intro i a b;rw[wy,List.getElem_range,fR 0 a]
 conv=>rhs;rw[this,List.filter_map,qy]
 rfl
theorem uo.can{a:aF}(G:uo m ds ds' a)(S:fl m C ds)(b:fC m 0 Pow.new ds a.length=(eL,0)){e:Wl.cb}(N:e∈m.aG):Lp m ds' e=eL:=by
 unfold fC at b;rw[g0 i5]at b;by_cases K:(a.length:Int)<0∨(a.length:Int)>=((aN ds m.drives).length:Int)
 ·rw[f9 K]at b;cases b
 rw[g0 K]at b;by_cases w:iV ((aN ds m.drives).length:Int) a.length>4096
 ·rw[f9 w]at b;cases b
 rw[g0 w]at b;by_cases h3:m.aG.any (sB m ds a.length)=eL
 ·rw[f9 h3]at b;cases b
 rw[g0 h3]at b;have I:(np m ds:Int)>a.length:=by have:=congrArg qJ b;exact hY this
 obtain⟨L,d⟩:∃L,L=aN ds m.drives:=⟨_,rfl⟩
 have s:L.Nodup:=by rw[d];exact ni (nt S.may)
 have H:L.length<=64:=by rw[d];exact zi (qP _ _) (gv S.may)
 unfold Lp;rw[Bool.and_eq_true];constructor
 ·unfold np at I;rw[<-d]at I;have E:∃k∈L.filter (lE m ds),k∉a:=Classical.byContradiction λF=>by
   have:=AU (l:=L.filter (lE m ds)) (m:=a) (s.filter _) λx r=>Classical.byContradiction λh=>F ⟨x,r,h⟩;omega
  obtain⟨k,q,c⟩:=E;obtain⟨P,O⟩:=qI.1 q;unfold oL;rw[zV];refine⟨k,(G.live k).2 ⟨by rw[<-d];exact P,c⟩,?_⟩;unfold Iw;rw[G.at_ k c];exact O
 ·rw[qL];intro k q;have q:=qG.1 q;obtain⟨seed,t⟩:∃seed,seed=cF e.object k (e.tries.getD k 0):=⟨_,rfl⟩
  rw[<-t];have j:pz m ds a.length e k=false:=by
   cases hb:pz m ds a.length e k with
   |false=>rfl
   |true=>exact absurd (zV.2 ⟨e,N,zV.2 ⟨k,qG.2 q,hb⟩⟩) h3
  unfold pz at j;rw[<-t,<-d]at j;obtain⟨W,y⟩:∃W,W=fT m ds e.object k L:=⟨_,rfl⟩
  have u:W.length=L.length:=by rw[y];unfold fT;rw[qy]
  rw[<-y]at j;have B:Jm m.p seed W a.length=eH:=by
   unfold kV at j;rw[f9 S.Ix,f9 ⟨i4,by rw[u,d];omega,i4⟩,g0 (by rw[u,d];exact w),ql]at j;cases hq:Jm m.p seed W a.length with
   |none=>rfl
   |some g=>rw[hq]at j;cases j
  obtain⟨g,v⟩:∃g:List Nat,g=(qE L.length).filter λi=>decide (L.getD i 0∈a):=⟨_,rfl⟩
  have A:ints g∈Cc W.length a.length:=by
   refine qw.2 ⟨g,Ti ?_ (λx r=>?_) ?_,i0⟩
   ·rw[v,agB L λk=>decide (k∈a)];exact ZE s G.nd (λk q=>by rw[d];exact G.sub k q)
   ·rw[v]at r;have:=qG.1 (qI.1 r).1;omega
   ·rw[v];exact List.Pairwise.filter _ List.pairwise_lt_range
  have J:(DL m.p seed W (ints g):Int)=bS m.p:=by have:=List.find?_eq_none.1 B (ints g) A;simpa using this
  have o:fJ m.p seed (sP W (ints g) W.length)=eL:=by unfold fJ;rw[S.Ix,zU];unfold DL at J;simp[J]
  refine QE S.Ix (λx r=>?_) o;obtain⟨i,Q,D,n⟩:=(NR W (ints g) x W.length).1 r;have f:i<L.length:=i4
  rw[y,aeq f]at n;have c:L[i]∉a:=λh=>D (aei.2 (by rw[v];exact qI.2 ⟨qG.2 f,by rw[fR 0 f];exact g9 h⟩));rw[<-Vh (G.at_ _ c)]at n;obtain⟨z,M,rfl⟩:=qw.1 n;unfold nH fQ;exact qw.2 ⟨z,List.mem_flatMap.2 ⟨L[i],(G.live _).2 ⟨by rw[<-d];exact qg f,c⟩,M⟩,i0⟩
end Go.Qw
namespace Go.Qw
open Go Go.Vc Go.Proofs Wl
section
variable {B:aB} {h0 h:Heap} {As:List HP} {a pw:Addr} {offs:Int} {da:List aT} {w:Pow} {ds:aW} {m:aI}
theorem Ps(g:m.aG=[])(j:di w offs=false)(H:aa B h0 h (dF a pw da offs w ds m::As)):
  ac xR 13 #[xJ (dB a)] h λv h'=>v=xI eH 0 0/\Sp h h' []:=by
 refine pQ (dB a) ?_;unfold mT;obtain⟨x,H⟩:=gf H;refine(pu H).mono ?_;rintro _ c ⟨rfl,rfl⟩;refine⟨_,i0,bv (λe=>by rw[j]at e;cases e) λ_=>?_⟩;obtain⟨_,f⟩:=aa.cC H;have i:dY c x m:=H.at 1 i0;have b:=bE.len i.aG;rw[g]at b;refine⟨a,i0,x.2.2.2.2.2.2.2,f.cell i0,?_⟩;refine av (λ_:Unit=>((⟨eH,0,0⟩:Sl),(0:Int))) (λ_ h'=>h'=c) (λ_=>0) () i0 i0 ?_;rintro _ d rfl;refine aj (λe=>?_) λe=>⟨i0,Sp.refl d⟩
 exfalso;have:x.2.2.2.2.2.2.2.len=0:=b;omega
theorem NS(g:m.aG=[])(f:di w offs=false)(H:aa B h0 h (dF a pw da offs w ds m::As)):
  ac xR 30 #[xJ (dB a)] h λv h'=>v=xI eH 0 0/\Sp h h' []:=by
 refine BH (dB a) ?_;unfold ue;refine(Sp.refl h).boxed λd l b=>⟨dB a,(b.box 0 i0).cell0 i0,(IE (H.up b.ai)).mono ?_⟩
 rintro _ k ⟨rfl,rfl⟩;refine⟨_,i0,bv (λe=>by rw[f]at e;cases e) λ_=>⟨dB a,(b.box 0 rfl).cell0 rfl,(Ps g f (H.up b.ai)).mono ?_⟩⟩;rintro _ h3 ⟨rfl,i⟩;refine⟨⟨eH,0,0⟩,i0,?_⟩;refine(iP ⟨eH,0,0⟩ (87,#[],#[xJ (dB d)]) (R:=λv h'=>v=xI eH 0 0/\Sp h3 h' []) ?_).mono ?_
 ·unfold gi;refine(iY ⟨eH,0,0⟩ (87,#[],#[xJ (dB d)]) (R:=λv h'=>v=xH xN (-1)/\h'=h3) ?_).mono ?_
  ·unfold gr;refine av (λ_:Unit=>(0:Int)) (λ_ h'=>h'=h3) (λ_=>0) () i0 i0 ?_;rintro _ c rfl;exact aj (λe=>absurd e i5) λe=>⟨i0,i0⟩
  ·rintro _ c ⟨rfl,rfl⟩;exact⟨-1,i0,cu (λ_=>⟨i0,Sp.refl c⟩) λe=>absurd i0 e⟩
 ·rintro _ n ⟨rfl,j⟩;exact⟨⟨eH,0,0⟩,i0,i0,.zip (((b.up i.ai).up j.ai).ai)⟩
theorem WL{p:Pm}{E:Int}{c:Nat}{x:Int}{D:aW}(F:Jl p E c x m D):np m D=c:=by
 unfold np;rw[F.live,List.filter_eq_self.2 λk a=>?_]
 ·rw[F.dr,qy,zA]
 ·unfold lE;rw[F.at_,f9 a];show iq m (bo m)=eL;unfold iq;rw[F.may,zU];exact qL.2 λd b=>g9 b
theorem IH(h:Heap):ac xR 27 #[] h λv h'=>v=xL eL/\Sp h h' []:=by
 refine uO ?_;unfold nK;refine(Qd h).mono ?_;rintro _ y ⟨pw,rfl,o⟩;refine⟨_,i0,o.lit af aC lx i0 [5] i0 (show 1*1<=2^20 by decide) i0 λf t s=>?_⟩;have k:bI (1,1,1)=eL:=i5
 refine(NM (1,1,1) 0 f [5] (As:=[aq 3 f 1 aC [5]]) (St.gI 0 i0 λh' i=>i.1.seq (λ_=>rfl) i.2) i5 (acd k i5 1 5 i5 i5) i0 s).mono ?_;rintro _ h3 ⟨a,da,D,rfl,j,d,b⟩;have F:=aeh (c:=1) (x:=5) k i5 i5 i5 j d;obtain⟨m,l⟩:∃m,m=cw (1,1,1) 0 (List.replicate 1 5):=⟨_,rfl⟩
 rw[<-l]at F;have b:Sp h h3 [dF a pw da 0 Pow.new D m,aq 3 f 1 aC [5]]:=by rw[l];exact b
 refine⟨(dB a,0),i0,(NP 0 F.may i5 b).mono ?_⟩;have p:fC m 0 Pow.new D 0=(eL,0):=by obtain⟨A,j,d⟩:=FV (m:=m) (offs:=0) (w:=Pow.new) (ds:=D) (by rw[F.live,F.dr];decide);have n:=WG (offs:=0) (w:=Pow.new) (N:=1) F.aG.1 i0 (by rw[F.live,F.dr];decide) (WL F) (by rw[F.live,F.dr];decide);exact d 0 (by rw[n];decide)
 rintro _ u ⟨rfl,q⟩;rw[p];have g:=b.up q.ai;refine⟨(eL,0),i0,cu (λ_=>cu (λ_=>bv (λ_=>(NS F.aG.1 i0 g).mono ?_) λe=>j0) λe=>absurd i0 e) λe=>absurd i0 e⟩;rintro _ z ⟨rfl,r⟩;exact⟨⟨eH,0,0⟩,i0,i0,.zip (g.up r.ai).ai⟩
end
theorem Vi{p q:aB}(a b:Sl)(c d:List ByteArray)(h:Heap)(o:Vc.Seq h p a 1 mC c)(m:Vc.Seq h q b 1 mC d)(t:ii c<=2^30):
  ac xR 29 #[a,b] h λv h'=>(c=d->v=xL eL)/\h'=h:=by
 refine pR a b ?_;unfold lm;have l:=o.len;have g:=m.len;refine cv (λe=>⟨λf=>absurd (by rw[l,g,f]) e,i0⟩) λe=>?_;refine av (λi:Nat=>(i:Int)) (λi h'=>i<=ii c/\h'=h) (λi=>ii c-i) 0 i0 ⟨i4,i0⟩ ?_;rintro i u ⟨w,rfl⟩;refine aj (λn=>?_) λn=>⟨λ_=>rfl,i0⟩
 have k:i<ii c:=by have s:(i:Int)<(a.len:Int):=n;omega
 have j:i<ii d:=i4
 refine o.bB i i0 k c[i] i0 ?_;refine m.bB i i0 j d[i] i0 ?_;refine bm (λf=>⟨λr=>?_,i0⟩) λf=>⟨i+1,js,⟨i4,i0⟩,i4⟩
 subst r;simp at f
section
variable {B:aB} {h0 h:Heap} {As:List HP} {a pw:Addr} {offs:Int} {da:List aT} {w:Pow} {ds:aW} {m:aI}
theorem RD(q:bO m=eL)(y:di w offs=false)(f:∀e∈m.aG,(kL m offs w ds e.name).2=0)(H:aa B h0 h (dF a pw da offs w ds m::As)):
  ac xR 30 #[xJ (dB a)] h λv h'=>∃r:Sl,v=r/\Sp h h' [aq 9 r 1 mC (m.aG.map Wl.cb.name)]:=by
 refine BH (dB a) ?_;unfold ue;have J:nr m offs w=m.aG.map Wl.cb.name:=by unfold nr;rw[y];rfl
 refine(Sp.refl h).boxed λn M d=>⟨dB a,(d.box 0 i0).cell0 i0,(IE (H.up d.ai)).mono ?_⟩
 rintro _ K ⟨rfl,rfl⟩;refine⟨_,i0,bv (λe=>by rw[y]at e;cases e) λ_=>⟨dB a,(d.box 0 rfl).cell0 rfl,(Vf q (H.up d.ai)).mono ?_⟩⟩;rintro _ h3 ⟨b,rfl,l⟩;rw[J]at l;obtain⟨N,o⟩:∃N,N=m.aG.map Wl.cb.name:=⟨_,rfl⟩
 rw[<-o]at l⊢;have G:ii N<=12:=by rw[o,qy];exact((bU m).1 q).2.2.2.1
 have p:Sp h h3 [aq 9 b 1 mC N,aw n 27 [xJ (dB a)]]:=d.cD l;have E:=(H.up d.ai).up l.ai;refine⟨b,i0,?_⟩;refine(iP b (87,#[],#[xJ (dB n)]) (R:=λv h'=>v=b/\Sp h3 h' []) ?_).mono ?_
 ·unfold gi;refine(iY b (87,#[],#[xJ (dB n)]) (R:=λv h'=>v=xH xN (-1)/\Sp h3 h' []) ?_).mono ?_
  ·unfold gr;have u:=(p.seq 0 i0 λ_=>rfl)
   have F:=u.len;refine av (λi:Nat=>(i:Int)) (λi h'=>i<=ii N/\Sp h3 h' []) (λi=>ii N-i) 0 i0 ⟨i4,Sp.refl h3⟩ ?_;rintro i t ⟨O,c⟩;refine aj (λe=>?_) λe=>⟨i0,c⟩
   have k:i<ii N:=by have L:(i:Int)<(b.len:Int):=e;omega
   refine(Seq.up u c.ai).bB i i0 k N[i] i0 ?_;refine fa k9 ?_;refine(Jq N[i] n (R:=λv h'=>v=xL false/\Sp t h' []) ?_).mono ?_
   ·unfold BM;have s:=(p.box 1 i0)
    refine⟨dB a,(s.ai c.ai s.lt).cell0 i0,(agA N[i] q (E.up c.ai)).mono ?_⟩;rintro _ z ⟨r,rfl,j⟩;refine⟨(r,(kL m offs w ds N[i]).2),i0,?_⟩;have A:(kL m offs w ds N[i]).2=0:=by
     have g:∀x∈N,(kL m offs w ds x).2=0:=by rw[o];intro x D;obtain⟨e,I,rfl⟩:=qw.1 D;exact f e I
     exact g _ (qg k)
    dsimp only;rw[A];exact⟨i0,.zip j.ai⟩
   ·rintro _ z ⟨rfl,j⟩;exact⟨false,i0,bv (λe=>j0) λ_=>⟨i+1,js,⟨i4,c.up j.ai⟩,i4⟩⟩
  ·rintro _ t ⟨rfl,c⟩;exact⟨-1,i0,cu (λ_=>⟨i0,c⟩) λe=>absurd i0 e⟩
 ·rintro _ z ⟨rfl,j⟩;exact⟨b,i0,b,i0,(p.up j.ai).ck [0]⟩
end
theorem aer{m:aI}{ds a:aW}{x:Int}(c:ii a=64)(h:∀k d,bC a k=dB d->d.l=[]∨bC ds k=dB d):∀k d,bC (kz m 0 Pow.new a x).2 k=dB d->d.l=[]∨bC ds k=dB d:=by
 unfold kz;rw[g0 i5];split
 ·exact h
 ·cases hd:bC a x with
  |none=>exact h
  |some d0=>
   dsimp only;intro k d b;rw[sq c hd]at b;split at b
   ·injection b with b;subst b;exact .inl i0
   ·exact h k d b
theorem NT(J:Sl)(l:aF)(F:Sl)(l1:aF)(t b:Int)(h:Heap)(hs:Rd h J 1 aC l)(X:Rd h F 1 aC l1):
  ac xR 4 #[J,F,xH xN t,xH xN b] h λv h'=>v=xL eL/\Sp h h' []:=by
 refine pP J F t b ?_;unfold lj;refine(acq J l F l1 8 h hs X i5).mono ?_;rintro _ h1 ⟨a,pw,da,ds,m,C,rfl,W,H1⟩;refine⟨dB a,i0,bv (λe=>j0) λ_=>(AV W.fD.may H1).mono ?_⟩;rintro _ h2 ⟨K,rfl,R2⟩;have u:=(R2.own 0 i0).len;have H2:=H1.up R2.ai;obtain⟨n,R⟩:∃n,n=ii (aN ds m.drives):=⟨_,rfl⟩
 have ad:1<=n:=by rw[R];exact List.length_pos_iff.2 W.live
 have ao:n<=9:=by rw[R];exact W.few
 rw[<-R]at u;obtain⟨N,hN⟩:∃N:Int,N=(if(4:Int)<(K.len:Int)then(4:Int)else(K.len:Int)):=⟨_,rfl⟩
 have ab:1<=N/\N<=4/\N<=n:=by rw[hN];split<;>omega
 refine⟨K,i0,?_⟩;dsimp only;rw[<-hN];refine(bZ t N h2 i4 i4).mono ?_;rintro _ _ ⟨rfl,rfl⟩;have q0:=yc t (show N≠0 by omega);have q1:=wh t (show 0<N by omega);obtain⟨T,hT⟩:∃T:Nat,t%N=(T:Int):=⟨(t%N).toNat,i4⟩
 rw[hT]at q0 q1⊢;refine⟨(T:Int),i0,(NP (T:Int) W.fD.may i4 H2).mono ?_⟩;rintro _ h3 ⟨rfl,R3⟩;have Y:=H2.up R3.ai;have hz:=W.aih (t:=T) i4 i4 i4;refine⟨((fC m 0 Pow.new ds T).1,(fC m 0 Pow.new ds T).2),i0,cv (λe=>absurd hz e) λ_=>(Vf W.fD.may Y).mono ?_⟩;rintro _ h4 ⟨q,rfl,Z⟩;have en:nr m 0 Pow.new=m.aG.map Wl.cb.name:=acn;rw[en]at Z;have H:=Y.comp Z;refine⟨q,i0,bm (λe=>?_) λe=>?_⟩
 ·refine(IH h4).mono ?_;rintro _ h5 ⟨rfl,R5⟩;exact⟨eL,i0,i0,.zip (H.up R5.ai).ai⟩
 have hh:fC m 0 Pow.new ds T=(eL,0):=Prod.ext e hz;have H:Sp h h4 [dF a pw da 0 Pow.new ds m,aq 9 q 1 mC (m.aG.map Wl.cb.name)]:=H;refine av (λz:Nat×aW×aF=>(z.1:Int)) (λz h'=>z.1<=T/\z.2.2.length=z.1/\uo m ds z.2.1 z.2.2/\(∀k d,bC z.2.1 k=dB d->d.l=[]∨bC ds k=dB d)/\Sp h h' [dF a pw da 0 Pow.new z.2.1 m,aq 9 q 1 mC (m.aG.map Wl.cb.name)]) (λz=>T-z.1) (0,ds,[]) i0 ⟨z7 _,i0,.start W.fD.len,λk d h=>.inr h,H⟩ ?_;rintro⟨i,ds',g⟩ h5 ⟨hi,p,G,f,s⟩;dsimp only at hi p G f s⊢;refine aj (λU=>?_) λU=>?_
 ·have ah:i<T:=by have O:(i:Int)<(T:Int):=U;omega
  refine(AV W.fD.may s).mono ?_;rintro _ I ⟨r8,rfl,E⟩;have A:=(E.own 0 i0).len;have c:=s.comp E;have x:=G.few W.fD.may;obtain⟨L,M⟩:∃L,L=aN ds' m.drives:=⟨_,rfl⟩
  rw[<-M]at A c x;have am:1<=ii L:=i4
  have ap:ii L<=64:=by rw[M];exact zi (qP _ _) (gv W.fD.may)
  refine⟨r8,i0,j3,?_⟩;rw[A];refine(bZ _ (ii L:Int) I i4 i4).mono ?_;rintro _ _ ⟨rfl,rfl⟩;obtain⟨y,hy⟩:∃y:Int,y=Int.fdiv b (2^min (qc xN (2*(i:Int))).toNat (qk xN)):=⟨_,rfl⟩
  rw[<-hy];have z0:=yc y (show(ii L:Int)≠0 by omega);have z1:=wh y (show(0:Int)<ii L by omega);obtain⟨j,hj⟩:∃j:Nat,y%(ii L:Int)=(j:Int):=⟨(y%(ii L:Int)).toNat,i4⟩
  rw[hj]at z0 z1⊢;have D:j<ii L:=i4
  have c:Sp h _ [dF a pw da 0 Pow.new ds' m,aq 9 q 1 mC (m.aG.map Wl.cb.name),aq 3 r8 1 aC L]:=c;refine⟨(j:Int),i0,(c.seq 2 i0 λ_=>rfl).bB j i0 D L[j] i0 ?_⟩;have r:L[j]∈aN ds' m.drives:=by rw[<-M];exact qg D
  obtain⟨S,G'⟩:=G.rU r;refine(UW L[j] W.fD.may c).mono ?_;rintro _ h7 ⟨rfl,H7⟩;refine⟨_,i0,cv (λe3=>absurd S e3) λ_=>?_⟩;refine⟨(i+1,(kz m 0 Pow.new ds' L[j]).2,g++[L[j]]),jj,⟨i6,by dsimp only;rw[qx,p];rfl,G',aer G.len f,?_⟩,i6⟩;exact H7.ck [0,1]
 ·have V:i=T:=by have O:¬(i:Int)<(T:Int):=U;omega
  have P:fC m 0 Pow.new ds g.length=(eL,0):=by rw[p,V];exact hh
  have S':fl m C ds':=G.fD W.fD f;have B:∀e∈m.aG,(kL m 0 Pow.new ds' e.name).2=0:=λe he=>by
   rw[(S'.get (offs:=0) (w:=Pow.new) i5 e.name).1 e he i0,G.can W.fD P he];rfl
  refine(RD W.fD.may i5 B s).mono ?_;rintro _ I ⟨o,rfl,E⟩;have c:=s.comp E;have c:Sp h I [dF a pw da 0 Pow.new ds' m,aq 9 q 1 mC (m.aG.map Wl.cb.name),aq 9 o 1 mC (m.aG.map Wl.cb.name)]:=c;have Q:ii (m.aG.map Wl.cb.name)<=2^30:=by rw[qy];have:=((bU m).1 W.fD.may).2.2.2.1;omega
  refine⟨o,i0,(Vi o q _ _ I (c.seq 2 i0 λ_=>rfl) (c.seq 1 i0 λ_=>rfl) Q).mono ?_⟩;rintro v h7 ⟨hv,rfl⟩;rw[hv rfl];refine⟨eL,i0,bv (λ_=>?_) λe=>j0⟩;refine(IH h7).mono ?_;rintro _ h8 ⟨rfl,R8⟩;exact⟨eL,i0,i0,.zip (c.up R8.ai).ai⟩
theorem Gg(s:Sl)(l:aF)(d:Sl)(l1:aF)(t a:Int)(h:Heap)(e:Rd h s 1 aC l)(c:Rd h d 1 aC l1):
  ac xR 4 #[s,d,xH xN t,xH xN a] h λv h'=>v=xL eL/\aV (λb=>b<h.size) h h':=
 (NT s l d l1 t a h e c).mono λ_ _ q=>⟨q.1,q.2.ai⟩
end Go.Qw
