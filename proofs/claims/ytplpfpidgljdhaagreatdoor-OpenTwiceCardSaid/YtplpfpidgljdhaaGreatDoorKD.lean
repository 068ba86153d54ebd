/- Lemmas for the proof of the law; no condition. -/
import Derived.Test.YtplpfpidgljdhaaGreatDoorKC
set_option linter.unusedVariables false
set_option linter.unusedSimpArgs false
set_option maxHeartbeats 2000000
open Go.Proofs.Tryz renaming prog -> xQ
open Go.Value renaming agg -> xL, bool -> xK, int -> xG, pointer -> xI, slice -> xH, string -> xJ
open Go.IntKind renaming bits -> qG, i64 -> xM, u32 -> xO, u8 -> xN, wrap -> qe
open List renaming dropLast_concat_getLast -> yE, filterMap_append -> vt, map_set -> vU, range -> qz, range' -> zJ, replicate -> qi, replicate_zero -> vG, set_append_left -> vd, zipWith -> ze
open Int renaming fdiv -> zG, tdiv -> vJ
open Nat renaming shiftRight_eq_div_pow -> yX
open Prod renaming fst -> qq, snd -> zi
open Go.Instr renaming slice -> xE, sliceAt -> yu, sliceBounds -> wE, storeAt -> qE
open BitVec renaming eq_of_toNat_eq -> wD, getLsbD_and -> xu, ofInt -> qK, ofNat -> wG, toNat -> xD, toNat_ushiftRight -> ve, xor_assoc -> wB, xor_self -> y6, xor_zero -> xo, zero_xor -> xp
set_option maxRecDepth 100000
open Option renaming some -> dB, none -> ez
open Bool renaming true -> eH, false -> eL
open Go renaming Addr -> eX
open Go.Qw renaming Heap -> f8
open List renaming length -> ii
namespace Go.Qw
open Go.Proofs
variable {B:av} {h0 h:f8} {As:List HP} {a b:eX} {mc:aR} {offs:Int} {da:List bZ} {w:Pow} {ds:aF} {d:aY}
section
variable {pw:eX}
theorem pH{p:av}(s:Sl)(l:aB)(x:Int)(h:f8)(g:Seq h p s 1 ak l)(n:ii l<=2^40:=by omega):an xQ 80 #[s,xG xM x] h λv h'=>v=xK (decide (x∈l))/\h'=h:=by
 refine ts Tryz.func80 ?_;refine(mA s x (R:=λv h'=>(∃i:Int,v=xG xM i/\(decide (i>=0)=decide (x∈l)))/\h'=h) ?_).mono ?_
 ·skip
  have k:=g.len;refine aq (λi:Nat=>(i:Int)) (λi h'=>i<=ii l/\x∉l.take i/\h'=h) (λi=>ii l-i) 0 i0 ⟨i4,i9,i0⟩ ?_;rintro i m ⟨f,a,rfl⟩;refine ag (λe=>?_) (λe=>?_)
  ·have b:i<ii l:=by have j:(i:Int)<(s.len:Int):=e;omega
   refine g.bt i i0 b l[i] i0 ?_;refine cv (λd=>⟨⟨i,i0,?_⟩,i0⟩) (λd=>?_)
   ·rw[g9 (show(i:Int)>=0 by omega),g9 (by rw[d];exact qf b)]
   ·refine⟨i+1,j0,⟨i4,λc=>?_,i0⟩,i4⟩;rw[aD _ _ b]at c;rcases qy.1 c with c|c
    ·exact a c
    ·exact d (qp.1 c)
  ·have j:¬(i:Int)<(s.len:Int):=e;rw[qg i4]at a;exact⟨⟨-1,i0,by rw[hU a];rfl⟩,i0⟩
 ·rintro _ m ⟨⟨i,rfl,f⟩,rfl⟩;exact⟨i,i0,by rw[f],i0⟩
theorem DZ(H:aa B h0 h (ba bc a pw mc offs da w ds::As)):an xQ 78 #[xI (dB a)] h λv h'=>v=xK (fT w offs)/\h'=h:=by refine ts Tryz.func78 ?_;refine bf (λe=>j1) λ_=>(pD H).mono ?_;rintro _ _ ⟨rfl,rfl⟩;exact⟨_,i0,i0,i0⟩
def JH(slot cells:Int):Bool:=decide ((0<=slot/\slot<64)/\1<=cells/\cells<=512)
theorem QF(slot cells:Int)(h:f8):an xQ 79 #[xG xM slot,xG xM cells] h λv h'=>v=xK (JH slot cells)/\h'=h:=by
 refine ts Tryz.func79 ?_;unfold JH;refine ag (λc=>ag (λb=>ag (λa=>⟨?_,i0⟩) λa=>⟨?_,i0⟩) λb=>⟨?_,i0⟩) λc=>⟨?_,i0⟩
 ·congr 1;rw[decide_eq_decide];omega
 all_goals (rw[hU i4])
theorem XA(n:Nat)(f:n<64)(x:bo)(H:aa B h0 h (ir pw b d::ba bc a pw (az x) offs da w ds::As)):
  an xQ 81 #[xI (dB a),xG xM n,xI (dB b)] h λv h'=>v=.tuple #[]/\aa B h0 h' (ba bc a pw (az x) offs (da.set n (dB b)) w (ds.set n (dB d))::As):=by
 refine ts Tryz.func81 ?_;refine bf (λ_=>?_) λe=>j1
 refine ag (λ_=>ag (λ_=>?_) λe=>absurd (show(n:Int)<64 by omega) e) λe=>absurd (show(n:Int)>=0 by omega) e;refine⟨a,i0,⟨i4,i4⟩,?_⟩;rw[qk,wb];have i:aa B h0 h (ba bc a pw (az x) offs da w ds::ir pw b d::As):=H.aL 2 [1,0];obtain⟨ok,j⟩:=Qw.aa.mB i;have g:(a.add 10).add n=a.add (10+n):=by unfold Addr.add;simp[w5]
 rw[g];refine j.storeAt aj 0 i0 i0 i0 i0 i0 (by simp[ok.la];omega) λh' c=>?_;rw[zr,Ky ok.l8]at c;exact⟨i0,aa.aap ok f c⟩
theorem OG(slot:Int)(x:bo)(m:aA)(g:dh h x m)(c:cw m)(H:aa B h0 h (ba bc a pw (az x) offs da w ds::As))(b:fT w offs=eH∨slot∉bu ds m.drives):
  an xQ 37 #[xI (dB a),xG xM slot] h λv h'=>v=xG xM (if fT w offs then 14 else 5)/\Sp h h' []:=by
 refine ts Tryz.func37 ?_;have j:=c.dr;refine(DZ H).mono ?_;rintro _ l ⟨rfl,rfl⟩;refine⟨_,i0,bf (λe=>⟨o0,Sp.refl _⟩) λe=>?_⟩;refine(fS x m g c H).mono ?_;rintro _ i ⟨r,rfl,d⟩;have k:ii (bu ds m.drives)<=ii m.drives:=qR _ _;refine⟨r,i0,(pH r _ slot i (d.seq 0 i0 λ_=>rfl)).mono ?_⟩;rintro _ h3 ⟨rfl,rfl⟩;refine⟨_,i0,aQ (λf=>⟨o0,.zip d.af⟩) λf=>?_⟩;rcases b with b|b
 ·rw[e]at b;cases b
 ·exact absurd (hZ f) b
theorem Ut(H:aa B h0 h (ir pw b d::As)):an xQ 91 #[xI (dB b)] h λv h'=>v=.tuple #[]/\aa B h0 h' (ir pw b d.CI::As):=by
 refine ts Tryz.func91 ?_;obtain⟨ok,s,o,c⟩:=H.nz;refine bf (λ_=>?_) λe=>j1
 refine⟨b,i0,c.store aj 0 i0 i0 6 [xK eH] i0 i0 i0 lz λm a=>?_⟩;refine⟨b,i0,a.store aj 0 i0 i0 2 [xH ez 0 0] i0 i0 i0 lz λh3 g=>?_⟩;refine⟨b,i0,g.store aj 0 i0 i0 3 [xG xM 0] i0 i0 i0 lz λk j=>?_⟩;refine⟨b,i0,j.store aj 0 i0 i0 4 [xH ez 0 0] i0 i0 i0 lz λn f=>?_⟩;refine⟨b,i0,f.store aj 0 i0 i0 5 [xK eL] i0 i0 i0 lz λl i=>⟨i0,?_⟩⟩;refine aa.tG (s:=⟨ez,0,0⟩) (b:=⟨ez,0,0⟩) ⟨qm _,zb _,ok.room,by simp[aY.CI],zb _,by simp[aY.CI]⟩ ?_;exact((i.ww 58 5 1 aw).ww 58 5 1 aw).aL 5 [2,0,1]
theorem QG(n:Nat)(x:bo)(m:aA)(p:dh h x m)(g:cw m)(H:aa B h0 h (ba bc a pw (az x) offs da w ds::As))(D:fT w offs=eL)(y:(n:Int)∈bu ds m.drives)(z:ds[n]?=dB (dB d)):
  an xQ 37 #[xI (dB a),xG xM n] h λv h'=>v=xG xM 0/\aa B h0 h' (ba bc a pw (az x) offs da w (ds.set n (dB d.CI))::As):=by
 refine ts Tryz.func37 ?_;have t:=g.dr;refine(DZ H).mono ?_;rintro _ I ⟨rfl,rfl⟩;refine⟨_,i0,bf (λe=>by rw[D]at e;cases e) λe=>?_⟩;refine(fS x m p g H).mono ?_;rintro _ q ⟨r,rfl,i⟩;have u:ii (bu ds m.drives)<=ii m.drives:=qR _ _;refine⟨r,i0,(pH r _ (n:Int) q (i.seq 0 i0 λ_=>rfl)).mono ?_⟩;rintro _ h3 ⟨rfl,rfl⟩;refine⟨_,i0,aQ (λj=>absurd y (of_decide_eq_false j)) λj=>?_⟩;have l:=H.up i.af;obtain⟨ok,s⟩:=aa.cP l;refine(kE (n:Int) ok s).mono ?_;rintro _ F ⟨rfl,rfl⟩;obtain⟨b,c,A⟩:=Qw.aa.ju l z;have f:n<64:=by have:=(qj.1 c).1;rw[ok.la]at this;exact this
 have o:gf da (n:Int)=dB b:=by unfold gf;rw[f9 i4,qk,c];rfl
 rw[o];refine⟨_,i0,(Ut A).mono ?_⟩;rintro _ G ⟨rfl,E⟩;exact⟨(),i0,i0,Qw.aa.pC (k:=bc) (n:=n) c E⟩
end
variable {k:Kit} {n:Nat}
section
variable {pw:eX}
theorem Uu(h8:ii mc=8):(bC mc pw offs da).set (10+n) (xI ez)=bC mc pw offs (da.set n ez):=by unfold bC;rw[qS _ _ i4,h8,show 10+n-8=n+1+1 by omega,zu,zu,vU]
theorem aa.aaq(ok:fx mc da ds)(q:n<64)(H:aa B h0 h (ac a k.tS (bC mc pw offs (da.set n ez))::bK k.tP pw w::(cZ k pw da ds++As))):aa B h0 h (ba k a pw mc offs (da.set n ez) w (ds.set n ez)::As):=by
 have o:=ok.la;have l:=ok.ls;have m:fx mc (da.set n ez) (ds.set n ez):=⟨ok.l8,by simp[o],by simp[l],λi=>by
  by_cases b:n=i
  ·subst b;rw[qd,qd,zg i4,zg i4];rfl
  ·have:=ok.same i;rw[qd,qd]at this⊢;rw[zy b,zy b];exact this⟩
 have f:=BB (k:=k) (pw:=pw) ok;have e:cZ k pw (da.set n ez) (ds.set n ez)=(cZ k pw da ds).set n emp:=by
  apply zt;intro j;simp only[cZ,List.getElem?_set,List.getElem?_zipWith,List.length_zipWith];by_cases d:n=j
  ·subst d;rw[f9 i0,f9 i4,f9 i0,f9 i4,f9 i0,f9 i4];rfl
  ·simp[d]
 refine aa.mC m ?_;rw[e];obtain⟨L,g⟩:∃L,L=cZ k pw da ds:=⟨_,rfl⟩
 rw[<-g]at H f⊢;have c:n<ii L:=i4
 have H:=H.dX (n+2) (A:=L[n]) (D:=emp) (by rw[qo,qo,ql c,qc c]) λ_ _=>trivial;have p:(ac a k.tS (bC mc pw offs (da.set n ez))::bK k.tP pw w::(L++As)).set (n+2) emp=ac a k.tS (bC mc pw offs (da.set n ez))::bK k.tP pw w::(L.set n emp++As):=by rw[zu,zu,vd _ _ c]
 rw[p]at H;exact H
end
def AH(m:aA)(l:aB):aA:={m with seq:=m.seq+1,drives:=l}
def kG(m:aA)(offs:Int)(w:Pow)(ds:aF)(slot cells:Int):Int×aA×Pow×aF:=
 if fT w offs then(14,m,w,ds)else if JH slot cells=eL then(1,m,w,ds)else if slot∈m.drives then(4,m,w,ds)else if m.seq>=2147483647 then(7,m,w,ds)else
 let r:=cI m offs w (ds.set slot.toNat (dB (aY.new cells.toNat))) (AH m (iu (m.drives++[slot])))
 (r.1,r.2.1,r.2.2.1,if r.1=7 then r.2.2.2.set slot.toNat ez else r.2.2.2)
section
variable {pw:eX}
theorem OH(n:Nat)(c:n<64)(x:bo)(H:aa B h0 h (ba bc a pw (az x) offs da w ds::As)):
  an xQ 81 #[xI (dB a),xG xM n,xI ez] h λv h'=>v=.tuple #[]/\aa B h0 h' (ba bc a pw (az x) offs (da.set n ez) w (ds.set n ez)::As):=by
 refine ts Tryz.func81 ?_;refine bf (λ_=>?_) λe=>j1
 refine ag (λ_=>ag (λ_=>?_) λe=>absurd (show(n:Int)<64 by omega) e) λe=>absurd (show(n:Int)>=0 by omega) e;refine⟨a,i0,⟨i4,i4⟩,?_⟩;rw[qk,wb];obtain⟨ok,f⟩:=Qw.aa.mB H;have d:(a.add 10).add n=a.add (10+n):=by unfold Addr.add;simp[w5]
 rw[d];refine f.storeAt aj 0 i0 i0 i0 i0 i0 (by simp[ok.la];omega) λh' b=>?_;rw[zr,Uu ok.l8]at b;exact⟨i0,aa.aaq ok c b⟩
theorem Is(x:bo)(m:aA)(g:dh h x m)(k:cw m)(H:aa B h0 h (ba bc a pw (az x) offs da w ds::As)):
  an xQ 11 #[xI (dB a)] h λv h'=>∃(y:bo) (L:List (dD×Qw.dm)) (pool:List (Sl×aB)),v=dq y/\(y.1=m.seq/\y.2.1=m.next/\(y.2.2.1,y.2.2.2.1,y.2.2.2.2.1)=m.p/\y.2.2.2.2.2.1=m.extra)/\L.map zi=m.objs/\(∀p∈L,Bx pool p)/\
   Sp h h' [ci 1 ak pool,ae 3 y.2.2.2.2.2.2.1 1 ak m.drives,ae 88 y.2.2.2.2.2.2.2 4 bh (L.map qq)]:=by
 refine ts Tryz.func11 ?_;obtain⟨ok,d⟩:=aa.cP H;refine(Sp.refl h).alloc aj i0 λs q b=>?_;have c:=d.af b.af d.lt;refine bf (λe=>j1) λ_=>⟨a,i0,x,c.aE _ i0,(mU x m q (g.up b.af) k).mono ?_⟩;rintro _ r ⟨y,L,pool,rfl,l,o,j,n⟩;have i:=b.comp n;refine⟨y,i0,?_⟩;refine i.store aj 0 i0 i0 0 (az y) i0 i0 i0 j9 λh3 f=>?_;exact⟨y,(f.box 0 i0).aE _ i0,y,L,pool,i0,l,o,j,f.bB [1,2,3]⟩
theorem XB(slot cells:Int)(x:bo)(m:aA)(P:bs m=eH)(H:aa B h0 h (ba bc a pw (az x) offs da w ds::aZ x m::As)):
  an xQ 27 #[xI (dB a),xG xM slot,xG xM cells] h λv h'=>v=xG xM (kG m offs w ds slot cells).1/\
   ∃y U,aa B h0 h' (ba bc a pw (az y) offs U (kG m offs w ds slot cells).2.2.1 (kG m offs w ds slot cells).2.2.2::aZ y (kG m offs w ds slot cells).2.1::As):=by
 refine ts Tryz.func27 ?_ (.two .n (.two .n (.two .n (.two .n (.two .n (.two .n (.two .n (.two .n (.two .n (.two (.join [] [(50,55)] .n) .n))))))))));have J:=il P;have ab:=im P;obtain⟨g1,g2,g3,g4⟩:=(fp m).1 ((cY m).1 P).1;refine(DZ H).mono ?_;rintro _ h1 ⟨rfl,rfl⟩;refine⟨_,i0,bf (λe=>?_) λK=>?_⟩
 ·have j:kG m offs w ds slot cells=(14,m,w,ds):=by unfold kG;rw[f9 e]
  rw[j];exact⟨i0,x,da,H⟩
 refine(Is x m (H.at 1 i0) J H).mono ?_;rintro _ h2 ⟨y,L,pool,rfl,u,W,hL,R2⟩;have H2:=(H.comp R2).front;refine⟨y,i0,H2.alloc aj i0 λa3 h3 X=>?_⟩;have X:=X.be;refine X.storeAll aj 0 i0 i0 (az y) i0 i0 i0 i0 λh4 k=>?_;have k:aa B h0 h4 (ac a3 39 (az y)::ci 1 ak pool::ae 3 y.2.2.2.2.2.2.1 1 ak m.drives::ae 88 y.2.2.2.2.2.2.2 4 bh (L.map qq)::ba bc a pw (az x) offs da w ds::aZ x m::As):=k;refine(QF slot cells h4).mono ?_;rintro _ h5 ⟨rfl,rfl⟩;refine⟨_,i0,aQ (λz=>?_) λz=>?_⟩
 ·have j:kG m offs w ds slot cells=(1,m,w,ds):=by unfold kG;rw[g0 t6,f9 z]
  rw[j];exact⟨i0,x,da,k.aL 6 [4,5]⟩
 refine⟨y.2.2.2.2.2.2.1,(k.box 0 i0).cell i0,(pH _ m.drives slot h5 (k.seq 2 i0 λ_=>rfl)).mono ?_⟩;rintro _ h6 ⟨rfl,rfl⟩;refine⟨_,i0,bf (λe3=>?_) λe3=>?_⟩
 ·have j:kG m offs w ds slot cells=(4,m,w,ds):=by unfold kG;rw[g0 t6,g0 (by rw[z];decide),f9 (hZ e3)]
  rw[j];exact⟨i0,x,da,k.aL 6 [4,5]⟩
 have q:slot∉m.drives:=of_decide_eq_false e3;refine⟨y.1,(k.box 0 i0).cell0 i0,ag (λI=>?_) λI=>?_⟩
 ·rw[u.1]at I;have j:kG m offs w ds slot cells=(7,m,w,ds):=by unfold kG;rw[g0 t6,g0 (by rw[z];decide),g0 q,f9 I]
  rw[j];exact⟨i0,x,da,k.aL 6 [4,5]⟩
 rw[u.1]at I;have G:=hZ z;obtain⟨n,hn⟩:∃n:Nat,slot=n:=⟨slot.toNat,i4⟩
 have l:n<64:=i4
 have H5:aa B h0 h6 (ba bc a pw (az x) offs da w ds::ac a3 39 (az y)::ci 1 ak pool::ae 3 y.2.2.2.2.2.2.1 1 ak m.drives::ae 88 y.2.2.2.2.2.2.2 4 bh (L.map qq)::aZ x m::As):=k.aL 6 [4,0,1,2,3,5];refine(Ci H5).mono ?_;rintro _ h7 ⟨rfl,rfl⟩;refine⟨_,i0,(HB cells pw h7).mono ?_⟩;rintro _ h8 ⟨Q1,_⟩;obtain⟨b,rfl,R8⟩:=Q1 ⟨G.2.1,G.2.2⟩;have H8:=H5.bN R8;subst hn;refine⟨_,i0,(XA n l x H8).mono ?_⟩;rintro _ h9 ⟨rfl,F⟩;obtain⟨ds1,p⟩:∃ds1,ds1=ds.set n (dB (aY.new cells.toNat)):=⟨_,rfl⟩
 rw[<-p]at F;have F:aa B h0 h9 (ac a3 39 (az y)::ae 3 y.2.2.2.2.2.2.1 1 ak m.drives::ci 1 ak pool::ae 88 y.2.2.2.2.2.2.2 4 bh (L.map qq)::ba bc a pw (az x) offs (da.set n (dB b)) w ds1::aZ x m::As):=F.aL 6 [1,3,2,4,0,5];refine⟨(),i0,y.1,(F.box 0 i0).cell0 i0,?_⟩
 try dsimp only
 rw[u.1,ai (m.seq+1)];refine F.ja aj 0 i0 i0 [xG xM (m.seq+1)] i0 i0 i0 j9 λQ g=>?_;have g:aa B h0 Q (ac a3 39 (xG xM (m.seq+1)::(az y).drop 1)::ae 3 y.2.2.2.2.2.2.1 1 ak m.drives::ci 1 ak pool::ae 88 y.2.2.2.2.2.2.2 4 bh (L.map qq)::ba bc a pw (az x) offs (da.set n (dB b)) w ds1::aZ x m::As):=g;refine⟨_,(g.box 0 i0).cell i0,?_⟩;refine g.push aj 1 i0 fR i0 i5 (λ_=>rfl) eC (n:Int) i0 i5 i4 λo al N=>?_;refine N.store aj 0 i0 i0 6 [o] i0 i0 i0 j9 λE d=>?_;obtain⟨c,i⟩:∃c:bo,c=(m.seq+1,y.2.1,y.2.2.1,y.2.2.2.1,y.2.2.2.2.1,y.2.2.2.2.2.1,o,y.2.2.2.2.2.2.2):=⟨_,rfl⟩
 have ed:c.2.2.2.2.2.2.1=o:=by rw[i]
 have eo:c.2.2.2.2.2.2.2=y.2.2.2.2.2.2.2:=by rw[i]
 have d:aa B h0 E (ac a3 39 (az c)::ae 3 c.2.2.2.2.2.2.1 1 ak (m.drives++[(n:Int)])::ci 1 ak pool::ae 88 c.2.2.2.2.2.2.2 4 bh (L.map qq)::ba bc a pw (az x) offs (da.set n (dB b)) w ds1::aZ x m::As):=by rw[ed,eo,i];exact d
 refine⟨_,(d.box 0 i0).cell i0,(Ds c.2.2.2.2.2.2.1 (m.drives++[(n:Int)]) E (d.own 1 i0) i7).mono ?_⟩;rintro _ D ⟨rfl,Z,R⟩;have f:=d.mN 1 i0 R Z;obtain⟨dr,s⟩:∃dr,dr=iu (m.drives++[(n:Int)]):=⟨_,rfl⟩
 rw[<-s]at f;have f:aa B h0 D (ac a3 39 (az c)::ae 3 c.2.2.2.2.2.2.1 1 ak dr::ci 1 ak pool::ae 88 c.2.2.2.2.2.2.2 4 bh (L.map qq)::ba bc a pw (az x) offs (da.set n (dB b)) w ds1::aZ x m::As):=f;refine⟨(),i0,c,(f.box 0 i0).aE _ i0,?_⟩;obtain⟨M,A⟩:∃M,M=AH m dr:=⟨_,rfl⟩
 have O:aa B h0 D (aZ c M::ba bc a pw (az x) offs (da.set n (dB b)) w ds1::aZ x m::As):=aa.By (m:=M) (L:=L) (pool:=pool) (by rw[A,i];exact⟨i0,u.2.1,u.2.2.1,u.2.2.2⟩) (by rw[A];exact W) hL (by rw[A];exact f.aL 6 [2,1,3,4,5]);have V:cw M:=by rw[A];exact⟨by show dr.length<=_;rw[s,CJ];simp;omega,J.ob,J.nm⟩
 refine(Ft x m c M (As:=aZ c M::As) (St.dN 0 i0 λ_ hq=>hq) J V i4 (O.aL 3 [1,2,0])).mono ?_;rintro _ ah ⟨rfl,Y,t⟩;have j:kG m offs w ds n cells=((cI m offs w ds1 M).1,(cI m offs w ds1 M).2.1,(cI m offs w ds1 M).2.2.1,if(cI m offs w ds1 M).1=7 then(cI m offs w ds1 M).2.2.2.set n ez else(cI m offs w ds1 M).2.2.2):=by unfold kG;rw[g0 t6,g0 (by rw[z];decide),g0 q,g0 I,A,s,p];rfl
 rw[j];obtain⟨r,hr⟩:∃r,r=cI m offs w ds1 M:=⟨_,rfl⟩
 rw[<-hr]at t⊢;refine⟨_,i0,aT (cv (λT=>?_) λT=>?_)⟩
 ·refine(OH n l Y (t.aL 3 [0,1])).mono ?_;rintro _ ad ⟨rfl,S⟩;exact⟨(),i0,i0,Y,_,by rw[f9 T];exact S⟩
 ·exact⟨i0,Y,_,by rw[g0 T];exact t.aL 3 [0,1]⟩
end
section
variable {pw:eX}
theorem OI{k:Int}{d:aY}(e:aU ds k=dB d)(H:aa B h0 h (ba bc a pw mc offs da w ds::As)):∃(b:eX) (s f:Sl),gf da k=dB b/\bW h b 102 (eG pw d s f)/\dY h s 1 aw d.l/\gy d:=by
 obtain⟨ok,_⟩:=aa.cP H;rcases mD ok k with⟨h1,_⟩|⟨n,d',b,rfl,hn,h1,h2,h3,h4⟩
 ·rw[h1]at e;cases e
 ·rw[h2]at e;injection e with e
  subst e;obtain⟨m,c,j⟩:=Qw.aa.ju H h1;rw[h3]at c;injection c with c
  injection c with c
  subst c;obtain⟨g,s,f,i⟩:=aa.nz j;exact⟨b,s,f,h4,i.box 0 i0,(i.aL 2 [1,0]).sY λ_=>rfl,g⟩
theorem afn{k:Int}(c:aU ds k=ez)(H:aa B h0 h (ba bc a pw mc offs da w ds::As)):gf da k=ez:=by
 obtain⟨ok,_⟩:=aa.cP H;rcases mD ok k with⟨_,h2⟩|⟨n,d',b,rfl,hn,h1,h2,h3,h4⟩
 ·exact h2
 ·rw[h2]at c;cases c
theorem OJ{k:Int}(H:aa B h0 h (ba bc a pw mc offs da w ds::As)):an xQ 13 #[xI (dB a),xG xM k] h λv h'=>v=.pointer (gf da k)/\h'=h:=by obtain⟨ok,b⟩:=aa.cP H;exact kE k ok b
end
def bj(a pw:eX)(b:List bZ)(offs:Int)(w:Pow)(ds:aF)(m:aA):HP:=HP.ex λx:bo=>(ba bc a pw (az x) offs b w ds).sep (aZ x m)
variable {m:aA}
section
variable {pw:eX}
theorem fm(H:aa B h0 h (bj a pw da offs w ds m::As)):∃x,aa B h0 h (ba bc a pw (az x) offs da w ds::aZ x m::As):=by obtain⟨x,H⟩:=H.oz;exact⟨x,H.lK.gp⟩
theorem iC{x:bo}(H:aa B h0 h (ba bc a pw (az x) offs da w ds::aZ x m::As)):aa B h0 h (bj a pw da offs w ds m::As):=
 aa.sX (F:=λx:bo=>(ba bc a pw (az x) offs da w ds).sep (aZ x m)) x H.gp.iQ
theorem jK(H:aa B h0 h (bj a pw da offs w ds m::As)):ii ds=64/\∀k d,aU ds k=dB d->ii d.l<=d.room/\d.room<=512/\gy d:=by obtain⟨x,H⟩:=fm H;obtain⟨ok,_⟩:=aa.cP H;refine⟨ok.ls,λk d e=>?_⟩;obtain⟨b,s,f,_,_,_,c⟩:=OI e H;exact⟨c.len,c.room,c⟩
theorem Uv(p:Pm)(extra:Int)(s:Sl)(l:aB)(i:St B h0 As λh=>Rd h s 1 ak l)(d:ii l<=64)(f:ua p extra l=0)(c:w=Pow.new)(H:aa B h0 h (bK 104 pw w::As)):
  an xQ 22 #[jQ p,xG xM extra,xI (dB pw),s] h λv h'=>∃(a:eX) (da:List bZ) (D:aF),v=.tuple #[xI (dB a),xG xM 0]/\D.length=64/\
   (∀s,aU D s=if s∈bi l l.length then dB ⟨(l.getD s.toNat 0).toNat,aO (cA p extra l),0,[],eL,eL⟩else ez)/\aa B h0 h' (bj a pw da 0 Pow.new D (cA p extra l)::As):=by
 subst c;obtain⟨D,k,e,g⟩:=Xc (p:=p) (extra:=extra) (l:=l) d f;refine(Qi p extra s l i i4 H).mono ?_;rintro _ h' ⟨_,b⟩;rw[k]at b;obtain⟨a,y,da,rfl,j⟩:=b rfl;exact⟨a,da,D,i0,e,g,iC j⟩
theorem adi(name:ByteArray)(s:Sl)(b:aP)(i:St B h0 As λh=>Rd h s 1 aw b)(e:s.len<=s.cap)(j:name.size<=2^40)(c:bs m=eH)(d:ii b<=2^20)(H:aa B h0 h (bj a pw da offs w ds m::As)):
  an xQ 25 #[xI (dB a),xJ name,s] h λv h'=>v=xG xM (iZ m offs w ds name b).1/\
   aa B h0 h' (bj a pw da offs (iZ m offs w ds name b).2.2.1 (iZ m offs w ds name b).2.2.2 (iZ m offs w ds name b).2.1::As):=by
 obtain⟨x,H⟩:=fm H;obtain⟨l,n,k,g⟩:=(fp m).1 ((cY m).1 c).1;refine(ZT x m name s b i e j (il c) k g (js c) (im c) i4 i4 d H).mono ?_;rintro _ h' ⟨rfl,y,f⟩;exact⟨i0,iC f⟩
theorem adj(slot cells:Int)(d:bs m=eH)(H:aa B h0 h (bj a pw da offs w ds m::As)):
  an xQ 27 #[xI (dB a),xG xM slot,xG xM cells] h λv h'=>v=xG xM (kG m offs w ds slot cells).1/\
   ∃b,aa B h0 h' (bj a pw b offs (kG m offs w ds slot cells).2.2.1 (kG m offs w ds slot cells).2.2.2 (kG m offs w ds slot cells).2.1::As):=by
 obtain⟨x,H⟩:=fm H;refine(XB slot cells x m d H).mono ?_;rintro _ h' ⟨rfl,y,b,c⟩;exact⟨i0,b,iC c⟩
theorem pI(b:bs m=eH)(H:aa B h0 h (bj a pw da offs w ds m::As)):
  an xQ 12 #[xI (dB a)] h λv h'=>∃r:Sl,v=r/\Sp h h' [ae 3 r 1 ak (bu ds m.drives)]:=by
 obtain⟨x,H⟩:=fm H;exact fS x m (H.at 1 i0) (il b) H
theorem Gt(b:bs m=eH)(H:aa B h0 h (bj a pw da offs w ds m::As)):
  an xQ 11 #[xI (dB a)] h λv h'=>∃y:bo,v=dq y/\Sp h h' [aZ y m]:=by
 obtain⟨x,H⟩:=fm H;exact Jy x m (H.at 1 i0) (il b) H
theorem om(k:Int)(H:aa B h0 h (bj a pw da offs w ds m::As)):an xQ 13 #[xI (dB a),xG xM k] h λv h'=>v=.pointer (gf da k)/\h'=h:=by obtain⟨x,H⟩:=fm H;exact OJ H
theorem AI{k:Int}{d:aY}(e:aU ds k=dB d)(H:aa B h0 h (bj a pw da offs w ds m::As)):∃b,gf da k=dB b:=by obtain⟨x,H⟩:=fm H;obtain⟨b,_,_,c,_⟩:=OI e H;exact⟨b,c⟩
theorem XC{k:Int}(b:aU ds k=ez)(H:aa B h0 h (bj a pw da offs w ds m::As)):gf da k=ez:=by obtain⟨x,H⟩:=fm H;exact afn b H
theorem uh{k:Int}{d:aY}{b:eX}(j:aU ds k=dB d)(f:gf da k=dB b)(H:aa B h0 h (bj a pw da offs w ds m::As)):∃s e:Sl,bW h b 102 (eG pw d s e)/\dY h s 1 aw d.l/\gy d:=by
 obtain⟨x,H⟩:=fm H;obtain⟨o,s,e,c,g,n,i⟩:=OI j H;rw[f]at c;injection c with c
 subst c;exact⟨s,e,g,n,i⟩
theorem XD(o b:Int)(e:bs m=eH)(H:aa B h0 h (bj a pw da offs w ds m::As)):
  an xQ 33 #[xI (dB a),xG xM o,xG xM b] h λv h'=>∃r:Sl,v=r/\Sp h h' [dc 22 r 3 1 ak (fz m ds o b (bu ds m.drives))]:=by
 have c:=(jK H).2;obtain⟨x,H⟩:=fm H;exact TT x m o b (H.at 1 i0) (il e) (im e) (λk d f=>by have:=c k d f;omega) H
theorem aar(H:aa B h0 h (bj a pw da offs w ds m::As)):an xQ 38 #[xI (dB a)] h λv h'=>v=xK (fT w offs)/\h'=h:=by obtain⟨x,H⟩:=fm H;exact pD H
theorem XE(H:aa B h0 h (bj a pw da offs w ds m::As)):an xQ 7 #[xI (dB a)] h λv h'=>v=xI (dB pw)/\h'=h:=by obtain⟨x,H⟩:=fm H;exact Ci H
end
def Gu(m:aA)(i:Nat):aA:={m with seq:=m.seq+1,objs:=m.objs.take i++m.objs.drop (i+1)}
def fX(m:aA)(offs:Int)(w:Pow)(ds:aF)(name:ByteArray):Int×aA×Pow×aF:=
 if fT w offs then(14,m,w,ds)else if m.objs.any (lP name)=eL then(5,m,w,ds)else if m.seq>=2147483647 then(7,m,w,ds)else
 cI m offs w ds (Gu m (m.objs.findIdx (lP name)))
theorem OK{C:Ctx}{t e k:Nat}{z:aR}{c:Nat}{h:f8}{s:Sl}(b:C.Ok)(a:bI C.toAi t e k z c){x y u:Int}(i j n:Nat)(g:x=i)(L:y=j)(A:u=n)(F:i<=j)(o:j<=n)(h3:n<=s.cap){K:Sl->f8->Prop}(I:∀v,K v h):
  bz C.P (yu t (xH s.ptr s.len s.cap) (dB (xG xM x)) (dB (xG xM y)) (dB (xG xM u))) (.one (.sc .slc)) h K:=by
 subst g;subst L;subst A;have p:aH C.P (wE eH s.len s.cap (dB (xG xM (i:Int))) (dB (xG xM (j:Int))) (dB (xG xM (n:Int)))) (i,j,n):=λw=>by
  have r:¬((n:Int)<0):=i4
  have x2:¬((s.cap:Int)<(n:Int)):=i4
  have x3:(n:Int)<=(s.cap:Int):=i4
  have f:(0:Int)<=(n:Int):=i4
  have J:(0:Int)<=(j:Int):=i4
  have m:(0:Int)<=(i:Int):=i4
  have B:(j:Int)<=(n:Int):=i4
  have D:(i:Int)<=(j:Int):=i4
  have q:¬((j:Int)<0):=i4
  have M:¬((i:Int)<0):=i4
  have G:¬((n:Int)<(j:Int)):=i4
  have H:¬((j:Int)<(i:Int)):=i4
  have l:¬(n<j):=i4
  have E:¬(j<i):=i4
  have d:¬(s.cap<n):=i4
  simp[wE,Instr.sliceBound,asIntOf,r,x2,x3,f,J,m,B,D,q,M,G,H,l,E,d,F,o,h3]
 unfold bz yu;refine au.bind (au.always (aG (a.under b)) ?_);show au C.P (xE t (xH s.ptr s.len s.cap) (dB (xG xM (i:Int))) (dB (xG xM (j:Int))) (dB (xG xM (n:Int)))) h _;unfold xE;refine au.bind (au.always (aG (a.under b)) ?_);refine au.bind (au.always p ?_);refine au.bind (au.always (a.size b) ?_);exact au.pure' ⟨⟨_,_,_⟩,i0,I _⟩
variable {s:Sl}
section
variable {pw:eX}
theorem QH(d:List dD)(i:Nat)(l:i<ii d)(q:ii d<=2^30)(H:aa B h0 h (ae 88 s 4 bh d::As)):
  an xQ 76 #[s,xG xM i,xG xM (i+1)] h λv h'=>∃r:Sl,v=r/\aa B h0 h' (ae 88 r 4 bh (d.take i++d.drop (i+1))::As):=by
 refine ts Tryz.func76 ?_;have g:=H.own 0 i0;have p:=g.len;have m:=g.cap;refine OK aj Jr i (i+1) s.len i0 i0 i0 i4 i4 m λ_=>?_;refine cv (λe=>absurd e i4) λ_=>⟨⟨i4,i4⟩,⟨i4,i4⟩,?_⟩
 have n:((i:Int)+1).toNat=i+1:=i4
 rw[n,qk];refine H.Jn aj 0 i0 Jr ⟨_,_,i0,i0⟩ (λ_=>rfl) EQ i l λk b=>⟨trivial,⟨i4,i6,i6⟩,?_⟩
 have b:aa B h0 k (ae 88 s 4 bh ((d.take i++d.drop (i+1))++d.drop (ii d-1))::As):=b;have a:ii (d.take i++d.drop (i+1))=ii d-1:=i7
 try dsimp only
 rw[qk,qk];refine b.nV aj 0 i0 Jr (λ_=>rfl) i0 (by intro v f;simp at f;rcases f with rfl|rfl|rfl<;>rfl) (ii d-1) i7 λo c=>?_;have j:((d.take i++d.drop (i+1))++d.drop (ii d-1)).take (ii d-1)=d.take i++d.drop (i+1):=by rw[<-a,List.take_left]
 rw[j]at c;exact⟨⟨s.ptr,ii d-1,s.cap⟩,i0,c⟩
theorem OL(name:ByteArray)(x:bo)(m:aA)(I:bs m=eH)(H:aa B h0 h (ba bc a pw (az x) offs da w ds::aZ x m::As)):
  an xQ 26 #[xI (dB a),xJ name] h λv h'=>v=xG xM (fX m offs w ds name).1/\
   ∃y,aa B h0 h' (ba bc a pw (az y) offs da (fX m offs w ds name).2.2.1 (fX m offs w ds name).2.2.2::aZ y (fX m offs w ds name).2.1::As):=by
 refine ts Tryz.func26 ?_;have q:=il I;have T:=im I;obtain⟨g1,g2,g3,g4⟩:=(fp m).1 ((cY m).1 I).1;have ab:=((cY m).1 I).2.2.2.1;refine(DG H).mono ?_;rintro _ h1 ⟨rfl,rfl⟩;refine⟨_,i0,bf (λe=>?_) λQ=>?_⟩
 ·have g:fX m offs w ds name=(14,m,w,ds):=by unfold fX;rw[f9 e]
  rw[g];exact⟨i0,x,H⟩
 refine(find_spec x m name (H.at 1 i0) q H).mono ?_;rintro _ S ⟨⟨i,rfl,hi⟩,R2⟩;have u:=H.up R2.af;refine⟨i,i0,?_⟩;rcases hi with⟨rfl,hno⟩|⟨n,hn,rfl,c,hbef⟩
 ·refine ag (λ_=>?_) λe=>absurd i5 e;have g:fX m offs w ds name=(5,m,w,ds):=by unfold fX;rw[g0 (by rw[Q];decide),f9 hno]
  rw[g];exact⟨i0,x,u⟩
 have f:m.objs.any (lP name)=eH:=List.any_eq_true.2 ⟨_,qf hn,c⟩;have s:m.objs.findIdx (lP name)=n:=by rw[List.findIdx_eq hn];refine⟨c,λj hj=>?_⟩;have:=wH.1 hbef (m.objs[j]'(by omega)) (List.mem_take_iff_getElem.2 ⟨j,i4,i0⟩);simpa using this
 have z:=(aa.cP u).2;have D:dh S x m:=u.at 1 i0;refine ag (λe=>absurd e (Int.not_lt.2 (wg n))) λ_=>⟨a,i0,x.1,z.cell0 i0,?_⟩
 rw[D.seq];refine ag (λJ=>?_) λJ=>?_
 ·have g:fX m offs w ds name=(7,m,w,ds):=by unfold fX;rw[g0 (by rw[Q];decide),g0 (by rw[f];decide),f9 J]
  rw[g];exact⟨i0,x,u⟩
 refine⟨a,i0,x,z.aE _ i0,(mU x m S D q).mono ?_⟩;rintro _ h3 ⟨y,L,pool,rfl,G,A,hL,Z⟩;have H3:=(u.comp Z).front;refine⟨y,i0,H3.alloc aj i0 λa3 h4 R=>?_⟩;have R:=R.be;refine R.storeAll aj 0 i0 i0 (az y) i0 i0 i0 i0 λh5 F=>?_;have F:aa B h0 h5 (ac a3 39 (az y)::ci 1 ak pool::ae 3 y.2.2.2.2.2.2.1 1 ak m.drives::ae 88 y.2.2.2.2.2.2.2 4 bh (L.map qq)::ba bc a pw (az x) offs da w ds::aZ x m::As):=F;refine⟨y.1,(F.box 0 i0).cell0 i0,?_⟩
 try dsimp only
 rw[G.1,ai (m.seq+1)];refine F.ja aj 0 i0 i0 [xG xM (m.seq+1)] i0 i0 i0 j9 λX r=>?_;have r:aa B h0 X (ac a3 39 (xG xM (m.seq+1)::(az y).drop 1)::ci 1 ak pool::ae 3 y.2.2.2.2.2.2.1 1 ak m.drives::ae 88 y.2.2.2.2.2.2.2 4 bh (L.map qq)::ba bc a pw (az x) offs da w ds::aZ x m::As):=r;refine⟨_,(r.box 0 i0).cell i0,?_⟩;have ah:ii L=ii m.objs:=by rw[<-A,qu]
 have r:=r.aL 6 [3,0,1,2,4,5];rw[ai ((n:Int)+1)];refine(QH (L.map qq) n oa oa r).mono ?_;rintro _ Y ⟨o,rfl,N⟩;have N:aa B h0 Y (ac a3 39 (xG xM (m.seq+1)::(az y).drop 1)::ci 1 ak pool::ae 3 y.2.2.2.2.2.2.1 1 ak m.drives::ae 88 o 4 bh ((L.map qq).take n++(L.map qq).drop (n+1))::ba bc a pw (az x) offs da w ds::aZ x m::As):=N.aL 6 [1,2,3,0,4,5];refine⟨o,i0,N.store aj 0 i0 i0 7 [o] i0 i0 i0 j9 λh8 E=>?_⟩;obtain⟨b,d⟩:∃b:bo,b=(m.seq+1,y.2.1,y.2.2.1,y.2.2.2.1,y.2.2.2.2.1,y.2.2.2.2.2.1,y.2.2.2.2.2.2.1,o):=⟨_,rfl⟩
 have V:b.2.2.2.2.2.2.1=y.2.2.2.2.2.2.1:=by rw[d]
 have W:b.2.2.2.2.2.2.2=o:=by rw[d]
 obtain⟨L2,l⟩:∃L2,L2=L.take n++L.drop (n+1):=⟨_,rfl⟩
 have P:L2.map qq=(L.map qq).take n++(L.map qq).drop (n+1):=by rw[l,qM,List.map_take,List.map_drop]
 have E:aa B h0 h8 (ac a3 39 (az b)::ci 1 ak pool::ae 3 b.2.2.2.2.2.2.1 1 ak m.drives::ae 88 b.2.2.2.2.2.2.2 4 bh (L2.map qq)::ba bc a pw (az x) offs da w ds::aZ x m::As):=by rw[V,W,P,d];exact E
 refine⟨b,(E.box 0 i0).aE _ i0,?_⟩;obtain⟨M,t⟩:∃M,M=Gu m n:=⟨_,rfl⟩
 have H9:aa B h0 h8 (aZ b M::ba bc a pw (az x) offs da w ds::aZ x m::As):=aa.By (m:=M) (L:=L2) (pool:=pool) (by rw[t,d];exact⟨i0,G.2.1,G.2.2.1,G.2.2.2⟩)
  (by rw[t,l,qM,List.map_take,List.map_drop,A];rfl) (λp c=>hL p (by
   rw[l]at c;rcases qy.1 c with c|c
   ·exact zA c
   ·exact List.mem_of_mem_drop c)) (by rw[t];exact E.aL 6 [1,2,3,4,5])
 have K:cw M:=by
  rw[t];have sub:∀e,e∈m.objs.take n++m.objs.drop (n+1)->e∈m.objs:=λe k=>by
   rcases qy.1 k with k|k
   ·exact zA k
   ·exact List.mem_of_mem_drop k
  refine⟨q.dr,?_,?_⟩
  ·have:=q.ob;show(m.objs.take n++m.objs.drop (n+1)).length<=_;simp;omega
  ·exactλe k=>q.nm e (sub e k)
 refine(Ft x m b M (As:=aZ b M::As) (St.dN 0 i0 λ_ hq=>hq) q K i4 (H9.aL 3 [1,2,0])).mono ?_;rintro _ ad ⟨rfl,U,O⟩;have g:fX m offs w ds name=cI m offs w ds M:=by unfold fX;rw[g0 (by rw[Q];decide),g0 (by rw[f];decide),g0 J,s,t]
 rw[g];exact⟨_,i0,i0,U,O.aL 3 [0,1]⟩
theorem Uw(name:ByteArray)(c:bs m=eH)(H:aa B h0 h (bj a pw da offs w ds m::As)):
  an xQ 26 #[xI (dB a),xJ name] h λv h'=>v=xG xM (fX m offs w ds name).1/\
   aa B h0 h' (bj a pw da offs (fX m offs w ds name).2.2.1 (fX m offs w ds name).2.2.2 (fX m offs w ds name).2.1::As):=by
 obtain⟨x,H⟩:=fm H;refine(OL name x m c H).mono ?_;rintro _ h' ⟨rfl,y,b⟩;exact⟨i0,iC b⟩
end
theorem Co{p q:av}(a b:Sl)(c j:aB)(h:f8)(r:Seq h p a 1 ak c)(s:Seq h q b 1 ak j)(w:ii c<=2^40:=by omega):
  an xQ 18 #[a,b] h λv h'=>v=xK (decide (c=j))/\h'=h:=by
 refine ts Tryz.func18 ?_ (.two .n (.two .n (.two (.two .n (.inn (.loop [(13,aS)] [(4,6),(13,26)] .n))) .n)));have o:=r.len;have l:=s.len;refine bx (λd=>⟨?_,i0⟩) (λi=>?_)
 ·rw[hU λe=>d (by rw[o,l,e])]
 ·refine aq (λk:Nat=>(k:Int)) (λk h'=>h'=h/\k<=ii c/\c.take k=j.take k) (λk=>ii c-k) 0 i0 ⟨i0,i4,i9⟩ ?_;rintro k h' ⟨rfl,x,m⟩;refine ag (λu=>?_) (λt=>?_)
  ·have g:k<ii c:=i4
   have f:k<ii j:=i4
   refine r.bt k i0 g _ i0 ?_;refine s.bt k i0 f _ i0 ?_;refine bx (λd=>⟨?_,i0⟩) (λi=>?_)
   ·rw[hU];intro e;subst e;exact d i0
   ·rw[ai _];exact⟨k+1,i9,⟨i0,i4,by rw[aD _ _ g,aD _ _ f,m,i]⟩,i4⟩
  ·have:k=ii c:=i4
   subst this;rw[qg i4,qg i4]at m;exact⟨by rw[g9 m],i0⟩
theorem JI(x y:bo)(m:aA)(h:f8)(o:dh h x m)(k:dh h y m)(Y:cw m):an xQ 17 #[dq x,dq y] h λv h'=>v=xK eH/\Sp h h' []:=by
 refine ts Tryz.func17 ?_ (.two .n (.two (.join [] [(4,5),(8,51)] .n) (.two (.two .n (.inn (.loop [(54,aS)] [(4,8),(54,95)] (.two .n (.two .n (.two (.inn (.two .n (.two (.join [(6,(.sc .adr)),(7,(.sc .adr))] [(6,8),(57,67)] .n) .n))) .n)))))) .n))) [(6,(.y [0,1,2,3,4,5,6,7,8,9] (.l [10,11,12,13]) (.l [11,10,12,13])))] (args:=[x,y]);refine(Sp.refl h).boxed λD h1 H1=>?_;refine H1.boxed λa2 h2 s=>?_;have s:Sp h h2 [ac D 39 (az x),ac a2 39 (az y)]:=s;have q:=s.box 0 i0;have z:=s.box 1 i0;have U:x.2.2.1=m.p.1:=congrArg (·.1) o.p;have W:x.2.2.2.1=m.p.2.1:=congrArg (·.2.1) o.p;have R:x.2.2.2.2.1=m.p.2.2:=congrArg (·.2.2) o.p;have ab:y.2.2.1=m.p.1:=congrArg (·.1) k.p;have X:y.2.2.2.1=m.p.2.1:=congrArg (·.2.1) k.p;have Z:y.2.2.2.2.1=m.p.2.2:=congrArg (·.2.2) k.p;have ad:=Y.dr;have ay:=Y.ob;have ah:=bv.len o.objs;have ap:=bv.len k.objs;refine aT ⟨m.seq,by rw[<-o.seq];exact q.cell0 i0,m.seq,by rw[<-k.seq];exact z.cell0 i0,bx (λe=>absurd i0 e) λ_=>?_⟩;refine⟨m.next,by rw[<-o.next];exact q.cell i0,m.next,by rw[<-k.next];exact z.cell i0,bx (λe=>absurd i0 e) λ_=>?_⟩;refine⟨m.p,by rw[<-U,<-W,<-R];exact q.uM 2 i0 i0 i0,m.p,by rw[<-ab,<-X,<-Z];exact z.uM 2 i0 i0 i0,_,Wz _ _ m.p m.p,aQ (λe=>absurd e i9) λ_=>?_⟩;refine⟨m.extra,by rw[<-o.extra];exact q.cell i0,m.extra,by rw[<-k.extra];exact z.cell i0,bx (λe=>absurd i0 e) λ_=>?_⟩;refine⟨x.2.2.2.2.2.2.1,q.cell i0,y.2.2.2.2.2.2.1,z.cell i0,(Co _ _ m.drives m.drives h2 (o.up s.af).drives (k.up s.af).drives).mono ?_⟩;rintro _ h3 ⟨rfl,rfl⟩;refine⟨_,i0,aQ (λe=>absurd e i9) λ_=>⟨x.2.2.2.2.2.2.2,q.cell i0,y.2.2.2.2.2.2.2,z.cell i0,bx (λe=>absurd i4 e) λ_=>?_⟩⟩;refine⟨x.2.2.2.2.2.2.2,q.cell i0,?_⟩;obtain⟨us,F⟩:=bv.fix o.objs;obtain⟨vs,G⟩:=bv.fix k.objs;have al:=F.2.1;have am:=G.2.1;refine aq (λi:Nat=>(i:Int)) (λi h'=>i<=m.objs.length/\Sp h h' [ac D 39 (az x),ac a2 39 (az y)]) (λi=>m.objs.length-i) 0 i0 ⟨i4,s⟩ ?_;rintro i h5 ⟨hi,w⟩;refine ag (λe=>?_) (λe=>?_)
 ·have r:i<m.objs.length:=by have e':(i:Int)<(x.2.2.2.2.2.2.2.len:Int):=e;omega
  obtain⟨E,hE⟩:∃E,E=m.objs[i]:=⟨_,rfl⟩
  have I:=Y.nm _ (qf r);rw[<-hE]at I;obtain⟨u,hu⟩:∃u,u=us[i]'(by omega):=⟨_,rfl⟩
  obtain⟨v,hv⟩:∃v,v=vs[i]'(by omega):=⟨_,rfl⟩
  obtain⟨f,ha,zz,b,S⟩:=F.1.cX (g:=bh) (i:=(i:Int)) i rfl i4 u (by rw[hu]) (K:=λt=>t=u) rfl;obtain⟨d,hb,ax,c,J⟩:=G.1.cX (g:=bh) (i:=(i:Int)) i rfl i4 v (by rw[hv]) (K:=λt=>t=v) rfl;rw[S]at b;rw[J]at c;obtain⟨⟨u1,u2,u3⟩,u4⟩:=Fix.row F r;obtain⟨⟨v1,v2,v3⟩,v4⟩:=Fix.row G r;rw[<-hE,<-hu]at u1 u2 u3 u4;rw[<-hE,<-hv]at v1 v2 v3 v4;refine bG (λst h'=>∃Bs,Sp h h' (ac D 39 (az x)::ac a2 39 (az y)::ac st.1 88 (bh u)::ac st.2 88 (bh v)::Bs)) ?_ ?_
  ·have keep:∀{h':f8} {Bs:List HP},Sp h h' (ac D 39 (az x)::ac a2 39 (az y)::Bs)->
     bQ.ok [(d.add ((i:Int).toNat*4),(xJ v.1)),((d.add ((i:Int).toNat*4)).add 1,(xG xM v.2.1)),((d.add ((i:Int).toNat*4)).add 2,(xG xM v.2.2.1)),((d.add ((i:Int).toNat*4)).add 3,(xH v.2.2.2.ptr v.2.2.2.len v.2.2.2.cap)),(a2.add 7,(xH y.2.2.2.2.2.2.2.ptr y.2.2.2.2.2.2.2.len y.2.2.2.2.2.2.2.cap)),(f.add ((i:Int).toNat*4),(xJ u.1)),((f.add ((i:Int).toNat*4)).add 1,(xG xM u.2.1)),((f.add ((i:Int).toNat*4)).add 2,(xG xM u.2.2.1)),((f.add ((i:Int).toNat*4)).add 3,(xH u.2.2.2.ptr u.2.2.2.len u.2.2.2.cap)),(D.add 7,(xH x.2.2.2.2.2.2.2.ptr x.2.2.2.2.2.2.2.len x.2.2.2.2.2.2.2.cap))] h':=λ{h' Bs} H'=>by
    have a:=H'.af;exact⟨a.cell (df c.1) c.1,a.cell (df c.2.1) c.2.1,a.cell (df c.2.2.1) c.2.2.1,a.cell (df c.2.2.2.1) c.2.2.2.1,(H'.box 1 i0).cell i0,a.cell (df b.1) b.1,a.cell (df b.2.1) b.2.1,a.cell (df b.2.2.1) b.2.2.1,a.cell (df b.2.2.2.1) b.2.2.2.1,(H'.box 0 i0).cell i0,trivial⟩
   have L:=keep w;have a:=w.af;refine⟨x.2.2.2.2.2.2.2,(w.box 0 i0).cell i0,f,ha,u,⟨a.cell (df b.1) b.1,a.cell (df b.2.1) b.2.1,a.cell (df b.2.2.1) b.2.2.1,a.cell (df b.2.2.2.1) b.2.2.2.1,trivial⟩,y.2.2.2.2.2.2.2,(w.box 1 i0).cell i0,d,hb,v,⟨a.cell (df c.1) c.1,a.cell (df c.2.1) c.2.1,a.cell (df c.2.2.1) c.2.2.1,a.cell (df c.2.2.2.1) c.2.2.2.1,trivial⟩,?_,?_⟩
   ·refine w.alloc aj i0 λO h6 B=>⟨keep B,B.alloc aj i0 λQ h7 A=>⟨keep A,?_⟩⟩
    refine A.storeAll aj 2 i0 i0 (bh u) i0 i0 i0 i0 λh8 H=>?_;obtain⟨V,k2,k3,P,L,_⟩:=keep H;refine⟨⟨V,k2,k3,P,L,trivial⟩,H.storeAll aj 3 i0 i0 (bh v) i0 i0 i0 i0 λT j=>⟨trivial,[],j⟩⟩
   ·refine w.alloc aj i0 λO h6 B=>⟨keep B,B.alloc aj i0 λQ h7 A=>⟨keep A,?_⟩⟩
    refine A.storeAll aj 3 i0 i0 (bh u) i0 i0 i0 i0 λh8 H=>?_;obtain⟨V,k2,k3,P,L,_⟩:=keep H;refine⟨⟨V,k2,k3,P,L,trivial⟩,H.storeAll aj 2 i0 i0 (bh v) i0 i0 i0 i0 λT j=>⟨trivial,[],j.aL 4 [0,1,3,2]⟩⟩
  ·rintro⟨s1,s2⟩ T ⟨Bs,j⟩;dsimp only at j⊢;have N:=j.box 2 i0;have M:=j.box 3 i0;have ar:=I.2;refine⟨E.name,by rw[<-u1];exact N.cell0 i0,E.name,by rw[<-v1];exact M.cell0 i0,aQ (λe=>absurd e i9) λ_=>?_⟩;refine⟨E.object,by rw[<-u2];exact N.cell i0,E.object,by rw[<-v2];exact M.cell i0,bx (λe=>absurd i0 e) λ_=>?_⟩;refine⟨E.length,by rw[<-u3];exact N.cell i0,E.length,by rw[<-v3];exact M.cell i0,bx (λe=>absurd i0 e) λ_=>?_⟩;refine⟨u.2.2.2,N.cell i0,v.2.2.2,M.cell i0,(Co _ _ E.tries E.tries T (Seq.up u4 j.af) (Seq.up v4 j.af)).mono ?_⟩;rintro _ ao ⟨rfl,rfl⟩;refine⟨_,i0,aQ (λe=>absurd e i9) λ_=>⟨i+1,j0,⟨i4,j.aL 2 [0,1]|>.AW (As:=[_,_])⟩,i4⟩⟩
 ·exact⟨i0,.zip w.af⟩
theorem It(a b:Sl)(c f:aI)(h:f8)(o:dY h a 1 aw c)(p:dY h b 1 aw f)(B:ii c<=2^40)(w:∀r∈c,ii r<=2^40):
  an xQ 19 #[a,b] h λv h'=>v=xK (decide (c=f))/\h'=h:=by
 refine ts Tryz.func19 ?_ (.two .n (.two .n (.two (.two .n (.inn (.loop [(13,aS)] [(4,6),(13,27)] .n))) .n)));have m:=o.len;have j:=p.len;refine bx (λd=>⟨?_,i0⟩) (λy=>?_)
 ·rw[hU λe=>d (by rw[m,j,e])]
 ·refine aq (λk:Nat=>(k:Int)) (λk h'=>h'=h/\k<=ii c/\c.take k=f.take k) (λk=>ii c-k) 0 i0 ⟨i0,i4,i9⟩ ?_;rintro k h' ⟨rfl,D,l⟩;refine ag (λt=>?_) (λq=>?_)
  ·have i:k<ii c:=i4
   have g:k<ii f:=i4
   refine o.get k i0 i λA z=>?_;refine p.get k i0 g λu s=>?_;refine(TB A u _ _ h' z s (w _ (qf _))).mono ?_;rintro v h3 ⟨rfl,rfl⟩;refine⟨_,i0,trivial,?_⟩;refine aQ (λe=>⟨?_,i0⟩) (λe=>?_)
   ·have d:c[k]≠f[k]:=of_decide_eq_false e;rw[hU];intro e;subst e;exact d i0
   ·have x:c[k]=f[k]:=hZ e;rw[ai _];exact⟨k+1,i9,⟨i0,i4,by rw[aD _ _ i,aD _ _ g,l,x]⟩,i4⟩
  ·have:k=ii c:=i4
   subst this;rw[qg i4,qg i4]at l;exact⟨by rw[g9 l],i0⟩
variable {B':av} {h0' h':f8} {As':List HP} {pw2:eX}
section
variable {pw:eX}
end
variable {a2:eX} {da2:List bZ}
section
variable {pw:eX}
end
variable {x:bo}
section
variable {pw:eX}
end
def pJ(l:aB)(k:Nat):Int:=l.getD k 0
def iO(l:aB):Pm:=AF (pJ l 0) (pJ l 1) (pJ l 2)
def rO(l:aB):Nat:=(2+pJ l 4%4).toNat
def BP(l:aB):aB:=(qz (rO l)).map λi=>8+pJ l (5+i)%50
def Ux(l:aB):Int:=pJ l 3%7
theorem Se(l:aB):2<=rO l/\rO l<=5:=by unfold rO;omega
theorem OM(l:aB):ii (BP l)=rO l:=by simp[BP]
section
variable {pw:eX}
theorem pK(s:Sl)(l:aB)(k:Nat)(h:f8)(a:Rd h s 1 ak l):an xQ 56 #[s,xG xM k] h λv h'=>v=xG xM (pJ l k)/\h'=h:=by
 refine ts Tryz.func56 ?_;unfold pJ;have c:=a.len;refine ag (λe=>?_) (λe=>⟨?_,i0⟩)
 ·have b:k<ii l:=i4
  refine a.bt k i0 b (l.getD k 0) (by rw[getD_lt b];rfl) ⟨i0,i0⟩
 ·rw[qd,qB i4];rfl
theorem QI(s:Sl)(l:aB)(h:f8)(w:Rd h s 1 ak l):an xQ 21 #[s] h λv h'=>∃r:Sl,v=.tuple #[jQ (iO l),xG xM (Ux l),r]/\Sp h h' [ae 3 r 1 ak (BP l)]:=by
 refine sq s ?_;refine(Sp.refl h).alloc aj i0 λp J q=>?_;have a:=w.up q.af;refine(pK s l 0 J a).mono ?_;rintro _ _ ⟨rfl,rfl⟩;refine⟨_,i0,(pK s l 1 _ a).mono ?_⟩;rintro _ _ ⟨rfl,rfl⟩;refine⟨_,i0,(pK s l 2 _ a).mono ?_⟩;rintro _ x ⟨rfl,rfl⟩;refine⟨_,i0,(TX _ _ _ x).mono ?_⟩;rintro _ O ⟨rfl,K⟩;have E:=q.up K.af;refine⟨iO l,i0,?_⟩;refine E.alloc aj i0 λd N M=>?_;refine M.storeAll aj 1 i0 i0 [xG xM (iO l).1,xG xM (iO l).2.1,xG xM (iO l).2.2] i0 i0 i0 i0 λy n=>?_;have n:Sp h y [ae 3 ⟨ez,0,0⟩ 1 ak ((BP l).take 0),ac d 36 [xG xM (iO l).1,xG xM (iO l).2.1,xG xM (iO l).2.2],ac p 36 [xG xM 0,xG xM 0,xG xM 0]]:=(n.nil 3 1 ak).bB [2,1,0];have P:=Se l;have D:=OM l;refine aq (λt:Sl×Nat=>(t.1,(t.2:Int))) (λt h'=>t.2<=rO l/\Sp h h' [ae 3 t.1 1 ak ((BP l).take t.2),ac d 36 [xG xM (iO l).1,xG xM (iO l).2.1,xG xM (iO l).2.2],ac p 36 [xG xM 0,xG xM 0,xG xM 0]]) (λt=>rO l-t.2) (⟨ez,0,0⟩,0) i0 ⟨i9,n⟩ ?_;rintro⟨o,i⟩ h8 ⟨Q,c⟩;dsimp only at*;have b:=w.up c.af;refine(pK s l 4 h8 b).mono ?_;rintro _ _ ⟨rfl,rfl⟩;refine⟨_,i0,(cF _ 4 _).mono ?_⟩;rintro _ h8 ⟨rfl,rfl⟩;refine⟨_,i0,?_⟩;have g:=c.box 1 i0
 try dsimp only
 rw[ai (2+pJ l 4%4)];have m:2+pJ l 4%4=(rO l:Int):=by unfold rO;omega
 rw[m];refine ag (λe=>?_) (λe=>?_)
 ·have G:i<rO l:=i4
  rw[ai ((5:Int)+i)];have F:(5:Int)+i=((5+i:Nat):Int):=i4
  rw[F];refine(pK s l (5+i) h8 b).mono ?_;rintro _ _ ⟨rfl,rfl⟩;refine⟨_,i0,(cF _ 50 _).mono ?_⟩;rintro _ A ⟨rfl,rfl⟩;refine⟨_,i0,?_⟩
  try dsimp only
  rw[ai (8+pJ l (5+i)%50)];refine c.push aj 0 i0 fR i0 i5 (λ_=>rfl) eC (8+pJ l (5+i)%50) i0 i5 i7 λB H k=>?_;refine⟨(B,i+1),jj,⟨i6,?_⟩,i6⟩
  try dsimp only
  rw[aD _ _ (show i<ii (BP l) by omega)];have L:(BP l)[i]'(by omega)=8+pJ l (5+i)%50:=by simp[BP]
  rw[L];exact k
 ·have j:i=rO l:=i4
  subst j;rw[qg i4]at c;have u:bQ.ok [(d,(xG xM (iO l).1)),(d.add 1,(xG xM (iO l).2.1)),(d.add 2,(xG xM (iO l).2.2))] h8:=⟨g.cell0 i0,g.cell i0,g.cell i0,trivial⟩
  refine⟨iO l,g.aE _ i0,(pK s l 3 h8 b).mono ?_⟩;rintro _ _ ⟨rfl,rfl⟩;refine⟨_,i0,u,(cF _ 7 _).mono ?_⟩;rintro _ I ⟨rfl,rfl⟩;refine⟨_,i0,u,?_⟩;refine c.storeAll aj 2 i0 i0 [xG xM (iO l).1,xG xM (iO l).2.1,xG xM (iO l).2.2] i0 i0 i0 i0 λz f=>⟨trivial,?_⟩
  exact⟨iO l,(f.box 2 i0).aE _ i0,o,i0,f.bB [0]⟩
end
structure Mv where
 kind:Int
 name:ByteArray
 data:aP
 slot:Int
 n:Int
 m:Int
 mask:Int
 keeps:aB
 torns:aB
def rT:List ByteArray:=[⟨#[97]⟩,⟨#[98]⟩,⟨#[99,97,116,45,55]⟩,⟨#[100]⟩,⟨#[101,49,50,51,52,53,54,55,56,57,48,49]⟩]
def lZ(p:Int×Int×Int)(b:Mv):Prop:=
 (b.kind=1/\b.name∈rT/\(ii b.data:Int)<=3*(p.1*p.2.2)+1)∨((b.kind=2∨b.kind=3∨b.kind=5)/\b.name∈rT)∨b.kind=4∨
 (b.kind=6/\(0<=b.slot/\b.slot<9)/\6<=b.n/\b.n<66)∨(b.kind=7/\0<=b.slot/\b.slot<8)∨(b.kind=8/\(0<=b.slot/\b.slot<8)/\6<=b.n/\b.n<66)∨(b.kind=9/\0<=b.slot/\b.slot<8)∨
 (b.kind=10/\(-1<=b.n/\b.n<=7)/\-1<=b.m/\b.m<=68)∨(b.kind=11/\(0<=b.slot/\b.slot<7)/\(0<=b.n/\b.n<40)/\(0<=b.m/\b.m<61)/\0<=b.mask/\b.mask<4294967296)
def ON(b:Mv):Prop:=b=⟨b.kind,if b.kind=1∨b.kind=2∨b.kind=3∨b.kind=5 then b.name else⟨#[]⟩,if b.kind=1 then b.data else[],if b.kind=6∨b.kind=7∨b.kind=8∨b.kind=9∨b.kind=11 then b.slot else 0,
 if b.kind=6∨b.kind=8∨b.kind=10∨b.kind=11 then b.n else 0,if b.kind=10∨b.kind=11 then b.m else 0,if b.kind=11 then b.mask else 0,[],[]⟩
abbrev agv(s:ByteArray):aR:=[xJ s]
abbrev OO:=Int×ByteArray×Sl×Int×Int×Int×Int×Sl×Sl
abbrev nu(x:OO):aR:=[xG xM x.1,xJ x.2.1,x.2.2.1,xG xM x.2.2.2.1,xG xM x.2.2.2.2.1,xG xM x.2.2.2.2.2.1,xG xO x.2.2.2.2.2.2.1,x.2.2.2.2.2.2.2.1,x.2.2.2.2.2.2.2.2]
abbrev mvV(x:OO):Value:=xL #[xG xM x.1,xJ x.2.1,x.2.2.1,xG xM x.2.2.2.1,xG xM x.2.2.2.2.1,xG xM x.2.2.2.2.2.1,xG xO x.2.2.2.2.2.2.1,x.2.2.2.2.2.2.2.1,x.2.2.2.2.2.2.2.2]
def lF:iy OO Mv:=⟨λh q a b=>(a.1=b.kind/\a.2.1=b.name/\a.2.2.2.1=b.slot/\a.2.2.2.2.1=b.n/\a.2.2.2.2.2.1=b.m/\a.2.2.2.2.2.2.1=b.mask/\a.2.2.1.len<=a.2.2.1.cap)/\Seq h q a.2.2.1 1 aw b.data/\Seq h q a.2.2.2.2.2.2.2.1 1 ak b.keeps/\Seq h q a.2.2.2.2.2.2.2.2 1 ak b.torns,
 λa c=>⟨a.1,a.2.1.af c,a.2.2.1.af c,a.2.2.2.af c⟩,λa d=>⟨a.1,a.2.1.mono d,a.2.2.1.mono d,a.2.2.2.mono d⟩⟩
theorem afo:∀x,∀c∈nu x,c.oneCell'=eH:=by intro x c a;simp[nu]at a;rcases a with rfl|rfl|rfl|rfl|rfl|rfl|rfl|rfl|rfl<;>rfl
abbrev agw:bI C.toAi 65 9 1 [xJ ⟨#[]⟩] 16:=⟨_,_,i0,i0,i0,i0,i0,i0⟩
abbrev zMv:aR:=[xG xM 0,xJ ⟨#[]⟩,xH ez 0 0,xG xM 0,xG xM 0,xG xM 0,xG xO 0,xH ez 0 0,xH ez 0 0]
abbrev eMv:bI C.toAi 56 61 9 zMv 128:=⟨_,_,i0,i0,i0,i0,i0,i0⟩
theorem sC(n:Int)(h:f8):an xQ 108 #[xG xM n] h λv h'=>∃s∈rT,v=xJ s/\Sp h h' []:=by refine ts Tryz.func108 ?_;refine(Sp.refl h).lit aj agv agw i0 rT i0 i5 j3 λd b a=>?_;refine(cF n 5 b).mono ?_;rintro _ c ⟨rfl,rfl⟩;have g:=yj n (show(5:Int)≠0 by decide);have f:=wN n (show(0:Int)<5 by decide);have e:ii rT=5:=rfl;refine⟨_,i0,(a.seq 0 i0 λ_=>rfl).bt (n%5).toNat i4 i4 (rT[(n%5).toNat]'(by omega)) i0 ⟨_,qf _,i0,.zip a.af⟩⟩
theorem Uy(p:Pm)(k a b:Int)(h:f8)(K:bS p=eH):an xQ 64 #[jQ p,xG xM k,xG xM a,xG xM b] h λv h'=>∃(x:OO) (m:Mv),v=mvV x/\lZ p m/\ON m/\Sp h h' [EA lF x m]:=by
 refine un p k a b ?_;obtain⟨⟨X,M⟩,_,V,S⟩:=(cg p).1 K;have O:1<=p.1*p.2.2/\p.1*p.2.2<=16*24:=⟨yg X V i4 i4,yg M S i4 i4⟩
 refine(Sp.refl h).boxed λH h1 P=>P.alloc aj i0 λa2 F d=>?_;have d:Sp h F [ac H 36 [xG xM p.1,xG xM p.2.1,xG xM p.2.2],ac a2 61 zMv]:=d;have fin:∀(kind slot n m c:Int) (name:ByteArray) {h':f8},Sp h h' [ac H 36 [xG xM p.1,xG xM p.2.1,xG xM p.2.2],ac a2 61 zMv]->lZ p ⟨kind,name,[],slot,n,m,c,[],[]⟩->ON ⟨kind,name,[],slot,n,m,c,[],[]⟩->
   au xQ (qE 61 (xI (dB a2)) (xL #[xG xM kind,xJ name,xH ez 0 0,xG xM slot,xG xM n,xG xM m,xG xO c,xH ez 0 0,xH ez 0 0])) h' λ_ f=>
    ∃r:OO,bp f a2 0 (nu r)/\∃(x:OO) (m:Mv),mvV r=mvV x/\lZ p m/\ON m/\Sp h f [EA lF x m]:=by
  intro kind slot n m c name h' Q A hr;refine Q.storeAll aj 1 i0 i0 (nu (kind,name,⟨ez,0,0⟩,slot,n,m,c,⟨ez,0,0⟩,⟨ez,0,0⟩)) i0 i0 i0 i0 λf o=>?_;refine⟨(kind,name,⟨ez,0,0⟩,slot,n,m,c,⟨ez,0,0⟩,⟨ez,0,0⟩),(o.box 1 i0).aE _ i0,_,_,i0,A,hr,?_⟩;have Y:Sp h f []:=.zip o.af;exact Y.comp (.one (aN.refl _ _) ⟨⟨i0,i0,i0,i0,i0,i0,qm _⟩,Seq.nil _ _ _ _ _ _,Seq.nil _ _ _ _ _ _,Seq.nil _ _ _ _ _ _⟩)
 refine(cF k 26 F).mono ?_;rintro _ h3 ⟨rfl,rfl⟩;have k0:=yj k (show(26:Int)≠0 by decide);have k1:=wN k (show(0:Int)<26 by decide);have W:∀(x n:Int),0<n->0<=x%n/\x%n<n:=λx n T=>⟨yj x i4,wN x T⟩
 refine⟨_,i0,ag (λ_=>?_) λ_=>?_⟩
 ·refine⟨i5,p.1,(d.box 0 i0).cell0 i0,p.2.2,(d.box 0 i0).cell i0,(sC a h3).mono ?_⟩;rintro _ e ⟨s,j,rfl,i⟩;have u:=d.up i.af;have Z:qe xM ((qe xM ((qe xM ((3:Int)*p.1))*p.2.2))+(2:Int))=3*(p.1*p.2.2)+2:=by rw[ai (3*p.1),Int.mul_assoc,ai (3*(p.1*p.2.2)),ai _]
  refine⟨s,i0,⟨(u.box 0 i0).cell i0,(u.box 0 i0).cell0 i0,trivial⟩,?_⟩;rw[Z];refine(cF _ (3*(p.1*p.2.2)+2) e i4 i4).mono ?_;rintro _ g ⟨rfl,rfl⟩;obtain⟨q,y⟩:∃q,q=qe xM (vJ a 5)%(3*(p.1*p.2.2)+2):=⟨_,rfl⟩
  have B:=W (qe xM (vJ a 5)) (3*(p.1*p.2.2)+2) i4;rw[<-y]at B⊢;obtain⟨N,U⟩:∃N:Nat,q=N:=⟨q.toNat,i4⟩
  subst U;refine⟨_,i0,⟨(u.box 0 i0).cell i0,(u.box 0 i0).cell0 i0,trivial⟩,(TR N b g i4).mono ?_⟩;rintro _ J ⟨r,l,rfl,hl,G⟩;have E:=u.comp G;have w:=(G.own 0 i0).cap;refine⟨r,i0,⟨(E.box 0 i0).cell i0,(E.box 0 i0).cell0 i0,trivial⟩,?_⟩;refine E.storeAll aj 1 i0 i0 (nu (1,s,r,0,0,0,0,⟨ez,0,0⟩,⟨ez,0,0⟩)) i0 i0 i0 i0 λh7 I=>?_;refine⟨trivial,(1,s,r,0,0,0,0,⟨ez,0,0⟩,⟨ez,0,0⟩),(I.box 1 i0).aE _ i0,_,(⟨1,s,l,0,0,0,0,[],[]⟩:Mv),i0,.inl ⟨i0,j,i6⟩,i0,?_⟩;have R:=I.bB [2];exact R.dX 0 i0 λq y=>⟨⟨i0,i0,i0,i0,i0,i0,w⟩,y.1.seq (λ_=>rfl) y.2,Seq.nil _ _ _ _ _ _,Seq.nil _ _ _ _ _ _⟩
 refine ag (λ_=>(sC a h3).mono ?_) λ_=>ag (λ_=>(sC a h3).mono ?_) λ_=>cv (λ_=>?_) λ_=>cv (λ_=>(sC a h3).mono ?_) λ_=>cv (λ_=>?_) λ_=>cv (λ_=>?_) λ_=>cv (λ_=>?_) λ_=>cv (λ_=>?_) λ_=>ag (λ_=>?_) λ_=>cv (λ_=>?_) λ_=>?_
 ·rintro _ e ⟨s,j,rfl,i⟩;exact⟨s,i0,fin 2 0 0 0 0 s (d.up i.af) (.inr (.inl ⟨.inl i0,j⟩)) i0⟩
 ·rintro _ e ⟨s,j,rfl,i⟩;exact⟨s,i0,fin 3 0 0 0 0 s (d.up i.af) (.inr (.inl ⟨.inr (.inl i0),j⟩)) i0⟩
 ·exact fin 4 0 0 0 0 _ d (.inr (.inr (.inl i0))) i0
 ·rintro _ e ⟨s,j,rfl,i⟩;exact⟨s,i0,fin 5 0 0 0 0 s (d.up i.af) (.inr (.inl ⟨.inr (.inr i0),j⟩)) i0⟩
 ·refine(cF a 9 h3).mono ?_;rintro _ e ⟨rfl,rfl⟩;refine⟨_,i0,(cF b 60 e).mono ?_⟩;rintro _ g ⟨rfl,rfl⟩;have t:=W a 9 i5;have D:=W b 60 i5;refine⟨_,i0,?_⟩
  try dsimp only
  rw[ai (6+b%60)];exact fin 6 _ _ 0 0 _ d (.inr (.inr (.inr (.inl ⟨i0,t,i6,i6⟩)))) i0
 ·refine(cF a 8 h3).mono ?_;rintro _ _ ⟨rfl,rfl⟩;exact⟨_,i0,fin 7 _ 0 0 0 _ d (.inr (.inr (.inr (.inr (.inl ⟨i0,W a 8 i5⟩))))) i0⟩
 ·refine(cF a 8 h3).mono ?_;rintro _ e ⟨rfl,rfl⟩;refine⟨_,i0,(cF b 60 e).mono ?_⟩;rintro _ g ⟨rfl,rfl⟩;have t:=W a 8 i5;have D:=W b 60 i5;refine⟨_,i0,?_⟩
  try dsimp only
  rw[ai (6+b%60)];exact fin 8 _ _ 0 0 _ d (.inr (.inr (.inr (.inr (.inr (.inl ⟨i0,t,i6,i6⟩)))))) i0
 ·refine(cF a 8 h3).mono ?_;rintro _ _ ⟨rfl,rfl⟩;exact⟨_,i0,fin 9 _ 0 0 0 _ d (.inr (.inr (.inr (.inr (.inr (.inr (.inl ⟨i0,W a 8 i5⟩))))))) i0⟩
 ·refine(cF a 3 h3).mono ?_;rintro _ e ⟨rfl,rfl⟩;refine⟨_,i0,(cF b 20 e).mono ?_⟩;rintro _ g ⟨rfl,rfl⟩;have t:=W a 3 i5;have D:=W b 20 i5;exact⟨_,i0,fin 10 0 _ _ 0 _ d (.inr (.inr (.inr (.inr (.inr (.inr (.inr (.inl ⟨i0,i6,i6,i6⟩)))))))) i0⟩
 ·refine(cF a 9 h3).mono ?_;rintro _ e ⟨rfl,rfl⟩;refine⟨_,i0,(cF b 70 e).mono ?_⟩;rintro _ g ⟨rfl,rfl⟩;have t:=W a 9 i5;have D:=W b 70 i5;refine⟨_,i0,?_⟩
  try dsimp only
  rw[ai (a%9-1),ai (b%70-1)];exact fin 10 0 _ _ 0 _ d (.inr (.inr (.inr (.inr (.inr (.inr (.inr (.inl ⟨i0,i6,i6,i6⟩)))))))) i0
 ·refine(cF a 7 h3).mono ?_;rintro _ e ⟨rfl,rfl⟩;refine⟨_,i0,i5,(cF _ 40 e).mono ?_⟩;rintro _ g ⟨rfl,rfl⟩;refine⟨_,i0,(cF b 61 g).mono ?_⟩;rintro _ J ⟨rfl,rfl⟩;have L:∀z:Int,0<=qe xO z/\qe xO z<4294967296:=λz=>by rw[Kc];have:=(qK 32 z).isLt;omega
  exact⟨_,i0,fin 11 _ _ _ _ _ d (.inr (.inr (.inr (.inr (.inr (.inr (.inr (.inr ⟨i0,W a 7 i5,W _ 40 i5,W b 61 i5,L _⟩)))))))) i0⟩
theorem XF(p:Pm)(k a b:Int)(h:f8)(c:bS p=eH):an xQ 64 #[jQ p,xG xM k,xG xM a,xG xM b] h λv h'=>∃(x:OO) (m:Mv),v=mvV x/\lZ p m/\Sp h h' [EA lF x m]:=
 (Uy p k a b h c).mono λ_ _ ⟨x,m,e,o,_,H⟩=>⟨x,m,e,o,H⟩
theorem Uz(p:Pm)(s:Sl)(l:aB)(most:Nat)(h:f8)(I:bS p=eH)(g:Rd h s 1 ak l)(X:most<=100):
  an xQ 24 #[jQ p,s,xG xM most,xK eL] h λv h'=>∃(r:Sl) (L:List Mv),v=r/\(∀m∈L,lZ p m)/\L.length<=most/\Sp h h' [bm 61 r 9 nu lF L]:=by
 refine ts Tryz.func24 ?_ (.two .n (.two .n (.two (.join [(9,cK)] [(9,72)] (.two .n (.inn (.loop [(9,cK),(10,aS)] [(9,72)] (.two (.join [] [(11,22)] .n) (.two (.inn (.two (.join [(9,cK)] [(9,10),(24,52)] (.two (.join [(32,rS)] [(24,33)] .n) .n)) .n)) .n)))))) .n))) (args:=[p,s,(most:Int),eL]);have N:=g.len;refine(Sp.refl h).boxed λu Q w=>?_;have w:Sp h Q [ac u 36 [xG xM p.1,xG xM p.2.1,xG xM p.2.2]]:=w;have fin:∀{h':f8} (r:Sl) (L:List Mv),(∀m∈L,lZ p m)->ii L<=most->Sp h h' [ac u 36 [xG xM p.1,xG xM p.2.1,xG xM p.2.2],bm 61 r 9 nu lF L]->∃(i:Sl) (L:List Mv),(Value.slice r.ptr r.len r.cap)=xH i.ptr i.len i.cap/\(∀m∈L,lZ p m)/\L.length<=most/\Sp h h' [bm 61 i 9 nu lF L]:=λr L j R O=>⟨r,L,i0,j,R,O.bB [1]⟩
 refine aT ?_;refine aq (λt:Sl×List Mv=>(t.1,((3*ii t.2:Nat):Int))) (λt h'=>(∀m∈t.2,lZ p m)/\t.2.length<=most/\Sp h h' [ac u 36 [xG xM p.1,xG xM p.2.1,xG xM p.2.2],bm 61 t.1 9 nu lF t.2]) (λt=>most-ii t.2) (⟨ez,0,0⟩,[]) i0 ⟨i9,i9,w.rD 61 9 nu lF⟩ ?_;rintro⟨o,L⟩ M ⟨b,E,c⟩;dsimp only at b E c⊢;obtain⟨k,H⟩:∃k,k=ii L:=⟨_,rfl⟩
 rw[<-H]at E⊢;obtain⟨T,U⟩:=c.Mz 1 rfl;refine aT ?_;rw[ai (((3*k:Nat):Int)+2)];refine ag (λZ=>?_) λ_=>fin o L b i4 c;refine ag (λY=>?_) λ_=>fin o L b i4 c;have K:3*k+2<ii l:=i4
 have S:k<most:=i4
 refine aT (aT ?_);try dsimp only
 have d:=g.up c.af;obtain⟨A,D,j,_,_⟩:=g.elem (3*k) l[3*k] (qc i4);have a:∀{h':f8},Rd h' s 1 ak l->cellOf h' ((⟨A,D,ez⟩:eX).add (((3*k:Nat):Int).toNat*1))=dB (xG xM l[3*k]):=λ{h'} hr=>by
  obtain⟨W,F,f,_,u3⟩:=hr.elem (3*k) l[3*k] (qc i4);rw[j]at f;injection f with f
  injection f with f u2
  subst f;subst u2;rw[qk,add_eq];have B:=u3.1;rw[add_eq,Nat.add_zero]at B;exact B
 refine⟨p,(c.box 0 i0).aE _ i0,⟨A,D,ez⟩,⟨j,i4,i4⟩,l[3*k],a d,i5,?_⟩;rw[ai (((3*k:Nat):Int)+1)];refine d.bt (3*k+1) i4 i4 l[3*k+1] i0 ?_;refine d.bt (3*k+2) i4 i4 l[3*k+2] i0 ?_;refine(XF p _ _ _ M I).mono ?_;rintro _ h3 ⟨x,m,rfl,y,J⟩;have q:=c.comp J;refine⟨x,i0,⟨a (g.up q.af),trivial⟩,?_⟩;refine q.nS aj nu eMv i0 [x] i0 (show 1*9<=2^20 by decide) j3 ⟨a (g.up q.af),trivial⟩ ?_;refine q.mO aj 1 2 i5 i0 i0 eMv i0 i5 (λ_=>rfl) afo j3 i5 i4 λF V G=>?_;refine⟨⟨a (g.up G.af),trivial⟩,(F,L++[m]),?_,⟨λP z=>?_,l0,G.bB [0,1]⟩,l0⟩
 ·try dsimp only
  rw[ai (((3*k:Nat):Int)+3),qt,<-H];rfl
 ·rcases qy.1 z with h|h
  ·exact b P h
  ·rw[qp.1 h];exact y
theorem lZ.put{p:Pm}{b:Mv}(h:lZ p b)(a:b.kind=1):b.name∈rT/\(ii b.data:Int)<=3*(p.1*p.2.2)+1:=by
 unfold lZ at h;rw[a]at h;rcases h with h|h|h|h|h|h|h|h|h
 ·exact h.2
 ·exact absurd h.1 i5
 ·exact absurd h i5
 all_goals exact absurd h.1 i5
theorem aas:∀s∈rT,s.size<=12:=j5
theorem adk{p:Pm}{extra:Int}{l:aB}(e:bS p=eH)(f:0<=extra/\extra<=16)(j:1<=ii l/\l.length<=24)(h:∀x∈l,1<=x/\x<=512):
  ua p extra l=0/\bi l l.length=(qz l.length).map λi:Nat=>(i:Int):=by
 have d:∀i (a:i<ii l),1<=l.getD i 0/\l.getD i 0<=512:=λi a=>by rw[hJ 0 a];exact h _ (qf a)
 have h0:bi l l.length=(qz l.length).map λi:Nat=>(i:Int):=by unfold bi;refine List.filter_eq_self.2 λy b=>?_;obtain⟨i,a,rfl⟩:=qx.1 b;have a:=qC.1 a;have:=d i a;rw[qk];exact g9 i4
 refine⟨?_,h0⟩;have k:(fl l).2=eH:=by have c:l.all (fo · 0 512)=eH:=qY.2 λy b=>(lV _ _ _).2 ⟨by have:=h y b;omega,(h y b).2⟩;unfold fl;rw[f9 c,h0];simp;omega
 have g:fo extra 0 16=eH:=(lV _ _ _).2 f;have h3:((bi l l.length).any λi=>decide (l.getD i.toNat 0<(ii (aO (cA p extra l)):Int)))=eL:=by refine wH.2 λy b=>?_;rw[h0]at b;obtain⟨i,a,rfl⟩:=qx.1 b;have a:=qC.1 a;have m:=Ck p extra l j.2;have:=d i a;rw[qk,decide_eq_true_eq];omega
 unfold ua;rw[k,e,g,h3];rfl
theorem Sf{m:aA}{i:Nat}{e:Qw.dm}(h:e∈(Gu m i).objs):e∈m.objs:=by
 have h:e∈m.objs.take i++m.objs.drop (i+1):=h;rcases qy.1 h with h|h
 ·exact zA h
 ·exact List.mem_of_mem_drop h
theorem afq(m:aA)(i:Nat):(Gu m i).objs=m.objs.eraseIdx i:=by show m.objs.take i++m.objs.drop (i+1)=_;rw[List.eraseIdx_eq_take_drop_succ]
theorem aat{m:aA}(k:bs m=eH)(n:m.seq<=2147483646)(i:Nat):bs (Gu m i)=eH:=by
 obtain⟨d,b,h3,c,h,g,j⟩:=(cY m).1 k;obtain⟨l,a2,a3,a4⟩:=(fp m).1 d;have a:(Gu m i).objs.Sublist m.objs:=by rw[afq];exact List.eraseIdx_sublist ..
 refine(cY _).2 ⟨(fp _).2 ⟨⟨?_,?_⟩,a2,a3,a4⟩,b,h3,q9 a.length_le c,λe f=>?_,g.sublist a,j.sublist a⟩
 ·show 1<=m.seq+1;omega
 ·show m.seq+1<=_;omega
 ·exact(jF _ _).2 ((jF _ _).1 (h e (Sf f)))
structure Inv (m:aA) (C:Int->aP) (ds:aF) (N:Nat):Prop where
 sto:Sto m C ds
 full:Full m C ds
 low:Low m ds
 nm:∀e∈m.objs,e.name∈rT
 dr:m.drives≠[]
 seq:m.seq<=1+N
 nx:m.next<=N
structure agQ (p:Pm) (extra:Int) (c:Nat) (x:Int) (m:aA) (D:aF):Prop where
 m_eq:m=cA p extra (qi c x)
 len:ii D=64
 may:bs m=eH
 dr:m.drives=(qz c).map λi:Nat=>(i:Int)
 at_:∀s,aU D s=if s∈m.drives then dB ⟨x.toNat,aO m,0,[],eL,eL⟩else ez
variable {v:eX}
section
variable {pw:eX}
end
def pW(m:aA)(offs:Int)(w:Pow)(ds:aF)(slot:Int):Int×aF:=
 if fT w offs then(14,ds)else if slot∉bu ds m.drives then(5,ds)else
 match aU ds slot with
 |some d=>(0,bM ds slot d.CI)
 |none=>(5,ds)
section
variable {pw:eX}
theorem aau(slot:Int)(j:bs m=eH)(H:aa B h0 h (bj a pw da offs w ds m::As)):
  an xQ 37 #[xI (dB a),xG xM slot] h λv h'=>v=xG xM (pW m offs w ds slot).1/\aa B h0 h' (bj a pw da offs w (pW m offs w ds slot).2 m::As):=by
 obtain⟨x,H⟩:=fm H;by_cases g:fT w offs=eH∨slot∉bu ds m.drives
 ·refine(OG slot x m (H.at 1 i0) (il j) H g).mono ?_;rintro _ h' ⟨rfl,R⟩;by_cases c:fT w offs=eH
  ·have e:pW m offs w ds slot=(14,ds):=by unfold pW;rw[f9 c]
   rw[e,f9 c];exact⟨i0,iC (H.up R.af)⟩
  ·have i:slot∉bu ds m.drives:=g.resolve_left c;have e:pW m offs w ds slot=(5,ds):=by unfold pW;rw[g0 c,f9 i]
   rw[e,g0 c];exact⟨i0,iC (H.up R.af)⟩
 ·have c:¬fT w offs=eH:=λh=>g (.inl h);have i:¬slot∉bu ds m.drives:=λh=>g (.inr h);have f:slot∈bu ds m.drives:=Decidable.not_not.1 i;obtain⟨q,d,b,h3⟩:=mI f;obtain⟨n,rfl,p⟩:=ko b;have k:ds[n]?=dB (dB d):=by
   unfold aU at b;rw[f9 i4,qk]at b;cases hX:ds[n]? with
   |none=>rw[hX]at b;cases b
   |some o=>rw[hX]at b;exact congrArg dB b
  refine(QG n x m (H.at 1 i0) (il j) H l7 f k).mono ?_;rintro _ h' ⟨rfl,l⟩;have e:pW m offs w ds (n:Int)=(0,ds.set n (dB d.CI)):=by unfold pW;rw[g0 c,g0 i,b];simp only[bM,qk]
  rw[e];exact⟨i0,iC l⟩
end
def LS(a:Int)(k:Nat):UInt8:=b8 (zG a (2^(8*k)))
def fi(c:aP)(at_:Nat)(a:Int):Nat->aP
 |0=>c
 |k+1=>(fi c at_ a k).set (at_+k) ((fi c at_ a k).getD (at_+k) 0^^^LS a k)
def mY(c:aP)(at_:Int)(a:Int):aP:=fi c at_.toNat a 4
theorem uU(c:aP)(a:Nat)(b:Int):∀k,ii (fi c a b k)=ii c
 |0=>rfl
 |k+1=>by unfold fi;rw[zc];exact uU c a b k
def AJ(d:aY)(i at_ a:Int):Bool:=decide ((0<=i/\i<(ii d.l:Int))/\(0<=at_/\at_<=60)/\a≠0)
def aY.pX(d:aY)(i at_ a:Int):aY:=if AJ d i at_ a then{d with l:=d.l.set i.toNat (mY (d.l.getD i.toNat []) at_ a)}else d
theorem OP{α:Type}{e k:Nat}{f:α->aR}{rs:List Sl}{b:List (List α)}(h:ii rs=ii b)(n:Nat)(d:n<ii b)(x:List α):bn e k f rs (b.set n x)=(bn e k f rs b).set n (ae e (rs[n]'(by omega)) k f x):=by
 apply zt;intro j;by_cases c:j<ii b
 ·rw[fk (by rw[zc];exact h) j (by rw[zc];exact c)];by_cases a:n=j
  ·subst a;rw[zg (by rw[ky h];exact d),yV]
  ·rw[zy a,fk h j c,List.getElem_set_ne a]
 ·rw[qB (by rw[ky (by rw[zc];exact h),zc];omega),qB (by rw[zc,ky h];omega)]
section
variable {pw:eX}
theorem UA(i at_ f:Int)(hm:0<=f/\f<2^32)(H:aa B h0 h (ir pw a d::As)):
  an xQ 36 #[xI (dB a),xG xM i,xG xM at_,xG xO f] h λv h'=>v=xK (AJ d i at_ f)/\aa B h0 h' (ir pw a (d.pX i at_ f)::As):=by
 refine ts Tryz.func36 ?_ (.two .n (.two (.join [] [(8,9),(10,37)] .n) (.two (.two .n (.inn (.loop [(37,aS)] [(9,10),(37,60)] .n))) .n)));obtain⟨ok,s,t,N⟩:=aa.nz H;have X:=(aa.rE (N.aL 2 [1,0])).1;have W:=N.box 0 i0;have A:AJ d i at_ f=eL->(Value.bool eL=xK (AJ d i at_ f)/\aa B h0 h (ir pw a (d.pX i at_ f)::As)):=λe=>by
  unfold aY.pX;rw[e];exact⟨i0,H⟩
 have g:¬((0<=i/\i<(ii d.l:Int))/\(0<=at_/\at_<=60)/\f≠0)->AJ d i at_ f=eL:=λh=>hU h;refine aT (bf (λe=>j1) λ_=>ag (λe=>A (g i4)) λe1=>⟨a,i0,s,W.cell i0,ag (λe=>A (g i4)) λe2=>ag (λe=>A (g i4)) λe3=>ag (λe=>A (g i4)) λe4=>cv (λe=>A (g i4)) λZ=>?_⟩);have hi:0<=i/\i<(ii d.l:Int):=i4
 have o:AJ d i at_ f=eH:=g9 ⟨hi,⟨i4,i4⟩,Z⟩;obtain⟨n,rfl⟩:∃n:Nat,i=n:=⟨i.toNat,i4⟩
 obtain⟨p,rfl⟩:∃p:Nat,at_=p:=⟨at_.toNat,i4⟩
 have R:n<ii d.l:=i4
 have D:d.l[n].length=64:=ok.cell _ (qf R);obtain⟨c,I⟩:∃c,c=d.l[n]:=⟨_,rfl⟩
 have V:aa B h0 h (dc 58 s 5 1 aw (d.l.set n (fi c p f 0))::ac a 102 (eG pw d s t)::dC t d.laid::As):=by
  have e:d.l.set n (fi c p f 0)=d.l:=by show d.l.set n c=d.l;rw[I];exact List.set_getElem_self _
  rw[e];exact N.aL 3 [1,0,2]
 refine aq (λk:Nat=>(k:Int)) (λk h'=>k<=4/\aa B h0 h' (dc 58 s 5 1 aw (d.l.set n (fi c p f k))::ac a 102 (eG pw d s t)::dC t d.laid::As)) (λk=>4-k) 0 i0 ⟨i4,V⟩ ?_;rintro k h3 ⟨hk,G⟩
 try dsimp only
 refine ag (λe=>?_) λe=>?_
 ·have y:k<4:=i4
  have K:=G.box 1 i0;obtain⟨rs,m,J⟩:=G.rZ;have T:=(G.rE).1;have Y:ii (d.l.set n (fi c p f k))=ii d.l:=zc;have j:n<ii (d.l.set n (fi c p f k)):=i4
  have E:(bn 5 1 aw rs (d.l.set n (fi c p f k)))[n]?=dB (ae 5 (rs[n]'(by omega)) 1 aw (fi c p f k)):=by rw[fk m n j,yV]
  have r:((ae 58 s 1 aX rs::bn 5 1 aw rs (d.l.set n (fi c p f k)))++(ac a 102 (eG pw d s t)::dC t d.laid::As))[n+1]?=dB (ae 5 (rs[n]'(by omega)) 1 aw (fi c p f k)):=by rw[zo,qo,ql (by rw[ky m];exact j)];exact E
  have U:ii (fi c p f k)=64:=by rw[uU,I];exact D
  have P:=J.own (n+1) r;refine⟨a,i0,s,K.cell i0,?_⟩;have M:=J.seq 0 i0 λ_=>rfl;refine M.lY n i0 i4 ?_;obtain⟨z,Q⟩:∃z,z=(fi c p f k)[p+k]'(by omega):=⟨_,rfl⟩
  have O:qe xM ((p:Int)+(k:Int))=((p+k:Nat):Int):=j4
  rw[O];have F:Qw.Seq h3 (λb=>b<h3.size) (rs[n]'(by omega)) 1 aw (fi c p f k):=J.seq (n+1) r λ_=>rfl;refine F.bt (p+k) i0 i4 (z.toNat:Int) (by rw[Q];rfl) ?_;refine⟨j4,?_⟩;have u:min (qe xM ((8:Int)*(k:Int))).toNat (qG xO)=8*k:=by rw[ai _];show min ((8:Int)*k).toNat 32=8*k;omega
  rw[u,dU (zG f (2^(8*k)))];have L:=mE z (b8 (zG f (2^(8*k))));rw[L];refine J.set aj (n+1) r (λ_=>rfl) i0 (p+k) i0 i4 (z^^^LS f k) i0 i0 i0 λh5 S=>⟨trivial,?_⟩
  refine⟨k+1,j0,⟨i4,?_⟩,i4⟩;have q:fi c p f (k+1)=(fi c p f k).set (p+k) (z^^^LS f k):=by show(fi c p f k).set (p+k) ((fi c p f k).getD (p+k) 0^^^LS f k)=_;rw[hJ 0,Q]
  refine aa.Ak (rs:=rs) (by rw[zc];omega) ?_;have e:bn 5 1 aw rs (d.l.set n (fi c p f (k+1)))=(bn 5 1 aw rs (d.l.set n (fi c p f k))).set n (ae 5 (rs[n]'(by omega)) 1 aw (fi c p f (k+1))):=by rw[<-OP m n j,ye]
  rw[e,q];rw[zo,zu,vd _ _ (by rw[ky m];exact j)]at S;exact S
 ·have y:k=4:=i4
  subst y;have w:d.pX (n:Int) (p:Int) f={d with l:=d.l.set n (fi c p f 4)}:=by unfold aY.pX;rw[o,f9 i0,qk,hJ [] R,<-I];rfl
  refine⟨by rw[o],?_⟩;rw[w];refine aa.tG (s:=s) (b:=t) ⟨by show d.wait<=_;rw[zc];exact ok.wait,by show(d.l.set n _).length<=_;rw[zc];exact ok.len,ok.room,λx L=>?_,ok.laid,ok.cellL⟩ (G.aL 3 [1,0,2]);rcases List.mem_or_eq_of_mem_set L with h|rfl
  ·exact ok.cell x h
  ·rw[uU,I];exact D
end
def ints(l:List Nat):aB:=l.map λx:Nat=>(x:Int)
theorem kH(l:List Nat):ii (ints l)=ii l:=by simp[ints]
theorem Gv{l:List Nat}{k:Nat}(h:k<ii l):(ints l)[k]'(by rw[kH];exact h)=(l[k]:Int):=by simp[ints]
theorem Sg{n:Nat}:∀{j i:Nat},i<=j->2*j<=n->ch n i<=ch n j
 |0,i,h,_=>by
   have:i=0:=i4
   subst this;exact qm _
 |j+1,i,h,hj=>by
  by_cases a:i=j+1
  ·subst a;exact qm _
  ·exact q9 (Sg i4 i4) (afO i4)
theorem AK(n t:Int)(h:f8):an xQ 92 #[xG xM n,xG xM t] h λv h'=>v=xK (decide (0<=n/\n<=64/\0<=t/\t<=n))/\h'=h:=by
 refine ts Tryz.func92 ?_;refine ag (λb=>ag (λa=>ag (λh3=>⟨?_,i0⟩) λh3=>⟨?_,i0⟩) λa=>⟨?_,i0⟩) (λb=>⟨?_,i0⟩)
 ·congr 1;exact decide_eq_decide.2 i4
 ·rw[hU i4]
 ·rw[hU i4]
 ·rw[hU i4]
theorem AL(n t:Int)(h:f8)(B:-(2^62)<=n/\n<=2^62)(A:-(2^62)<=t/\t<=2^62):an xQ 39 #[xG xM n,xG xM t] h λv h'=>v=xG xM (lN n t)/\h'=h:=by
 refine ts Tryz.func39 ?_ (.two .n (.two .n (.two .n (.two (.two .n (.inn (.loop [(5,aS),(16,aS)] [(4,7),(16,30)] .n))) .n))));refine(AK n t h).mono ?_;rintro v u ⟨rfl,rfl⟩;refine⟨_,i0,aQ (λe=>?_) λe=>?_⟩
 ·have e:=of_decide_eq_false e;unfold lN;rw[g0 e];exact⟨i0,i0⟩
 ·have e:=hZ e;obtain⟨N,rfl⟩:∃N:Nat,n=N:=⟨n.toNat,i4⟩
  obtain⟨T,rfl⟩:∃T:Nat,t=T:=⟨t.toNat,i4⟩
  have y:lN N T=((min (ch N T) 4097:Nat):Int):=by unfold lN;rw[f9 e];rfl
  rw[y];obtain⟨m,s⟩:∃m,m=min T (N-T):=⟨_,rfl⟩
  have f:ch N m=ch N T:=by
   rw[s];rcases Nat.le_total T (N-T)with b|b
   ·rw[wi b]
   ·rw[Nat.min_eq_right b,<-Ns N T i4]
  have a:(if qe xM ((N:Int)-T)<(T:Int)then qe xM ((N:Int)-T)else(T:Int))=(m:Int):=by rw[ai _];split<;>omega
  rw[a];refine aq (λi:Nat=>(((ch N i:Nat):Int),(i:Int))) (λi h'=>h'=u/\i<=m/\ch N i<=4096) (λi=>m-i) 0 (by rw[mS];rfl) ⟨i0,i4,by rw[mS];omega⟩ ?_;rintro i b ⟨rfl,E,d⟩
  try dsimp only
  refine ag (λw=>?_) (λw=>?_)
  ·have r:i<m:=i4
   have D:N<=64:=i4
   have c:=RN (n:=N) (k:=i) i4;have g:ch N i*(N-i)<=4096*64:=Nat.mul_le_mul d i4;have x:qe xM ((N:Int)-i)=((N-i:Nat):Int):=j4
   have l:qe xM (((ch N i:Nat):Int)*((N-i:Nat):Int))=((ch N i*(N-i):Nat):Int):=by rw[<-Int.natCast_mul,ai _]
   have q:qe xM ((i:Int)+1)=((i+1:Nat):Int):=j0
   have z:vJ ((ch N i*(N-i):Nat):Int) ((i+1:Nat):Int)=((ch N (i+1):Nat):Int):=by rw[<-c,<-Int.ofNat_tdiv,Nat.mul_div_cancel _ i4]
   have p:ch N (i+1)<=4096*64:=by have:ch N (i+1)*1<=ch N (i+1)*(i+1):=Nat.mul_le_mul_left _ i4;omega
   rw[x,l,q,z,ai _];refine⟨i4,ag (λo=>?_) λo=>?_⟩
   ·have:=Sg (n:=N) (j:=m) (i:=i+1) i4 i4;refine⟨?_,i0⟩;rw[show min (ch N T) 4097=4097 by omega];rfl
   ·exact⟨i+1,i0,⟨i0,i4,i4⟩,i4⟩
  ·have:i=m:=i4
   subst this;refine⟨?_,i0⟩;rw[show min (ch N T) 4097=ch N i by omega]
theorem index_spec(s:Sl)(l:aB)(x:Int)(h:f8)(g:Rd h s 1 ak l)(m:ii l<=2^30):an xQ 128 #[s,xG xM x] h λv h'=>(∃i:Int,v=xG xM i/\(0<=i↔x∈l)/\(0<=i->l[i.toNat]?=dB x/\∀j,j<i.toNat->l[j]?≠dB x)/\i<ii l/\-1<=i)/\h'=h:=by
 refine mA s x ?_;have k:=g.len;refine aq (λi:Nat=>(i:Int)) (λi h'=>h'=h/\i<=ii l/\∀j,j<i->l[j]?≠dB x) (λi=>ii l-i) 0 i0 ⟨i0,i4,λj b=>i4⟩ ?_;rintro i n ⟨rfl,o,c⟩;refine ag (λe=>?_) (λe=>?_)
 ·have a:i<ii l:=i4
  refine g.bt i i0 a _ i0 ?_;refine cv (λf=>?_) (λf=>?_)
  ·refine⟨⟨i,i0,⟨λ_=>f▸qf a,λ_=>i4⟩,λ_=>⟨by rw[qk,qc a,f],λj b=>c j i4⟩,i4,i4⟩,i0⟩
  ·refine⟨i+1,j0,⟨i0,i4,λj b=>?_⟩,i4⟩;rcases zk.1 b with b|rfl
   ·exact c j b
   ·rw[qc a];intro d;exact f (Option.some.inj d).symm
 ·refine⟨⟨-1,i0,⟨λd=>i4,λd=>?_⟩,λd=>i4,i4,i4⟩,i0⟩;obtain⟨j,b,rfl⟩:=qD d;exact absurd (qc b) (c j i4)
theorem rP(s:Sl)(l:aB)(x:Int)(h:f8)(c:Rd h s 1 ak l)(b:ii l<=2^30):an xQ 80 #[s,xG xM x] h λv h'=>v=xK (decide (x∈l))/\h'=h:=by refine ts Tryz.func80 ?_;refine(index_spec s l x h c b).mono ?_;rintro v d ⟨⟨i,rfl,a,_⟩,rfl⟩;refine⟨i,i0,?_,i0⟩;congr 1;exact decide_eq_decide.2 a
theorem XG(n:Nat)(s:Sl)(l:List Nat){B:av}{p h:f8}{As:List HP}(H:aa B p h As)(i:Nat)(g:As[i]?=dB (ae 3 s 1 ak (ints l)))(P:n<=64)(G:ii l<=n)(F:∀x∈l,x<n):
  an xQ 272 #[s,xG xM n] h λv h'=>match jM n l with
   |some l'=>v=xK eH/\aa B p h' (As.set i (ae 3 s 1 ak (ints l')))
   |none=>v=xK eL/\h'=h:=by
 refine ts Tryz.func272 ?_ (.two .n (.two (.two .n (.inn (.loop [(5,aS)] [(4,7),(10,48)] (.two .n (.two (.inn (.two .n (.two (.two .n (.two (.two .n (.inn (.loop [(6,aS)] [(6,7),(33,48)] .n))) .n)) .n))) .n))))) .n));have c:=(H.own i g).len;rw[kH]at c;refine aq (λk:Nat=>(k:Int)-1) (λk h'=>h'=h/\k<=ii l/\jM n (l.drop k)=ez) (λk=>k) l.length (by rw[c,ai _]) ⟨i0,qm _,by rw[yp];rfl⟩ ?_;rintro k Q ⟨rfl,R,b⟩;refine ag (λe=>?_) (λe=>?_)
 ·obtain⟨k,rfl⟩:∃j,k=j+1:=⟨k-1,i4⟩
  have a:k<ii l:=i4
  have D:=H.seq i g λ_=>rfl;have d:(((k+1:Nat):Int)-1)=(k:Int):=i4
  have L:=F _ (qf a);have m:jM n (l.drop k)=if l[k]+(ii l-k-1)+1<n then dB (zJ (l[k]+1) (ii l-k-1+1))else ez:=by rw[qJ a];unfold jM;rw[b];simp[Nat.sub_sub]
  refine D.bt k d (by rw[kH];exact a) _ i0 ?_;rw[Gv a,d,ai ((n:Int)-((s.len:Nat):Int)),ai _];refine ag (λK=>?_) (λK=>?_)
  ·refine D.bt k i0 (by rw[kH];exact a) _ i0 ?_;rw[Gv a,ai _];rw[f9 i4]at m;have J:=Nr k l _ i4 m;rw[J]
   try dsimp only
   refine H.set aj i g (λ_=>rfl) i0 k i0 (by rw[kH];exact a) ((l[k]:Int)+1) i0 i0 i0 λN y=>?_;let st:Nat->List Nat:=λj=>l.take k++zJ (l[k]+1) (j+1)++l.drop (k+1+j);have f:(ints l).set k ((l[k]:Int)+1)=ints (st 0):=by
    have:st 0=l.set k (l[k]+1):=by simp only[st];rw[List.set_eq_take_append_cons_drop,f9 a];simp[List.range'_succ]
    rw[this];simp[ints,vU]
   rw[f]at y;refine aq (λj:Nat=>((k+1+j:Nat):Int)) (λj h'=>k+1+j<=ii l/\aa B p h' (As.set i (ae 3 s 1 ak (ints (st j))))) (λj=>ii l-j) 0 j0 ⟨i4,y⟩ ?_;rintro j h3 ⟨O,t⟩;have z:ii (st j)=ii l:=by simp[st];omega
   have q:i<ii As:=(qj.1 g).1;have A:(As.set i (ae 3 s 1 ak (ints (st j))))[i]?=dB (ae 3 s 1 ak (ints (st j))):=zg q;refine ag (λE=>?_) (λE=>?_)
   ·have r:k+1+j<ii l:=i4
    have u:(st j)[k+j]'(by omega)=l[k]+1+j:=by simp only[st,qn];rw[List.getElem_append_right i7,List.getElem_append_left i7];simp[List.getElem_range'];omega
    refine(t.seq i A λ_=>rfl).bt (k+j) j4 (by rw[kH];omega) _ i0 ?_;rw[Gv i4,u,ai _];refine t.set aj i A (λ_=>rfl) i0 (k+1+j) i0 (by rw[kH];omega) (((l[k]+1+j:Nat):Int)+1) i0 i0 i0 λM w=>?_;refine⟨j+1,j4,⟨i4,?_⟩,i4⟩;rw[ye]at w;have:(ints (st j)).set (k+1+j) (((l[k]+1+j:Nat):Int)+1)=ints (st (j+1)):=by
     have I:(st j).set (k+1+j) (l[k]+1+j+1)=st (j+1):=by
      simp only[st];rw[qS _ _ i7];have:k+1+j-ii (List.take k l++zJ (l[k]+1) (j+1))=0:=i7
      rw[this,qJ r,zr,List.range'_concat (n:=j+1)];simp[w5]
     rw[<-I];simp[ints,vU]
    rw[this]at w;exact w
   ·have o:k+1+j=ii l:=i4
    refine⟨i0,?_⟩;have:l.take k++zJ (l[k]+1) (ii l-k-1+1)=st j:=by simp only[st];rw[o,yp,qF,show l.length-k-1+1=j+1 by omega]
    rw[this];exact t
  ·rw[g0 i4]at m;exact⟨k,by rw[ai _],⟨i0,i4,m⟩,i4⟩
 ·have:k=0:=i4
  subst this;rw[List.drop_zero]at b;rw[b];exact⟨i0,i0⟩
theorem aav(a b:Sl)(c d:Row)(h:f8)(j:Rd h a 1 aw c)(l:Rd h b 1 aw d)(x:ii c=ii d)(A:ii c<=2^30):an xQ 338 #[a,b] h λv h'=>∃r:Sl,v=.tuple #[r,xK eH]/\Sp h h' [ae 5 r 1 aw (ze (·^^^·) c d)]:=by
 refine ts Tryz.func338 ?_ (.two .n (.two .n (.two .n (.two (.two .n (.inn (.loop [(18,aS)] [(7,8),(18,34)] .n))) .n))));have y:=j.len;have u:=l.len;refine bx (λe=>i4) λ_=>?_;refine(Sp.refl h).make aj aw gF i5 0 i0 i0 c.length c.length i4 i4 (qm _) i4 λs h3 m z q=>?_;refine aq (λk:Nat=>(k:Int)) (λk h'=>k<=ii c/\Sp h h' [ae 5 s 1 aw (ze (·^^^·) (c.take k) (d.take k)++qi (ii c-k) 0)]) (λk=>ii c-k) 0 i0 ⟨i4,o7⟩ ?_;rintro k t ⟨B,g⟩;refine ag (λe=>?_) (λe=>?_)
 ·have f:k<ii c:=i4
  refine(Seq.up j g.af).bt k i0 f _ i0 ?_;refine(Seq.up l g.af).bt k i0 i4 _ i0 ?_;rw[mE];refine g.set aj 0 i0 (λ_=>rfl) i0 k i0 i7 (c[k]^^^d[k]) i0 i0 i0 λw o=>⟨trivial,?_⟩
  refine⟨k+1,j0,⟨i4,?_⟩,i4⟩;have i:ii (ze (·^^^·) (c.take k) (d.take k))=k:=i7
  have p:(ze (·^^^·) (c.take k) (d.take k)++qi (ii c-k) (0:UInt8)).set k (c[k]^^^d[k])=ze (·^^^·) (c.take (k+1)) (d.take (k+1))++qi (ii c-(k+1)) 0:=by rw[qS _ _ i4,i,qW,show c.length-k=ii c-(k+1)+1 by omega,yi,zr,aD _ _ f,aD _ _ (show k<ii d by omega),List.zipWith_append i7,qn];rfl
  rw[<-p];exact o
 ·have:k=ii c:=i4
  subst this;refine⟨s,i0,?_⟩;rw[qg (qm _),qg i4,qW,vG,qF]at g;exact g
theorem adl(c:UInt8)(a b:Row):ze (·^^^·) (scaleB c a) b=cO c a b:=by unfold scaleB cO;rw[List.zipWith_map_left];congr 1;funext x y;exact UInt8.xor_comm _ _
theorem XH(f:eX)(c:UInt8)(a b:Sl)(d e:Row)(h:f8)(o:fy h f)(l:Rd h a 1 aw d)(m:Rd h b 1 aw e)(n:ii d=ii e)(k:ii d<=2^30):
  an xQ 321 #[xI (dB f),xG xN c.toNat,a,b] h λv h'=>∃r:Sl,v=.tuple #[r,xK eH]/\Sp h h' [ae 5 r 1 aw (cO c d e)]:=by
 refine ts Tryz.func321 ?_;refine(HO f c a d h o l k).mono ?_;rintro v q ⟨r,rfl,g⟩;refine⟨r,i0,(aav r b _ e q (g.seq 0 i0 λ_=>rfl) (Seq.up m g.af) (by rw[nU];exact n) (by rw[nU];exact k)).mono ?_⟩;rintro v s ⟨w,rfl,p⟩;refine⟨(w,eH),i0,w,i0,?_⟩;rw[<-adl];exact(g.comp p).take 1 λi A j=>by cases i with|zero=>exact j|succ i=>simp at j
def gn(f:eX)(n:Nat)(a:Sl):aR:=[xI (dB f),xG xM n,a]
def ig(b f:eX)(n:Nat)(M:aI):HP:=.ex λa:Sl=>(ac b 353 (gn f n a)).sep (bm 58 a 1 aX (bR 1 aw) M)
theorem XI(s f:eX)(n:Nat)(b r:Sl)(M:aI)(l:Row)(h:f8)(g:bW h s 353 (gn f n b))(F:fy h f)(B:dM (bv (bR 1 aw) 1 aX) h b M)(E:Rd h r 1 aw l)
  (N:ii l=n) (V:n<=64) (q:aV n M) (z:∀x∈M,fa x<n) (S:ii M<=2^30):
  an xQ 275 #[xI (dB s),r] h λv h'=>∃w:Sl,v=.tuple #[w,xK eH]/\Sp h h' [ae 5 w 1 aw (dZ M l)]:=by
 refine ts Tryz.func275 ?_ (.two .n (.two (.join [] [(4,6),(10,21)] .n) (.two .n (.two (.two .n (.inn (.loop [(6,cK),(28,aS)] [(6,7),(8,10),(28,51)] .n))) .n))));have O:=E.len;have Q:=bv.len B;refine aT ?_;refine bf (λe=>j1) λ_=>?_;refine⟨s,i0,n,g.cell i0,bx (λe=>i4) λ_=>?_⟩;refine(eI r l h E i4).mono ?_;rintro v W ⟨w,rfl,G⟩;refine⟨w,i0,s,i0,b,(g.af G.af g.lt).cell i0,?_⟩;refine aq (λt:Sl×Nat=>(t.1,(t.2:Int))) (λt h'=>t.2<=ii M/\Sp h h' [ae 5 t.1 1 aw (dZ (M.take t.2) l)]) (λt=>ii M-t.2) (w,0) i0 ⟨i9,by simpa[dZ]using G⟩ ?_;rintro⟨o,k⟩ L ⟨X,a⟩;dsimp only at*;refine ag (λe=>?_) (λe=>?_)
 ·have c:k<ii M:=i4
  have K:M[k].length=n:=q _ (qf _);have J:=z _ (qf c);have m:aV n (M.take k):=λx y=>q x (zA y);have d:=FZ m N;have T:=(a.own 0 i0).len;refine bv.ng (dM.up B a.af) k i0 c λx y=>?_;refine(DY x _ L y).mono ?_;rintro v h3 ⟨rfl,rfl⟩;refine⟨_,i0,?_⟩
  try dsimp only
  rw[f9 i4];refine(a.seq 0 i0 λ_=>rfl).bt (fa M[k]) i0 i4 _ i0 ?_;have p:(dZ (M.take k) l)[fa M[k]]'(by omega)=aJ (dZ (M.take k) l) (fa M[k]):=(Jj i4).symm;have u:dZ (M.take (k+1)) l=cO (aJ (dZ (M.take k) l) (fa M[k])) M[k] (dZ (M.take k) l):=by unfold dZ;rw[aD _ _ c,zB];rfl
  rw[p];refine bx (λI=>?_) (λI=>?_)
  ·refine⟨s,i0,dB f,(g.af a.af g.lt).cell0 i0,?_⟩;refine(XH f (aJ (dZ (M.take k) l) (fa M[k])) x o M[k] _ h3 (F.af a.af F.lt) y (a.seq 0 i0 λ_=>rfl) i4 i4).mono ?_;rintro v U ⟨D,rfl,R⟩;refine⟨(D,eH),i0,⟨(D,k+1),jj,⟨i6,?_⟩,i6⟩⟩
   try dsimp only
   rw[u];exact(a.comp R).take 1 λi A H=>by cases i with|zero=>exact H|succ i=>simp at H
  ·refine⟨(o,k+1),jj,⟨i6,?_⟩,i6⟩;have P:aJ (dZ (M.take k) l) (fa M[k])=0:=xX.1 I;have:dZ (M.take (k+1)) l=dZ (M.take k) l:=by rw[u,P];refine fG (n:=n) (by rw[bV];exact d) d λj _=>?_;rw[cH i4,Gf.zero_mul,UInt8.xor_zero]
   try dsimp only
   rw[this];exact a
 ·refine⟨o,i0,?_⟩;rw[qg i4]at a;exact a
theorem Lz(f:eX)(n:Nat)(h:f8)(i:n<=64):an xQ 207 #[xI (dB f),xG xM n] h λv h'=>∃c:eX,v=xI (dB c)/\Sp h h' [ig c f n []]:=by refine ts Tryz.func207 ?_ (.two .n (.two (.join [] [(4,11)] .n) (.two (.join [(0,Nv)] [(0,1),(11,14)] .n) .n)));refine aT ?_;refine ag (λe=>i4) λ_=>ag (λe=>i4) λ_=>?_;refine aT ?_;refine bf (λe=>j1) λ_=>?_;refine(Sp.refl h).boxed λa j d=>?_;refine⟨a,i0,?_⟩;have g:=(d.rD 58 1 aX (bR 1 aw)).join 0 1 i5 i0 i0;exact(g.close' (F:=λb:Sl=>(ac a 353 (gn f n b)).sep (bm 58 b 1 aX (bR 1 aw) [])) 0 ⟨ez,0,0⟩ i0).del 1
theorem ig.open{B:av}{c h:f8}{As:List HP}{b f:eX}{n:Nat}{M:aI}(H:aa B c h (ig b f n M::As)):
  ∃a:Sl,aa B c h (bm 58 a 1 aX (bR 1 aw) M::ac b 353 (gn f n a)::As):=by
 obtain⟨a,d⟩:=H.oz;exact⟨a,d.lK⟩
theorem ig.close{B:av}{c h:f8}{As:List HP}{b f:eX}{n:Nat}{M:aI}{a:Sl}(H:aa B c h (bm 58 a 1 aX (bR 1 aw) M::ac b 353 (gn f n a)::As)):
  aa B c h (ig b f n M::As):=H.iQ.sX (F:=λa:Sl=>(ac b 353 (gn f n a)).sep (bm 58 a 1 aX (bR 1 aw) M)) a
theorem AM(b f:eX)(n:Nat)(M:aI){B:av}{d h:f8}{As:List HP}(H:aa B d h (ig b f n M::As)):an xQ 278 #[xI (dB b)] h λv h'=>v=xG xM M.length/\h'=h:=by refine ts Tryz.func278 ?_;obtain⟨a,c⟩:=ig.open H;refine bf (λe=>j1) λ_=>?_;exact⟨b,i0,a,(c.box 1 i0).cell i0,by rw[(c.Mz 0 i0).1],i0⟩
theorem Cp(g f:eX)(n:Nat)(M:aI)(r:Sl)(l:Row){B:av}{o h:f8}{As:List HP}(H:aa B o h (ig g f n M::As))(I:St B o As λh=>fy h f)(S:Rd h r 1 aw l)
  (F:ii l=n) (G:n<=64) (k:aV n M) (D:∀x∈M,fa x<n) (V:ii M<=64):
  an xQ 209 #[xI (dB g),r] h λv h'=>(∃b,v=xK b)/\aa B o h' (ig g f n (Nl M l)::As):=by
 refine ts Tryz.func209 ?_ (.two .n (.two .n (.two (.join [] [(4,5),(13,20)] .n) .n)));obtain⟨j,t⟩:=ig.open H;have m:=FZ k F;refine(XI g f n j r M l h (t.box 1 i0) (I [_,_] h t) (t.JZ 0 i0 λ_=>rfl) S F G k D i4).mono ?_;rintro v W ⟨w,rfl,J⟩;have E:=t.bN J;have O:=J.seq 0 i0 λ_=>rfl;refine⟨(w,eH),i0,aT ?_⟩;refine aQ (λe=>j1) λ_=>?_;refine(DY w _ W O).mono ?_;rintro v Z ⟨rfl,rfl⟩;refine⟨_,i0,?_⟩
 try dsimp only
 by_cases a:fa (dZ M l)<ii (dZ M l)
 ·rw[f9 a];refine sV (hU (Int.not_lt.2 (wg _))) ?_;have A:=E.Hb 0 i0 λ_=>rfl;have c:=A.box 2 i0;refine⟨g,i0,dB f,c.cell0 i0,g,i0,j,c.cell i0,?_⟩;have p:aV n (M++[dZ M l]):=mw k m;refine A.nS aj aX fw i0 [w] i0 (show 1*1<=2^20 by decide) i0 ⟨c.cell i0,c.cell0 i0,trivial⟩ ?_;refine A.mO aj 1 0 i5 i0 i0 fw i0 i5 (λ_=>rfl) jb i0 i5 i4 λz s Y=>?_;have d:aa B o s (bm 58 z 1 aX (bR 1 aw) (M++[dZ M l])::ac g 353 (gn f n j)::As):=Y.nw;have y:=d.box 1 i0;refine⟨⟨y.cell0 i0,trivial⟩,?_⟩;refine(Fl f z _ n s (I [_,_] s d) (bv.todY (d.JZ 0 i0 λ_=>rfl)) p G i7).mono ?_;rintro v R ⟨q,rs,rfl,Q,u,N,X⟩;have i:=(iF p (eE (M++[dZ M l]))).2;have P:Sp s R [bm 58 ⟨q.ptr,bY (M++[dZ M l]),q.cap⟩ 1 aX (bR 1 aw) (mz (M++[dZ M l]))]:=by have:=aa.act (As:=[]) X (by rw[i];exact u) (λ_=>rfl) (bY (M++[dZ M l])) (by rw[i];omega);exact this
  have T:=d.bN P;refine⟨q,i0,trivial,g,i0,?_⟩;refine T.storeAt aj 2 i0 i0 (off:=2) (v:=xH q.ptr q.len q.cap) i0 i0 i0 (by simp[gn]) λL K=>⟨trivial,⟨_,i0⟩,?_⟩
  have U:aa B o L (bm 58 ⟨q.ptr,bY (M++[dZ M l]),q.cap⟩ 1 aX (bR 1 aw) (mz (M++[dZ M l]))::bm 58 z 1 aX (bR 1 aw) (M++[dZ M l])::ac g 353 (gn f n ⟨q.ptr,bY (M++[dZ M l]),q.cap⟩)::As):=by rw[show q.len=bY (M++[dZ M l])from Q]at K;exact K
  rw[Nl,f9 a];exact ig.close U.oy
 ·rw[g0 a];refine CB (g9 i5) ⟨⟨_,i0⟩,?_⟩;rw[Nl,g0 a];exact ig.close E.nw
theorem LA(j f:eX)(n:Nat)(M:aI)(a:Sl)(h:f8)(u:bW h j 353 (gn f n a))(d:dM (bv (bR 1 aw) 1 aX) h a M)(y:ii M<=64)(i:aV n M)(D:n<=64):
  an xQ 322 #[xI (dB j)] h λv h'=>∃r:Sl,v=r/\Sp h h' [bm 58 r 1 aX (bR 1 aw) M]:=by
 refine ts Tryz.func322 ?_ (.two .n (.two .n (.two .n (.two (.two .n (.inn (.loop [(3,cK),(13,aS)] [(3,4),(5,6),(13,23)] .n))) .n))));refine bf (λe=>j1) λ_=>?_;have l:=bv.len d;refine⟨j,i0,a,u.cell i0,?_⟩;refine aq (λt:Sl×Nat=>(t.1,(t.2:Int))) (λt h'=>t.2<=ii M/\Sp h h' [bm 58 t.1 1 aX (bR 1 aw) (M.take t.2)]) (λt=>ii M-t.2) (⟨ez,0,0⟩,0) i0 ⟨i9,(Sp.refl h).rD 58 1 aX (bR 1 aw)⟩ ?_;rintro⟨s,k⟩ q ⟨E,g⟩;dsimp only at*;refine ag (λe=>?_) (λe=>?_)
 ·have b:k<ii M:=i4
  have o:=i _ (qf b);refine bv.ng (dM.up d g.af) k i0 b λx m=>?_;refine(eI x M[k] q m i4).mono ?_;rintro v h3 ⟨c,rfl,p⟩;have z:=(g.bN p).Hb 0 i0 λ_=>rfl;refine⟨c,i0,?_⟩;refine z.mO aj 1 0 i5 i0 i0 fw i0 i5 (λ_=>rfl) jb i0 i5 i7 λw B A=>?_;refine⟨(w,k+1),jj,⟨i6,?_⟩,i6⟩
  try dsimp only
  rw[aD _ _ b];exact A.nw
 ·rw[qg i4]at g;exact⟨s,i0,g⟩
theorem ig.rd{B:av}{o h:f8}{As:List HP}{m f:eX}{n:Nat}{M:aI}(H:aa B o h As)(i:Nat)(t:As[i]?=dB (ig m f n M)):∃g:Sl,bW h m 353 (gn f n g)/\dM (bv (bR 1 aw) 1 aX) h g M:=by obtain⟨g,v,y,z,u,k,q,rs,w,a,b,c,d,e⟩:=H.at i t;exact⟨g,q.1,rs,a.seq (λ_=>rfl) λx j=>k x (b x j).1,d,λi r l s p=>(bR 1 aw).mono (e i r l s p) λx j=>k x (c x j)⟩
theorem JJ(c f:eX)(n:Nat)(M:aI)(b:Sl)(h:f8)(g:bW h c 353 (gn f n b))(j:dM (bv (bR 1 aw) 1 aX) h b M)(k:ii M<=64)(i:aV n M)(s:n<=64):
  an xQ 277 #[xI (dB c)] h λv h'=>∃d:eX,v=xI (dB d)/\Sp h h' [ig d f n M]:=by
 refine ts Tryz.func277 ?_;refine bf (λe=>j1) λ_=>?_;refine⟨c,i0,dB f,g.cell0 i0,c,i0,n,g.cell i0,?_⟩;have m:bQ.ok [(c.add 1,(xG xM (n:Int))),(c,(xI (dB f)))] h:=⟨g.cell i0,g.cell0 i0,trivial⟩
 refine(LA c f n M b h g j k i s).mono ?_;rintro v u ⟨r,rfl,o⟩;have l:=ka o.af m;refine⟨r,i0,l,o.boxed λa q p=>?_⟩;have t:Sp h q (ac a 353 (gn f n r)::bm 58 r 1 aX (bR 1 aw) M::[]):=p.be;refine⟨ka p.af m,a,i0,?_⟩;exact ig.close t.gp
def cW(p:Pm)(seed:Int)(a:aB):aI:=if bS p then(a.filter ct).map (CL (bX p).toNat seed)else[]
theorem Fy{p:Pm}{seed:Int}{a:aB}{k:Nat}(c:k<ii a):cW p seed (a.take (k+1))=cW p seed (a.take k)++(if(bS p&&ct a[k])=eH then[CL (bX p).toNat seed a[k]]else[]):=by
 unfold cW;by_cases b:bS p=eH
 ·rw[f9 b,f9 b,nH c];by_cases h:ct a[k]=eH
  ·rw[f9 h,f9 (by rw[b,h];rfl),qM];rfl
  ·rw[g0 h,g0 u9,qF]
 ·rw[g0 b,g0 b,g0 m4];rfl
theorem QJ(p:Pm)(seed:Int)(b:aB):aV (bX p).toNat (cW p seed b):=λr a=>by
 unfold cW at a;split at a
 ·obtain⟨i,_,rfl⟩:=qx.1 a;exact MI _ _ _
 ·cases a
theorem Iu(p:Pm)(seed:Int)(a:aB):ii (cW p seed a)<=ii a:=by
 unfold cW;split
 ·rw[qu];exact qR _ _
 ·simp
abbrev Ea:iy Sl aI:=bv (bR 1 aw) 1 aX
theorem XJ(p:Pm)(seed:Int)(w:Sl)(W:cu)(h:f8)(J:dM (bv (bR 1 ak) 1 aX) h w W)(Z:ii W<=2^20)(O:∀l∈W,ii l<=2^20):
  an xQ 210 #[jQ p,xG xO seed,w] h λv h'=>∃r:Sl,v=r/\Sp h h' [bm 43 r 1 aX Ea (W.map (cW p seed))]:=by
 refine ts Tryz.func210 ?_ (.two .n (.two .n (.two (.two .n (.inn (.loop [(7,cK),(16,aS)] [(7,8),(9,11),(12,14),(16,42)] (.two .n (.two .n (.two (.inn (.two .n (.two .n (.two (.two .n (.inn (.loop [(10,cK),(22,aS)] [(10,11),(12,14),(22,37)] .n))) .n)))) .n)))))) .n))) (args:=[p,(xG xO (seed:Int)),w]);obtain⟨U,u,Q,H⟩:=bv.jZ J;have K:=u.len;refine(Sp.refl h).boxed λa h1 L=>?_;refine aq (λt:Sl×Nat=>(t.1,(t.2:Int))) (λt h'=>t.2<=ii W/\Sp h h' [bm 43 t.1 1 aX Ea ((W.take t.2).map (cW p seed)),ac a 36 [xG xM p.1,xG xM p.2.1,xG xM p.2.2]]) (λt=>ii W-t.2) (⟨ez,0,0⟩,0) i0 ⟨i9,(L.rD 43 1 aX Ea).be⟩ ?_;rintro⟨o,k⟩ X ⟨hk,A⟩;dsimp only at*;refine ag (λe=>?_) (λe=>?_)
 ·have i:k<ii W:=i4
  have I:=O _ (qf i);have B:=H k i4 i;refine(Seq.up u A.af).lY k i0 i4 ?_;generalize U[k]'(by omega)=x at B;have S:=Seq.len B;refine aq (λt:Sl×Nat=>(t.1,(t.2:Int))) (λt h'=>t.2<=W[k].length/\Sp h h' [bm 58 t.1 1 aX (bR 1 aw) (cW p seed (W[k].take t.2)),bm 43 o 1 aX Ea ((W.take k).map (cW p seed)),ac a 36 [xG xM p.1,xG xM p.2.1,xG xM p.2.2]]) (λt=>W[k].length-t.2) (⟨ez,0,0⟩,0) i0 ⟨i9,by
    have:=(A.rD 58 1 aX (bR 1 aw)).be;have N:cW p seed []=[]:=by unfold cW;split<;>rfl
    dsimp only;rw[List.take_zero,N];exact this⟩ ?_
  rintro⟨s,j⟩ h3 ⟨Y,y⟩;dsimp only at*;refine ag (λT=>?_) (λT=>?_)
  ·have g:j<W[k].length:=i4
   refine(Seq.up B y.af).bt j i0 g _ i0 ?_;refine⟨p,(y.box 2 i0).aE _ i0,(NI p seed W[k][j] h3).mono ?_⟩;rintro v V ⟨c,rfl,P,f⟩;refine⟨c,i0,?_⟩;have z:=(y.bN P).Hb 0 i0 λ_=>rfl;have m:=Iu p seed (W[k].take j);rw[qO]at m;refine aQ (λq=>?_) (λq=>?_)
   ·rw[f]at q;have d:(bS p&&ct W[k][j])=eH:=o7
    rw[d,f9 rfl]at z;refine z.mO aj 1 0 i5 i0 i0 fw i0 i5 (λ_=>rfl) jb i0 i5 i4 λG M F=>?_;have D:=F.nw;refine⟨(G,j+1),jj,⟨i6,?_⟩,i6⟩;dsimp only;rw[Fy g,f9 d];exact D
   ·rw[f]at q;have d:¬(bS p&&ct W[k][j])=eH:=λR=>by rw[R]at q;cases q
    refine⟨(s,j+1),jj,⟨i6,?_⟩,i6⟩;dsimp only;rw[Fy g,g0 d,qF];exact z.nw
  ·rw[qg i4]at y;have z:=y.Jd 0 i0 λ_=>rfl;refine z.mO aj 1 0 i5 (E:=Ea) (a:=s) (b:=cW p seed W[k]) i0 i0 (⟨_,_,i0,i0,i0,i0,i0,i0⟩:bI C.toAi 41 43 1 [xH ez 0 0] 24) i0 i5 (λ_=>rfl) jb i0 i5 i7 λG M F=>?_;refine⟨(G,k+1),jj,⟨i6,?_⟩,i6⟩
   try dsimp only
   rw[aD _ _ i,qM];exact F.nw
 ·rw[qg i4]at A;exact⟨o,i0,A.oy⟩
def lh(R:List aI)(a:aB):Nat->aI
 |0=>[]
 |k+1=>lh R a k++if(k:Int)∈a then[]else R.getD k []
theorem KX{n:Nat}{R:List aI}(c:∀m∈R,aV n m)(b:aB):∀k,aV n (lh R b k)
 |0=>λr a=>t8
 |k+1=>λr a=>by
  rcases qy.1 a with a|a
  ·exact KX c b k r a
  ·split at a
   ·cases a
   ·rw[qd]at a;cases hg:R[k]? with
    |none=>rw[hg]at a;cases a
    |some m=>rw[hg]at a;exact c m (zT hg) r a
theorem OQ(R:List aI)(a:aB):∀{j k:Nat},j<=k->∃X,lh R a k=lh R a j++X
 |j,0,h=>⟨[],by
   have:j=0:=i4
   subst this;simp⟩
 |j,k+1,h=>by
  by_cases b:j=k+1
  ·subst b;exact⟨[],i9⟩
  ·obtain⟨X,c⟩:=OQ R a (j:=j) (k:=k) i4;exact⟨X++if(k:Int)∈a then[]else R.getD k [],by rw[lh,c,qn]⟩
theorem aaw{n:Nat}{m:aI}(d:aV n m)(h:bY m=n){b:aI}(a:aV n b)(c:∀r∈m,r∈b):bY b=n:=by have f:=oH a;have e:=Ke d a c;omega
theorem QK(J f:eX)(n:Nat)(M A:aI)(w l g:Sl)(R:List aI)(a:aB)(h:f8)(hb:bW h J 353 (gn f n w))(O:dM Ea h w M)(P:fy h f)(hl:dM (bv Ea 1 aX) h l R)(hg:Rd h g 1 ak a)
  (U:n<=64) (i:Bn n M A) (Z:∀m∈R,aV n m/\m.length<=2^20) (ao:ii R<=2^20) (N:ii a<=2^30):
  an xQ 211 #[xI (dB J),l,g,xG xM n] h λv h'=>v=xK (decide (bY (A++lh R a R.length)=n))/\Sp h h' []:=by
 refine ts Tryz.func211 ?_ (.two .n (.two .n (.two (.two .n (.inn (.loop [(18,aS)] [(8,9),(10,12),(13,14),(18,41)] (.two .n (.two .n (.two (.inn (.two .n (.two .n (.two .n (.inn (.loop [(28,aS)] [(8,9),(13,14),(28,40)] .n)))))) .n)))))) .n)));obtain⟨ls,F,am,T⟩:=bv.jZ hl;have ab:=F.len;have q:∀{o A':aI},Bn n o A'->ii o<=64:=λx=>by have:=x.len;have:=oH x.evenA;omega
 have K:St (λb=>b<h.size) h [] λh'=>fy h' f:=.base P λh' hp=>P.af hp P.lt;have L:aV n (A++lh R a R.length):=λr d=>(qy.1 d).elim (i.evenA r) (KX (λm hm=>(Z m hm).1) a _ r);refine(JJ J f n M w h hb O (q i) i.even U).mono ?_;rintro v h1 ⟨s,rfl,R1⟩;refine⟨dB s,i0,?_⟩;refine aq (λk:Nat=>(k:Int)) (λk h'=>k<=ii R/\∃o,Bn n o (A++lh R a k)/\Sp h h' [ig s f n o]) (λk=>ii R-k) 0 i0 ⟨i4,M,by simpa[lh]using i,R1⟩ ?_;rintro k h2 ⟨hk,M2,t,B⟩;refine ag (λe=>?_) (λe=>?_)
 ·have u:k<ii R:=i4
  have Y:=T k i4 u;refine(Seq.up F B.af).lY k i0 i4 ?_;generalize ls[k]'(by omega)=x at Y;have E:=Z _ (qf u);refine(rP g a k h2 (Seq.up hg B.af) N).mono ?_;rintro v h3 ⟨rfl,rfl⟩;refine⟨_,i0,ag (λS=>?_) λp=>?_⟩
  ·refine⟨k+1,j0,⟨i4,M2,?_,B⟩,i4⟩;rw[lh,f9 S,qF];exact t
  ·obtain⟨xs,H,al,Q⟩:=bv.jZ Y;have ad:=H.len;have G:R.getD k []=R[k]:=by rw[qd,qc u];rfl
   refine aq (λj:Nat=>(j:Int)) (λj h'=>j<=R[k].length/\∃o,Bn n o ((A++lh R a k)++R[k].take j)/\Sp h h' [ig s f n o]) (λj=>R[k].length-j) 0 i0 ⟨i4,M2,by simpa using t,B⟩ ?_;rintro j h4 ⟨hj,I,c,D⟩;refine ag (λe2=>?_) (λe2=>?_)
   ·have z:j<R[k].length:=i4
    have W:=Q j i4 z;refine(Seq.up H D.af).lY j i0 i4 ?_;generalize xs[j]'(by omega)=y at W;refine(AM s f n I D).mono ?_;rintro v h5 ⟨rfl,rfl⟩;refine⟨_,i0,cv (λe3=>?_) λe3=>?_⟩
    ·refine⟨?_,.zip D.af⟩;have ah:((ii I:Nat):Int)=(n:Int):=e3;have h6:bY ((A++lh R a k)++R[k].take j)=n:=by have:=c.len;omega
     have h7:bY (A++lh R a R.length)=n:=by
      refine aaw c.evenA h6 L λr d=>?_;obtain⟨X,hX⟩:=OQ R a (j:=k+1) (k:=ii R) i4;rw[hX,lh,g0 p,G];simp only[qy]at d⊢;rcases d with(d|d)|d
      ·exact .inl d
      ·exact .inr (.inl (.inl d))
      ·exact .inr (.inl (.inr (zA d)))
     rw[h7];simp
    ·refine(Cp s f n I y _ D K (Seq.up W D.af) (E.1 _ (qf _)) U c.even c.lead (q c)).mono ?_;rintro v h6 ⟨⟨b,rfl⟩,H6⟩;refine⟨b,i0,⟨j+1,j0,⟨i4,_,?_,H6⟩,i4⟩⟩;have:=Wd c (E.1 _ (qf z));rw[aD _ _ z,<-qn];exact this
   ·refine⟨k+1,j0,⟨i4,I,?_,D⟩,i4⟩;rw[qg i4]at c;rw[lh,g0 p,G,<-qn];exact c
 ·have:k=ii R:=i4
  subst this;refine(AM s f n M2 B).mono ?_;rintro v h5 ⟨rfl,rfl⟩;refine⟨_,i0,?_,.zip B.af⟩;have:=t.len;congr 1;by_cases V:bY (A++lh R a R.length)=n
  ·rw[g9 V];exact beq_iff_eq.2 (show((ii M2:Nat):Int)=n by omega)
  ·rw[hU V];exact beq_eq_false_iff_ne.2 (show((ii M2:Nat):Int)≠n by omega)
def BQ(n t:Nat):cu:=(mg t 0 n).map ints
def Eb(n t:Int)(h:f8)(v:Value)(h':f8):Prop:=
 if 0<=n/\n<=64/\0<=t/\t<=n then
  if lN n t>4096 then v=.tuple #[xH ez 0 0,xG xM 13]/\h'=h
  else∃r:Sl,v=.tuple #[r,xG xM 0]/\Sp h h' [bm 22 r 1 aX (bR 1 ak) (BQ n.toNat t.toNat)]
 else v=.tuple #[xH ez 0 0,xG xM 1]/\h'=h
theorem OR(n t:Int)(h:f8)(hn:0<=n/\n<=2^30)(ht:(0:Int)<=0):an xQ 206 #[xG xM n,xG xM t] h (Eb n t h):=by
 refine ts Tryz.func206 ?_ (.two .n (.two .n (.two .n (.two (.two .n (.inn (.loop [(23,aS)] [(7,8),(23,31)] .n))) (.two .n (.two (.inn (.loop [(8,cK)] [(8,9),(34,42)] .n)) .n))))));refine(AK n t h).mono ?_;rintro v R ⟨rfl,rfl⟩;refine⟨_,i0,aQ (λe=>?_) λe=>?_⟩
 ·show Eb n t R _ R;unfold Eb;rw[g0 (of_decide_eq_false e)];exact⟨i0,i0⟩
 ·have e:=hZ e;refine(AL n t R i4 i4).mono ?_;rintro v i ⟨rfl,rfl⟩;refine⟨_,i0,ag (λu=>?_) λu=>?_⟩
  ·show Eb n t i _ i;unfold Eb;rw[f9 e,f9 u];exact⟨i0,i0⟩
  ·refine(λG=>?_:(∀(v:Value) (h':f8),(∃r:Sl,v=.tuple #[r,xG xM 0]/\Sp i h' [bm 22 r 1 aX (bR 1 ak) (BQ n.toNat t.toNat)])->Eb n t i v h')->_) (λv h' l=>by unfold Eb;rw[f9 e,g0 u];exact l);obtain⟨N,rfl⟩:∃N:Nat,n=N:=⟨n.toNat,i4⟩
   obtain⟨T,rfl⟩:∃T:Nat,t=T:=⟨t.toNat,i4⟩
   have V:ii (mg T 0 N)<=4096:=by
    rw[Gb N T 0 i4];have:lN (N:Int) T=((min (ch N T) 4097:Nat):Int):=by unfold lN;rw[f9 e];rfl
    rw[this]at u;have am:¬(((min (ch N T) 4097:Nat):Int)>4096):=u;simp;omega
   refine(Sp.refl i).make aj ak fR i5 0 i0 i0 T T i0 i0 (qm _) i4 λs h3 ab X H3=>?_;refine aq (λk:Nat=>(k:Int)) (λk h'=>k<=T/\Sp i h' [ae 3 s 1 ak (ints (zJ 0 k++qi (T-k) 0))]) (λk=>T-k) 0 i0 ⟨i4,by
    have P:ints (zJ 0 0++qi (T-0) 0)=qi T 0:=by simp[ints]
    rw[P];exact H3⟩ ?_
   rintro k W ⟨hk,B⟩;refine ag (λe3=>?_) (λe3=>?_)
   ·have al:k<T:=i4
    refine B.set aj 0 i0 (λ_=>rfl) i0 k i0 (by simp[ints];omega) (k:Int) i0 i0 i0 λh5 A=>?_;refine⟨k+1,j0,⟨i4,?_⟩,i4⟩;have P:(ints (zJ 0 k++qi (T-k) 0)).set k (k:Int)=ints (zJ 0 (k+1)++qi (T-(k+1)) 0):=by
     have:(zJ 0 k++qi (T-k) 0).set k k=zJ 0 (k+1)++qi (T-(k+1)) 0:=by rw[qS _ _ i9,List.length_range',qW,show T-k=T-(k+1)+1 by omega,yi,zr,List.range'_concat];simp
     rw[<-this];simp[ints,vU]
    rw[P]at A;exact A
   ·have:k=T:=i4
    subst this;rw[qW,vG,qF]at B;refine(jy s _ W (B.seq 0 i0 λ_=>rfl) (by simp[ints];omega)).mono ?_;rintro v h5 ⟨c,rfl,R5⟩;have A:=(B.bN R5).Hb 0 i0 λ_=>rfl;refine⟨c,i0,?_⟩;refine A.lit aj aX (⟨_,_,i0,i0,i0,i0,i0,i0⟩:bI C.toAi 75 22 1 [xH ez 0 0] 24) i0 [c] i0 (show 1*1<=2^20 by decide) i0 λo Y H6=>?_;have H7:Sp i Y (bm 22 o 1 aX (bR 1 ak) [ints (zJ 0 k)]::ae 3 s 1 ak (ints (zJ 0 k))::[]):=(H6.aeh (E:=bR 1 ak) (a:=c) (b:=ints (zJ 0 k)) 2 0 i5 i0 i0).be.oy;have J:=Dm N k 0 i4;refine aq (λx:Sl×List (List Nat)×List Nat×List (List Nat)=>x.1) (λx h'=>x.2.1++x.2.2.2=mg k 0 N/\oN N x.2.2.1 x.2.2.2/\x.2.2.1.length=k/\(∀y∈x.2.2.1,y<N)/\Sp i h' [bm 22 x.1 1 aX (bR 1 ak) ((x.2.1++[x.2.2.1]).map ints),ae 3 s 1 ak (ints x.2.2.1)]) (λx=>ii x.2.2.2) (o,[],zJ 0 k,mg k 0 N) i0 ⟨i0,J,i9,λy F=>by rw[List.mem_range'_1]at F;omega,by simpa using H7⟩ ?_;rintro⟨o,g,f,rest⟩ h8 ⟨z,w,ao,M,S⟩;dsimp only at*;refine(XG N s f S 1 i0 i4 i4 M).mono ?_;intro v p l;cases hs:jM N f with
    |none=>
     rw[hs]at l;obtain⟨rfl,rfl⟩:=l;refine⟨eL,i0,?_⟩;refine sV i0 (G _ _ ⟨o,i0,?_⟩);rw[qk,qk];have:rest=[f]:=by
      cases w with
      |last _=>rfl
      |more h _=>rw[hs]at h;cases h
     rw[this]at z;unfold BQ;rw[<-z];exact S.oy
    |some cur'=>
     rw[hs]at l;obtain⟨rfl,I⟩:=l;refine⟨eH,i0,CB i0 ?_⟩;obtain⟨L,K,d⟩:∃L,oN N cur' L/\rest=f::L:=by
      cases w with
      |last h=>rw[hs]at h;cases h
      |more h h'=>rw[hs]at h;injection h with h;subst h;exact⟨_,h',i0⟩
     have j:Sp i p [bm 22 o 1 aX (bR 1 ak) ((g++[f]).map ints),ae 3 s 1 ak (ints cur')]:=I;have q:cur'∈mg k 0 N:=by
      rw[<-z,d];have:cur'∈L:=by cases K<;>simp
      simp[this]
     have m:=Bt q;have ad:ii g+2<=ii (mg k 0 N):=by
      rw[<-z,d];have:1<=ii L:=by cases K<;>simp
      simp;omega
     refine(jy s _ p (j.seq 1 i0 λ_=>rfl) (by rw[kH];omega)).mono ?_;rintro v ah ⟨U,rfl,D⟩;have Q:=(j.bN D).Hb 0 i0 λ_=>rfl;refine⟨U,i0,?_⟩;refine Q.mO aj 1 0 i5 (E:=bR 1 ak) (a:=U) (b:=ints cur') i0 i0 (⟨_,_,i0,i0,i0,i0,i0,i0⟩:bI C.toAi 75 22 1 [xH ez 0 0] 24) i0 i5 (λ_=>rfl) jb i0 i5 i7 λo' Z O=>?_;refine⟨(o',g++[f],cur',L),i0,⟨by dsimp only;rw[<-z,d];simp,K,m.1,λy F=>(m.2.1 y F).2,?_⟩,by dsimp only;rw[d];simp⟩;have H:=O.nw
     try dsimp only
     rw[qM (l₁:=g++[f])];exact H
def EU(W:cu)(a:aB):Nat->aB
 |0=>[]
 |k+1=>EU W a k++if(k:Int)∈a then[]else W.getD k []
def Iv(p:Pm)(seed:Int)(W:cu)(a:aB):Nat:=EJ p seed (EU W a W.length)
theorem UB(p:Pm)(seed:Int)(a b:aB):cW p seed (a++b)=cW p seed a++cW p seed b:=by unfold cW;split<;>simp
theorem KY(p:Pm)(seed:Int)(W:cu)(a:aB):∀k,lh (W.map (cW p seed)) a k=cW p seed (EU W a k)
 |0=>by simp[lh,EU,cW]
 |k+1=>by
  rw[lh,EU,UB,KY p seed W a k];congr 1;by_cases h:(k:Int)∈a
  ·rw[f9 h,f9 h];simp[cW]
  ·rw[g0 h,g0 h,qd,qL,qd];cases W[k]? with
   |none=>simp[cW]
   |some l=>rfl
theorem XK{p:Pm}(b:bS p=eH)(seed:Int)(a:aB):ga p seed a=bU p.1.toNat p.2.1.toNat++cW p seed a:=by unfold ga cW;rw[f9 b,f9 b]
def LU(p:Pm)(seed:Int)(W:cu)(t:Nat):Option (aB):=(BQ W.length t).find? λg=>decide ((Iv p seed W g:Int)≠bX p)
def gK(p:Pm)(seed:Int)(W:cu)(t:Int):aB×Bool×Int:=
 if bS p then
  if 0<=t/\t<=ii W/\W.length<=64 then
   if lN W.length t>4096 then([],eL,13)
   else match LU p seed W t.toNat with
    |some g=>(g,eH,0)
    |none=>([],eL,0)
  else([],eL,1)
 else([],eL,1)
theorem JK(K H:Nat):aV (K+H) (bU K H):=λr a=>by
 obtain⟨i,_,rfl⟩:=qx.1 a;exact tk _ _ _
theorem KZ{α:Type}(f:α->Bool)(l:List α){k:Nat}(b:k<ii l)(a:(l.take k).find? f=ez):(l.take (k+1)).find? f=if f l[k]then dB l[k]else ez:=by rw[aD _ _ b,List.find?_append,a,Option.none_or,List.find?_cons];cases f l[k]<;>rfl
theorem XL{α:Type}(f:α->Bool)(l:List α){k:Nat}{x:α}(h:(l.take k).find? f=dB x):l.find? f=dB x:=by have:l=l.take k++l.drop k:=(qA k l).symm;rw[this,List.find?_append,h];rfl
theorem Iw(p:Pm)(seed:Int)(w:Sl)(W:cu)(t:Int)(h:f8)(hW:dM (bv (bR 1 ak) 1 aX) h w W)(hl:ii W<=2^20)(hr:∀l∈W,ii l<=2^20)(ht:(0:Int)<=0):
  an xQ 142 #[jQ p,xG xO seed,w,xG xM t] h λv h'=>∃r:Sl,v=.tuple #[r,xK (gK p seed W t).2.1,xG xM (gK p seed W t).2.2]/\Sp h h' [EA (bR 1 ak) r (gK p seed W t).1]:=by
 refine ts Tryz.func142 ?_ (.two .n (.two .n (.two .n (.two .n (.two .n (.two .n (.two (.two .n (.inn (.loop [(40,aS)] [(15,16),(40,48)] .n))) (.two .n (.two (.two .n (.inn (.loop [(54,aS)] [(8,11),(18,19),(54,66)] .n))) .n))))))))) (args:=[p,(xG xO (seed:Int)),w,(t:Int)]);have a3:=bv.len hW;have j:∀{h1:f8},aN (λb=>b<h.size) h h1->Sp h h1 [EA (bR 1 ak) ⟨ez,0,0⟩ []]:=λB=>.one B (Seq.nil _ _ _ _ _ _);refine(Sp.refl h).boxed λa h1 H1=>?_;refine⟨p,(H1.box 0 i0).aE _ i0,(eF p h1).mono ?_⟩;rintro v h2 ⟨rfl,R2⟩;have H2:=H1.comp R2;refine⟨_,i0,aQ (λe=>?_) λe=>?_⟩
 ·refine⟨⟨ez,0,0⟩,?_,?_⟩<;>(unfold gK;rw[g0 lb])
  exact j H2.af
 ·have B:bS p=eH:=e;refine(OR (w.len:Int) t h2 i4 ht).mono ?_;intro v h3 G;unfold Eb at G;rw[a3]at G;have O:(0<=((ii W:Nat):Int)/\((ii W:Nat):Int)<=64/\0<=t/\t<=((ii W:Nat):Int))↔(0<=t/\t<=ii W/\W.length<=64):=i4
  by_cases I:0<=t/\t<=ii W/\W.length<=64
  ·rw[f9 (O.2 I)]at G;by_cases K:lN W.length t>4096
   ·rw[f9 K]at G;obtain⟨rfl,rfl⟩:=G;refine⟨(⟨ez,0,0⟩,13),i0,bx (λ_=>?_) λe=>j1⟩;refine⟨⟨ez,0,0⟩,?_,?_⟩<;>(unfold gK;rw[f9 B,f9 I,f9 K])
    exact j H2.af
   ·rw[g0 K]at G;obtain⟨r,rfl,R3⟩:=G;refine⟨(r,0),i0,bx (λe=>absurd i0 e) λ_=>?_⟩
    try dsimp only
    rw[qk]at R3;have wR:gK p seed W t=match LU p seed W t.toNat with|some g=>(g,eH,0)|none=>([],eL,0):=by unfold gK;rw[f9 B,f9 I,g0 K]
    obtain⟨L,Y⟩:∃L,L=BQ W.length t.toNat:=⟨_,rfl⟩
    rw[<-Y]at R3;have bd:ii L<=4096:=by
     have h6:lN (ii W:Int) t=((min (ch W.length t.toNat) 4097:Nat):Int):=by unfold lN;rw[f9 (O.2 I)];rfl
     rw[h6]at K;rw[Y,BQ,qu,Gb _ _ 0 i4,Nat.sub_zero];omega
    have H3:Sp h h3 [ac a 36 [xG xM p.1,xG xM p.2.1,xG xM p.2.2],bm 22 r 1 aX (bR 1 ak) L]:=H2.comp R3;have pp:=(cg p).1 B;have a2:bX p=p.1+p.2.1:=pv B;obtain⟨n,hn⟩:∃n:Nat,bX p=n:=⟨(bX p).toNat,i4⟩
    have u:n<=64:=i4
    refine⟨p,(H3.box 0 i0).aE _ i0,(jV p h3).mono ?_⟩;rintro v h4 ⟨rfl,R4⟩;have H4:=H3.up R4.af;refine⟨_,i0,(oU h4).mono ?_⟩;rintro v h5 ⟨f,rfl,R5⟩;have H5:=H4.bN R5;rw[hn];refine⟨dB f,i0,(Lz f n h5 u).mono ?_⟩;rintro v h6 ⟨J,rfl,R6⟩;have H6:Sp h h6 [ig J f n [],ac f 308 cR,ac a 36 [xG xM p.1,xG xM p.2.1,xG xM p.2.2],bm 22 r 1 aX (bR 1 ak) L]:=H5.bN R6;refine⟨dB J,i0,p,(H6.box 2 i0).aE _ i0,(rK p h6).mono ?_⟩;rintro v h7 ⟨Z,rfl,R7⟩;rw[f9 B]at R7;obtain⟨A,H⟩:∃A,A=bU p.1.toNat p.2.1.toNat:=⟨_,rfl⟩
    rw[<-H]at R7;have S:aV n A:=by have:=JK p.1.toNat p.2.1.toNat;rw[H,show n=p.1.toNat+p.2.1.toNat by omega];exact this
    have a9:ii A<=4:=by rw[H];simp[bU];omega
    have H7:Sp h h7 [ig J f n [],ac f 308 cR,ac a 36 [xG xM p.1,xG xM p.2.1,xG xM p.2.2],bm 22 r 1 aX (bR 1 ak) L,bm 58 Z 1 aX (bR 1 aw) A]:=(H6.comp R7).LJ 4 i0;have X:∀{M' A':aI},Bn n M' A'->ii M'<=64:=λx=>by have:=x.len;have:=oH x.evenA;omega
    refine⟨Z,i0,?_⟩;refine aq (λk:Nat=>(k:Int)) (λk h'=>k<=ii A/\∃M,Bn n M (A.take k)/\Sp h h' [ig J f n M,ac f 308 cR,ac a 36 [xG xM p.1,xG xM p.2.1,xG xM p.2.2],bm 22 r 1 aX (bR 1 ak) L,bm 58 Z 1 aX (bR 1 aw) A]) (λk=>ii A-k) 0 i0 ⟨i4,[],by simpa using aev n,H7⟩ ?_;rintro k h8 ⟨hk,M,o,R⟩;have a8:=(R.Mz 4 i0).1;refine ag (λe2=>?_) (λe2=>?_)
    ·have c:k<ii A:=i4
     refine bv.ng (R.JZ 4 i0 λ_=>rfl) k i0 c λx hx=>?_;refine(Cp J f n M x _ R (St.dN 0 i0 λh' y=>y.1) hx (S _ (qf _)) u o.even o.lead (X o)).mono ?_;rintro v h9 ⟨⟨b,rfl⟩,H9⟩;refine⟨b,i0,⟨k+1,j0,⟨i4,_,?_,H9⟩,i4⟩⟩;rw[aD _ _ c];exact Wd o (S _ (qf c))
    ·rw[qg i4]at o;refine⟨p,(R.box 2 i0).aE _ i0,(XJ p seed w W h8 (dM.up hW R.af) hl hr).mono ?_⟩;rintro v h9 ⟨P,rfl,R9⟩;have H9:=R.comp R9;refine⟨P,i0,?_⟩;have ax:∀m∈W.map (cW p seed),aV n m/\m.length<=2^20:=λm K=>by
      obtain⟨l,ah,rfl⟩:=qx.1 K;refine⟨?_,q9 (Iu p seed l) (hr l ah)⟩;have:=QJ p seed l;rw[hn]at this;exact this
     let d:aB->Bool:=λg=>decide ((Iv p seed W g:Int)≠bX p);have wI:LU p seed W t.toNat=L.find? d:=by unfold LU;rw[<-Y]
     have a7:=(H9.Mz 3 i0).1;refine aq (λk:Nat=>(k:Int)) (λk h'=>k<=ii L/\(L.take k).find? d=ez/\Sp h h' [ig J f n M,ac f 308 cR,ac a 36 [xG xM p.1,xG xM p.2.1,xG xM p.2.2],bm 22 r 1 aX (bR 1 ak) L,bm 58 Z 1 aX (bR 1 aw) A,bm 43 P 1 aX Ea (W.map (cW p seed))]) (λk=>ii L-k) 0 i0 ⟨i4,i9,H9⟩ ?_;rintro k ao ⟨a6,F,s⟩;refine ag (λe3=>?_) (λe3=>?_)
     ·have c:k<ii L:=i4
      refine bv.agk (s.JZ 3 i0 λ_=>rfl) k i0 c λad x ay Q hx=>?_;obtain⟨am,hb,a1⟩:=ig.rd s 0 rfl;have a0:L[k].length<=2^30:=by
       have a4:L[k]∈BQ W.length t.toNat:=by have h0:L[k]∈L:=qf c;generalize L[k]=y at h0;rw[Y]at h0;exact h0
       obtain⟨g,hg,ap⟩:=qx.1 a4;have:=(Bt hg).1;rw[<-ap,kH,this];have:=I.2.1;have:=I.2.2;omega
      refine(QK J f n M A am P x (W.map (cW p seed)) L[k] ao hb a1 (s.box 1 i0) (s.JZ 5 i0 λ_=>rfl) hx u o ax i7 a0).mono ?_;rintro v bb ⟨rfl,V⟩;have ab:(decide (bY (A++lh (W.map (cW p seed)) L[k] (W.map (cW p seed)).length)=n))=!d L[k]:=by
       rw[KY,qu,H,<-XK B];show _=!decide ((Iv p seed W L[k]:Int)≠bX p);rw[hn];unfold Iv EJ;by_cases hh:bY (ga p seed (EU W L[k] W.length))=n
       ·simp[hh]
       ·rw[hU hh,g9 i4];rfl
      rw[ab];have T:=s.up V.af;refine⟨_,i0,aQ (λe4=>?_) λe4=>?_⟩
      ·have N:d L[k]=eH:=by simpa using e4
       have U:=KZ d L c F;rw[f9 N]at U;have z:gK p seed W t=(L[k],eH,0):=by rw[wR,wI,XL d L U]
       refine⟨x,by rw[z],?_⟩;rw[z];have a5:=T.Jd 3 i0 λ_=>rfl;have E:=od Q V.af;have al:=a5.dX (D:=EA (bR 1 ak) x L[k]) 3 i0 λq hq=>bv.pick hq k c ay E;exact al.take 3 λi A' hi=>by cases i with|zero=>exact hi|succ i=>simp at hi
      ·have N:d L[k]=eL:=by simpa using e4
       have U:=KZ d L c F;rw[N]at U;exact⟨k+1,j0,⟨i4,U,T⟩,i4⟩
     ·rw[qg i4]at F;have z:gK p seed W t=([],eL,0):=by rw[wR,wI,F]
      refine⟨⟨ez,0,0⟩,by rw[z],?_⟩;rw[z];exact j s.af
  ·rw[g0 λhh=>I (O.1 hh)]at G;obtain⟨rfl,rfl⟩:=G;refine⟨(⟨ez,0,0⟩,1),i0,bx (λ_=>?_) λe=>j1⟩;refine⟨⟨ez,0,0⟩,?_,?_⟩<;>(unfold gK;rw[f9 B,g0 I])
   exact j H2.af
section
variable {pw:eX}
end
theorem Ec(a:jq):a&&&1#32=0#32∨a&&&1#32=1#32:=by
 have h:((a&&&1#32).toNat)=a.toNat%2:=by rw[BitVec.toNat_and];exact Nat.and_one_is_mod _
 rcases Nat.mod_two_eq_zero_or_one a.toNat with e|e
 ·left;apply wD;rw[h,e];rfl
 ·right;apply wD;rw[h,e];rfl
theorem jx{a:jq}(h:a&&&1#32=0#32):jC a=a>>>1:=by unfold jC;rw[g0 (by rw[h];decide)]
theorem lG{a:jq}(h:a&&&1#32=1#32):jC a=(a>>>1)^^^3988292384#32:=by unfold jC;rw[f9 h]
theorem OS(a b c:jq):a^^^b^^^c=a^^^c^^^b:=by rw[wB,BitVec.xor_comm b c,<-wB]
theorem UC(a b:jq):jC (a^^^b)=jC a^^^jC b:=by
 have e:(a^^^b)&&&1#32=(a&&&1#32)^^^(b&&&1#32):=by apply BitVec.eq_of_getLsbD_eq;intro i _;rw[xu,BitVec.getLsbD_xor,BitVec.getLsbD_xor,xu,xu,Bool.and_xor_distrib_right]
 have s:(a^^^b)>>>1=(a>>>1)^^^(b>>>1):=BitVec.ushiftRight_xor_distrib a b 1;rcases Ec a with ha|ha<;>rcases Ec b with hb|hb
 ·rw[jx ha,jx hb,jx o8,s]
 ·rw[jx ha,lG hb,lG o8,s,wB]
 ·rw[lG ha,jx hb,lG o8,s,OS]
 ·rw[lG ha,lG hb,jx o8,s,<-wB,OS _ 3988292384#32,wB _ 3988292384#32 3988292384#32,y6,xo]
theorem QL{a:jq}(h:jC a=0#32):a=0#32:=by
 rcases Ec a with ha|ha
 ·rw[jx ha]at h;apply wD;have c:=congrArg xD h;have b:=congrArg xD ha;rw[ve,yX]at c;have h3:(a&&&1#32).toNat=a.toNat%2:=by rw[BitVec.toNat_and];exact Nat.and_one_is_mod _
  rw[h3]at b;simp at c b⊢;omega
 ·rw[lG ha]at h;exfalso;have c:a>>>1=3988292384#32:=by have:=congrArg (λz=>z^^^3988292384#32) h;simp only[wB,y6,xo,xp]at this;exact this
  have b:=congrArg xD c;rw[ve,yX]at b;have:=a.isLt;simp at b;omega
theorem nv:∀(n:Nat) (a b:jq),dV n (a^^^b)=dV n a^^^dV n b
 |0,_,_=>rfl
 |n+1,a,b=>by unfold dV;rw[nv n,UC]
theorem Ed:∀(n:Nat) {a:jq},dV n a=0#32->a=0#32
 |0,_,h=>h
 |n+1,_,h=>Ed n (QL h)
theorem aax{a b:jq}(h:a^^^b=0#32):a=b:=by have:=congrArg (λz=>z^^^b) h;simp only[wB,y6,xo,xp]at this;exact this
theorem Fz{n:Nat}{a b:jq}(h:dV n a=dV n b):a=b:=
 aax (Ed n (by rw[nv,h,y6]))
theorem pY:∀(m n:Nat) (a:jq),dV (m+n) a=dV m (dV n a)
 |0,n,a=>by rw[Nat.zero_add];rfl
 |m+1,n,a=>by rw[show m+1+n=(m+n)+1 by omega];show jC (dV (m+n) a)=jC (dV m (dV n a));rw[pY m n a]
theorem Ix:∀(n x:Nat),x<2^(32-n)->n<=32->dV n (wG 32 (x*2^n))=wG 32 x
 |0,x,_,_=>by rw[Nat.pow_zero,wb];rfl
 |n+1,x,h,hn=>by
  have b:x*2<2^(32-n):=by
   have:2^(32-n)=2^(32-(n+1))*2:=by rw[<-Nat.pow_succ];congr 1;omega
   omega
  show jC (dV n (wG 32 (x*2^(n+1))))=_;rw[show x*2^(n+1)=x*2*2^n by rw[Nat.pow_succ,Nat.mul_assoc,vT 2],Ix n (x*2) b i4];have a:x*2<2^32:=qT b (Nat.pow_le_pow_right i5 i4);rw[jx]
  ·apply wD;rw[ve,wP,wP,wk a,wk i4,yX];omega
  ·apply wD;rw[BitVec.toNat_and,wP,wk a];show(x*2)&&&1=0;rw[Nat.and_one_is_mod];omega
def OT(a b c d:UInt8):jq:=wG 32 (a.toNat*2^0)^^^wG 32 (b.toNat*2^8)^^^wG 32 (c.toNat*2^16)^^^wG 32 (d.toNat*2^24)
theorem aay(s:jq)(a b c d:UInt8):lT (lT (lT (lT s a) b) c) d=dV 32 (s^^^OT a b c d):=by
 have k:=a.toNat_lt;have h:=b.toNat_lt;have i:=c.toNat_lt;have j:=d.toNat_lt;have e:∀(n:Nat) (x:UInt8),n<=24->wG 32 x.toNat=dV n (wG 32 (x.toNat*2^n)):=λn x g=>by
  have f:=x.toNat_lt;refine(Ix n x.toNat ?_ i4).symm;exact qT (show x.toNat<2^8 from f) (Nat.pow_le_pow_right i5 i4)
 unfold lT OT;rw[e 8 b i5,<-nv,<-pY,e 16 c i5,<-nv,<-pY,e 24 d i5,<-nv,<-pY];simp only[Nat.pow_zero,wb,wB]
theorem JL(a b c d:UInt8):(OT a b c d).toNat=a.toNat+b.toNat*256+c.toNat*65536+d.toNat*16777216:=by
 have o:=a.toNat_lt;have l:=b.toNat_lt;have m:=c.toNat_lt;have n:=d.toNat_lt;have e:∀(k x y:Nat),x<2^k->x^^^(y*2^k)=x+y*2^k:=λk x y g=>by
  rw[vT y];have j:=Nat.two_pow_add_eq_or_of_lt g y;have h:x^^^(2^k*y)=(2^k*y)|||x:=by
   apply Nat.eq_of_testBit_eq;intro i;rw[Nat.testBit_xor,Nat.testBit_or,Nat.testBit_two_pow_mul];by_cases f:k<=i
   ·have:x.testBit i=eL:=Nat.testBit_lt_two_pow (qT g (Nat.pow_le_pow_right i5 f));simp[this]
   ·simp[f]
  rw[h,<-j];omega
 unfold OT;rw[BitVec.toNat_xor,BitVec.toNat_xor,BitVec.toNat_xor,wP,wP,wP,wP];rw[wk i4,wk i4,wk i4,wk i4];rw[Nat.pow_zero,wb,e 8 _ _ i4,e 16 _ _ i4,e 24 _ _ i4]
theorem adm{a b c d g i e f:UInt8}(h:OT a b c d=OT g i e f):a=g/\b=i/\c=e/\d=f:=by have j:=congrArg xD h;rw[JL,JL]at j;have:=a.toNat_lt;have:=b.toNat_lt;have:=c.toNat_lt;have:=d.toNat_lt;have:=g.toNat_lt;have:=i.toNat_lt;have:=e.toNat_lt;have:=f.toNat_lt;refine⟨wy.1 ?_,wy.1 ?_,wy.1 ?_,wy.1 ?_⟩<;>omega
theorem OU:∀{q:aP} {s t:jq},q.foldl lT s=q.foldl lT t->s=t
 |[],_,_,h=>h
 |x::q,s,t,h=>by
  have:=Fz (OU (q:=q) h);have:=congrArg (λz=>z^^^wG 32 x.toNat) this;simp only[wB,y6,xo]at this;exact this
theorem XM{p q:aP}{a b c d g i e f:UInt8}(h:kJ (p++([a,b,c,d]++q))=kJ (p++([g,i,e,f]++q))):[a,b,c,d]=[g,i,e,f]:=by unfold kJ at h;rw[zB,zB,zB,zB]at h;have h:=OU h;simp only[zx,yy]at h;rw[aay,aay]at h;have h:=Fz h;have h:=congrArg (λz=>List.foldl lT 4294967295#32 p^^^z) h;simp only[<-wB,y6,xp]at h;obtain⟨rfl,rfl,rfl,rfl⟩:=adm h;rfl
theorem adn(s:jq):∃a b c d,kT s=[a,b,c,d]/\OT a b c d=s:=by
 refine⟨_,_,_,_,i0,?_⟩;apply wD;rw[JL];have m:=s.isLt;have e:∀n:Int,((b8 n).toNat:Int)=n%256:=λn=>by have:=tm n;omega
 have f:∀k:Nat,zG (s.toNat:Int) (2^(8*k))=((s.toNat/2^(8*k):Nat):Int):=λk=>by
  rw[Int.fdiv_eq_ediv_of_nonneg _ (by exact_mod_cast zb _)];norm_cast
 have g:∀k:Nat,(b8 (zG (s.toNat:Int) (2^(8*k)))).toNat=s.toNat/2^(8*k)%256:=λk=>by
  have:=e (zG (s.toNat:Int) (2^(8*k)));rw[f k]at this;rw[f k];omega
 have j:=g 0;have h:=g 1;have i:=g 2;have l:=g 3;simp only[Nat.mul_zero,wb,Nat.pow_zero,Nat.div_one,Nat.reduceMul,Nat.reducePow]at j h i l;simp only[Nat.mul_zero,wb,Nat.reduceMul];rw[j,h,i,l];omega
theorem ado(x:aP):kJ (x++kT (lM x))=dV 32 4294967295#32:=by obtain⟨a,b,c,d,f,e⟩:=adn (lM x);rw[f];unfold kJ;rw[zB];simp only[zx,yy];rw[aay,e];unfold lM kJ;congr 1;rw[BitVec.xor_comm 4294967295#32,<-wB,y6,xp]
theorem La{c:aP}{k:Int}{x:aP}(h:eV c=dB (k,x)):ii c=64/\c=c.take 59++(kT (lM (c.take 59))++[165]):=by
 unfold eV at h;split at h
 ·rename_i d;obtain⟨b,a⟩:=d;refine⟨b,?_⟩;unfold dW at a;split at a
  ·rename_i e;have g:=tl (kind:=((c.getD 3 0).toNat:Int)) e.2.2;have f:c.take 59=dJ ((c.getD 3 0).toNat:Int) ((c.drop 4).take 55):=by
    conv=>lhs;rw[<-a]
    rw[qn,wv i4,qg i4]
   rw[f];rw[<-qn];exact a.symm
  ·rw[<-a]at b;simp at b
 ·cases h
theorem XN{l:aP}{p:Nat}(h:p+4<=ii l)(a:Int):∃u v,ii u=4/\v.length=4/\l=l.take p++(u++l.drop (p+4))/\fi l p a 4=l.take p++(v++l.drop (p+4)):=by
 have b:∀k,k<=4->(fi l p a k).take p=l.take p/\(fi l p a k).drop (p+4)=l.drop (p+4):=by
  intro k
  induction k with
  |zero=>exactλ_=>⟨i0,i0⟩
  |succ k ih=>
   intro j;obtain⟨f,e⟩:=ih i4;unfold fi;rw[List.take_set_of_le i4,List.drop_set_of_lt i4];exact⟨f,e⟩
 have d:∀m:aP,ii m=ii l->m=m.take p++((m.drop p).take 4++m.drop (p+4)):=λm n=>by
  rw[<-List.drop_drop,qA,qA]
 obtain⟨i,g⟩:=b 4 (qm _);have c:=uU l p a 4;refine⟨(l.drop p).take 4,((fi l p a 4).drop p).take 4,i7,by simp[c];omega,d l i0,?_⟩;rw[<-i,<-g];exact d _ c
theorem UD{c:aP}{k:Int}{x:aP}(h:eV c=dB (k,x)){a b:Int}(H:0<=a/\a<=60)(e:mY c a b≠c):eV (mY c a b)=ez:=by
 obtain⟨E,o⟩:=La h;cases hb:eV (mY c a b)with
 |none=>rfl
 |some y=>
  exfalso;obtain⟨f,d⟩:=La (k:=y.1) (x:=y.2) hb;obtain⟨i,s⟩:∃i,i=mY c a b:=⟨_,rfl⟩
  rw[<-s]at f d e;by_cases g:i.take 59=c.take 59
  ·apply e;rw[o,d,g,<-o]
  ·obtain⟨p,rfl⟩:∃p:Nat,a=p:=⟨a.toNat,i4⟩
   obtain⟨u,v,r,q,A,m⟩:=XN (l:=c) (p:=p) i4 b;have m:i=c.take p++(v++c.drop (p+4)):=by rw[s];unfold mY;rw[qk];exact m
   have G:p<=59:=by refine Decidable.byContradiction λI=>g ?_;rw[m,wv i7,List.take_take,wi i4]
   have D:∀z:aP,z=z.take 59++(kT (lM (z.take 59))++[165])->ii z=64->kJ (z.take 63)=dV 32 4294967295#32:=λz n F=>by
    have:z.take 63=z.take 59++kT (lM (z.take 59)):=by
     conv=>lhs;rw[n]
     rw[<-qn,wv (by simp[AY];omega),qg (by simp[AY];omega)]
    rw[this,ado]
   have w:∀z:aP,ii z=4->(c.take p++(z++c.drop (p+4))).take 63=c.take p++(z++(c.drop (p+4)).take (59-p)):=λz n=>by
    have j:ii (c.take p)=p:=i7
    generalize c.take p=P at j⊢;rw[List.take_append,qg i4,List.take_append,qg i4,j,n];congr 3;omega
   have t:=D c o E;have B:=D i d f;rw[m,w v q]at B;rw[A,w u r]at t
   match u,v,r,q with
   |[u0,u1,u2,u3],[v0,v1,v2,v3],_,_=>
    have:=XM (t.trans B.symm);apply e;rw[m,<-this,<-A]
structure Wn (p:Pm) (m:aA) (C:Int->aP) (ds:aF):Prop where
 sto:Sto m C ds
 live:bu ds m.drives≠[]
 dr:∀k∈m.drives,k<9
 pe:m.p=p
 wt:∀k d,aU ds k=dB d->d.wait=0
section
variable {p:Pm} {m:aA} {C:Int->aP} {ds:aF}
theorem UE{l:aB}(h:l.Pairwise (·<·)){s:Int}(i:s∉l):(iu (l++[s])).Pairwise (·<·):=by have c:(l++[s]).Nodup:=List.nodup_append.2 ⟨h.imp λh e=>i4,i9,λa j b d e=>i (by rw[<-qp.1 d,<-e];exact j)⟩;have g:(iu (l++[s])).Perm (l++[s]):=List.mergeSort_perm _ _;have f:(iu (l++[s])).Pairwise (λa b=>a≠b):=g.nodup_iff.2 c;exact(Qw.CR _).imp₂ (λa b=>i4) f
def uV(s:Sl)(n:Nat):Sl:=⟨if s.cap=n then s.ptr else s.ptr.map (·.add (n*1)),s.len-n,s.cap-n⟩
theorem Iy{a:eX}{s:Sl}{f:Bool}{n:Int}(c:0<=n)(g:s.len<=s.cap)(H:aa B h0 h (ac a 400 [s,xK f]::As)):
  an xQ 339 #[xI (dB a),xG xM n] h λv h'=>
   (n<=s.len/\v=xH s.ptr n.toNat s.cap/\aa B h0 h' (ac a 400 [.slice (uV s n.toNat).ptr (uV s n.toNat).len (uV s n.toNat).cap,xK f]::As))∨
   ((s.len:Int)<n/\v=xH ez 0 0/\aa B h0 h' (ac a 400 [s,xK eH]::As)):=by
 refine ts Tryz.func339 ?_;refine⟨a,i0,s,(H.box 0 i0).cell0 i0,ag (λe=>?_) λe=>?_⟩
 ·refine⟨a,i0,H.store aj 0 i0 i0 1 [xK eH] i0 i0 i0 i9 λd b=>.inr ⟨e,i0,b⟩⟩
 ·refine⟨a,i0,s,(H.box 0 i0).cell0 i0,⟨c,i4⟩,a,i0,s,(H.box 0 i0).cell0 i0,⟨c,i4⟩,a,i0,?_⟩;refine H.ja aj 0 i0 i0 [.slice (uV s n.toNat).ptr (uV s n.toNat).len (uV s n.toNat).cap] i0 i0 i0 i9 λd b=>Or.inl ⟨i4,i0,b⟩
theorem uW(l:aP):iK l=dO l:=rfl
theorem OV{s:Sl}{l:aP}(j:Rd h s 1 aw l)(r:ii l<=4){R:wf}(q:R (xG xM (iK l)) h):
  gU (σ:=Int×Int) (λb K1 d=>
 Br (decide (b.2<((s.len:Nat):Int)))
 (∃a3:eX,(s.ptr=dB a3/\0<=b.2/\b.2<((s.len:Nat):Int))/\
 ∃g:Int,cellOf d (a3.add (b.2.toNat*1))=dB (xG xN g)/\
 (0<=(8:Int))/\
 K1 (qe xM ((qK (qG xM) (qe xM (b.1*2^min (8:Int).toNat (qG xM)))|||(qK (qG xM) (qe xM g))).toNat:Nat),qe xM (b.2+(1:Int))) d)
 (R (xG xM b.1) d)) ((0:Int),(0:Int)) h:=by
 have u:=j.len;refine aq (τ:=Nat) (λi=>(iK (l.take i),(i:Int))) (λi h'=>i<=ii l/\h'=h) (λi=>ii l-i) 0 (by simp[iK]) ⟨zb _,i0⟩ ?_;rintro i h' ⟨v,rfl⟩;refine ag (λe=>?_) (λe=>?_)
 ·have a:i<ii l:=o9
  refine j.mb i i0 a ((l.getD i 0).toNat:Int) (by rw[getD_lt a];rfl) λt m=>⟨i5,i+1,?_,⟨a,i0⟩,i4⟩
  have o:=BA (l.take i) i7;have c:=o.2.2 i7;obtain⟨n,f⟩:∃n:Nat,iK (l.take i)=(n:Int):=⟨(iK (l.take i)).toNat,by rw[uW];omega⟩
  rw[<-uW,f]at c;have k:=(l.getD i 0).toNat_lt;show(_,_)=(_,_)
  rw[f,Ny n _ i4 k,ai _];have p:l.take (i+1)=l.take i++[l.getD i 0]:=by rw[getD_lt a];simp
  rw[p,uD,f];rfl
 ·have:i=ii l:=o9
  subst this;simpa using q
def lH(s:Sl)(n:Int):Sl:=if n<=s.len then uV s n.toNat else s
theorem XO{a:eX}{s:Sl}{f:Bool}{n:Int}{l:aP}(g:0<=n)(m:n<=4)(j:s.len<=s.cap)(c:∀i h',aa B h0 h' (ac a 400 i::As)->Rd h' s 1 aw l)
  (H:aa B h0 h (ac a 400 [s,xK f]::As)):
  an xQ 324 #[xI (dB a),xG xM n] h λv h'=>
   v=xG xM (bP (l,f) n).1/\aa B h0 h' (ac a 400 [.slice (lH s n).ptr (lH s n).len (lH s n).cap,xK (bP (l,f) n).2.2]::As):=by
 have d:=(c _ _ H).len;refine ts Tryz.func324 ?_ (.two .n (.two .n (.two (.two .n (.inn (.loop [(5,aS),(12,aS)] [(5,6),(7,8),(12,22)] .n))) .n)));refine(Iy g j H).mono ?_;rintro v o (⟨e,rfl,H1⟩|⟨e,rfl,H1⟩)
 ·have k:=(c _ _ H1).take n.toNat i4;refine⟨⟨s.ptr,n.toNat,s.cap⟩,i0,?_⟩;refine OV (s:=⟨s.ptr,n.toNat,s.cap⟩) (R:=λv h'=>v=xG xM (bP (l,f) n).1/\aa B h0 h' (ac a 400 [.slice (lH s n).ptr (lH s n).len (lH s n).cap,xK (bP (l,f) n).2.2]::As)) k i7 ?_;have b:gx (l,f) n=(l.take n.toNat,(l.drop n.toNat,f)):=by unfold gx;rw[f9 (show n<=((ii l:Nat):Int)by omega)]
  unfold bP lH;rw[b,f9 e];exact⟨i0,H1⟩
 ·refine⟨⟨ez,0,0⟩,i0,?_⟩;refine OV (s:=⟨ez,0,0⟩) (l:=[]) (R:=λv h'=>v=xG xM (bP (l,f) n).1/\aa B h0 h' (ac a 400 [.slice (lH s n).ptr (lH s n).len (lH s n).cap,xK (bP (l,f) n).2.2]::As)) ?_ i9 ?_
  ·exact Seq.nil _ _ _ _ _ _
  ·have b:gx (l,f) n=([],(l,eH)):=by unfold gx;rw[g0 (show¬n<=((ii l:Nat):Int)by omega)]
   unfold bP lH;rw[b,g0 i4];exact⟨i0,H1⟩
theorem UF(l:aP):0<=iK l/\iK l<256^ii l:=by
 have c:∀(n:Nat) (l:aP),ii l=n->0<=iK l/\iK l<256^n:=by
  intro n
  induction n with
  |zero=>intro l b;have:l=[]:=List.length_eq_zero_iff.1 b;subst this;simp[iK]
  |succ n ih=>
   intro l b;have a:l≠[]:=λh=>by rw[h]at b;cases b
   have e:=yE a;have:=ih l.dropLast (by rw[List.length_dropLast];omega);rw[<-e,uD,Int.pow_succ];have:=(l.getLast a).toNat_lt;omega
 exact c _ l i0
theorem mZ(r:aP×Bool)(k:Nat):0<=(bP r k).1/\(bP r k).1<256^k:=by
 unfold bP gx;split
 ·have:=UF (r.1.take k);rename_i h;rw[qO,wi i4]at this;simpa using this
 ·have:(0:Int)<256^k:=Int.pow_pos i5;simp[iK];omega
theorem countP_le{p:Int×Int×Int}{n:Int}(b:0<=n):0<=countP p n/\countP p n<=n:=by
 unfold countP;by_cases h:(bS p&&decide (0<n))=eH
 ·rw[f9 h];rw[Bool.and_eq_true,decide_eq_true_eq]at h;have e:=(cg p).1 h.1;have a:0<p.1*p.2.2:=Int.mul_pos i4 i4;have d:0<=(n-1)/(p.1*p.2.2):=Int.ediv_nonneg i4 i4;have c:(n-1)/(p.1*p.2.2)<=n-1:=Int.ediv_le_self _ i4;omega
 ·rw[g0 h];omega
end
variable {l:aP} {f:Bool}
section
variable {n:Int}
abbrev gg(s:Sl)(f:Bool):aR:=[s,xK f]
structure kM (B:av) (h0:f8) (As:List HP) (s:Sl) (l:aP):Prop where
 cap:s.len<=s.cap
 st:St B h0 As λh=>Rd h s 1 aw l
theorem kM.next(O:kM B h0 As s l)(b:s.len=ii l)(a:0<=n):kM B h0 As (lH s n) (gx (l,f) n).2.1:=by
 unfold lH gx;by_cases e:n<=(s.len:Int)
 ·rw[f9 e,f9 (show n<=((ii l:Nat):Int)by omega)];exact⟨by unfold uV;(try dsimp only);have:=O.cap;omega,O.st.mono λh x=>Seq.drop x n.toNat O.cap⟩
 ·rw[g0 e,g0 (show¬n<=((ii l:Nat):Int)by omega)];exact O
theorem iD(b:List HP)(d:0<=n)(g:n<=4)(O:kM B h0 As s l)(H:aa B h0 h (ac a 400 (gg s f)::(b++As))):
  an xQ 324 #[xI (dB a),xG xM n] h λv h'=>v=xG xM (bP (l,f) n).1/\∃e,kM B h0 As e (bP (l,f) n).2.1/\aa B h0 h' (ac a 400 (gg e (bP (l,f) n).2.2)::(b++As)):=by
 have i:=(O.st.at (_::b) H).len;refine(XO d g O.cap (λj h' c=>O.st.at (_::b) c) H).mono ?_;rintro v h' ⟨rfl,c⟩;exact⟨i0,_,O.next i d,c⟩
theorem XP(c:List HP)(d:0<=n)(O:kM B h0 As s l)(H:aa B h0 h (ac a 400 (gg s f)::(c++As))):
  an xQ 339 #[xI (dB a),xG xM n] h λv h'=>∃r:Sl,v=r/\Rd h' r 1 aw (gx (l,f) n).1/\∃g,kM B h0 As g (gx (l,f) n).2.1/\aa B h0 h' (ac a 400 (gg g (gx (l,f) n).2.2)::(c++As)):=by
 have j:=(O.st.at (_::c) H).len;refine(Iy d O.cap H).mono ?_;have i:=O.next (f:=f) j d;rintro v k (⟨e,rfl,H1⟩|⟨e,rfl,H1⟩)
 ·have b:gx (l,f) n=(l.take n.toNat,(l.drop n.toNat,f)):=by unfold gx;rw[f9 (show n<=((ii l:Nat):Int)by omega)]
  refine⟨⟨s.ptr,n.toNat,s.cap⟩,i0,?_,_,i,?_⟩
  ·rw[b];exact(O.st.at (_::c) H1).take n.toNat i4
  ·rw[b];unfold lH;rw[f9 e];exact H1
 ·have b:gx (l,f) n=([],(l,eH)):=by unfold gx;rw[g0 (show¬n<=((ii l:Nat):Int)by omega)]
  refine⟨⟨ez,0,0⟩,i0,?_,_,i,?_⟩
  ·rw[b];exact Seq.nil _ _ _ _ _ _
  ·rw[b];unfold lH;rw[g0 i4];exact H1
theorem Lb(n:Nat)(l:aP):fP n (l,eH)=([],(l,eH)):=by
 cases n<;>simp[fP]
theorem OW(n:Nat)(r:aP×Bool)(h:r.2=eL):fP (n+1) r=((bP r 1).1::(fP n (bP r 1).2).1,(fP n (bP r 1).2).2):=by show(if r.2 then _ else _)=_;rw[h];rfl
abbrev AN(p:Pm):aR:=[xG xM p.1,xG xM p.2.1,xG xM p.2.2]
abbrev rQ:aR:=[xJ ⟨#[]⟩,xG xM 0,xG xM 0,xH ez 0 0]
theorem UG(j:List HP)(p:Pm)(O:kM B h0 As s l)(H:aa B h0 h (ac a 400 (gg s f)::(j++As))):
  an xQ 325 #[xI (dB a),jQ p] h λv h'=>∃x:dD,v=xL (bh x).toArray/\∃k,kM B h0 As k (iL p (l,f)).2.1/\
   aa B h0 h' (EA ff x (iL p (l,f)).1::ac a 400 (gg k (iL p (l,f)).2.2)::(j++As)):=by
 refine ts Tryz.func325 ?_ (.two .n (.two .n (.two .n (.two (.join [] [(18,36)] (.two .n (.inn (.loop [(22,aS)] [(22,36)] .n)))) .n)))) (args:=[(dB a),p]);refine H.boxed λm h1 H1=>?_;have H1:aa B h0 h1 (ac m 36 (AN p)::ac a 400 (gg s f)::(j++As)):=H1.be;refine H1.alloc aj i0 λa2 h2 L=>?_;have L:aa B h0 h2 (ac a2 88 rQ::ac m 36 (AN p)::ac a 400 (gg s f)::(j++As)):=L.be;have L:aa B h0 h2 (ac a 400 (gg s f)::ac m 36 (AN p)::ac a2 88 rQ::(j++As)):=L.aL 3 [2,1,0];obtain⟨E,S⟩:∃q,q=bP (l,f) 1:=⟨_,rfl⟩
 have Z:=mZ (l,f) 1;refine(iD (_::_::j) i5 i5 O L).mono ?_;rintro _ h3 ⟨rfl,s1,O3,H3⟩;rw[show((1:Nat):Int)=1 from rfl]at Z;rw[<-S]at O3 H3 Z⊢;refine⟨_,i0,?_⟩;obtain⟨d,M⟩:∃q,q=gx E.2 E.1:=⟨_,rfl⟩
 refine(XP (l:=E.2.1) (f:=E.2.2) (_::_::j) Z.1 O3 H3).mono ?_;rintro _ h4 ⟨r,rfl,A,s2,O4,H4⟩;have e2:gx (E.2.1,E.2.2) E.1=d:=M.symm;rw[e2]at A O4 H4;refine⟨r,i0,EE aj ⟨_,i0,i0⟩ ⟨_,i0,i0⟩ ⟨_,i0,i0⟩ A ?_⟩;refine H4.alloc aj i0 λy h6 H6=>?_;have H6:aa B h0 h6 (ac y 88 rQ::ac a 400 (gg s2 d.2.2)::ac m 36 (AN p)::ac a2 88 rQ::(j++As)):=H6.be;refine H6.storeAll aj 0 i0 i0 [xJ ⟨d.1.toArray⟩,xG xM 0,xG xM 0,xH ez 0 0] i0 i0 i0 i0 λh7 X=>?_;have X:aa B h0 h7 (ac a 400 (gg s2 d.2.2)::ac y 88 [xJ ⟨d.1.toArray⟩,xG xM 0,xG xM 0,xH ez 0 0]::ac m 36 (AN p)::ac a2 88 rQ::(j++As)):=X.gp;obtain⟨g,P⟩:∃q,q=bP d.2 3:=⟨_,rfl⟩
 refine(iD (l:=d.2.1) (f:=d.2.2) (_::_::_::j) i5 i5 O4 X).mono ?_;rintro _ h8 ⟨rfl,s3,O8,H8⟩;have e3:bP (d.2.1,d.2.2) 3=g:=P.symm;rw[e3]at O8 H8⊢;refine⟨_,i0,?_⟩;obtain⟨b,J⟩:∃q,q=bP g.2 2:=⟨_,rfl⟩
 have V:=mZ g.2 2;rw[show((2:Nat):Int)=2 from rfl,<-J]at V;refine(iD (l:=g.2.1) (f:=g.2.2) (_::_::_::j) i5 i5 O8 H8).mono ?_;rintro _ h9 ⟨rfl,W,O9,H9⟩;have e4:bP (g.2.1,g.2.2) 2=b:=J.symm;rw[e4]at O9 H9⊢;refine⟨_,i0,?_⟩;refine H9.storeAt aj 1 i0 i0 i0 i0 i0 i9 λa0 Y=>?_;refine Y.storeAt aj 1 i0 i0 i0 i0 i0 i9 λR u=>?_;have u:aa B h0 R (ac a 400 (gg W b.2.2)::ac y 88 (bh (⟨d.1.toArray⟩,g.1,b.1,⟨ez,0,0⟩))::ac m 36 (AN p)::ac a2 88 rQ::(j++As)):=u;have G:iL p (l,f)=(⟨⟨d.1.toArray⟩,g.1,b.1,(fP (countP p b.1).toNat b.2).1⟩,(fP (countP p b.1).toNat b.2).2):=by subst S;subst M;subst P;subst J;rfl
 have a5:=countP_le (p:=p) (n:=b.1) V.1;obtain⟨N,hN⟩:∃N:Nat,countP p b.1=N:=⟨(countP p b.1).toNat,i4⟩
 rw[hN,qk]at G;have ap:N<=65536:=by have:=V.2;omega
 refine bG (λ_ h'=>∃(t k:Sl),kM B h0 As k (iL p (l,f)).2.1/\aa B h0 h' (ac a 400 (gg k (iL p (l,f)).2.2)::ae 3 t 1 ak (iL p (l,f)).1.tries::ac y 88 (bh (⟨d.1.toArray⟩,g.1,b.1,t))::ac m 36 (AN p)::ac a2 88 rQ::(j++As))) ?_ ?_
 ·refine⟨p,(u.box 2 i0).aE _ i0,b.1,(u.box 1 i0).cell i0,(su p b.1 R (by have:=V.2;omega)).mono ?_⟩;rintro _ ao ⟨rfl,al⟩;have D:=(u.up al.af).nil 3 1 ak;have D:aa B h0 ao (ac a 400 (gg W b.2.2)::ae 3 ⟨ez,0,0⟩ 1 ak []::ac y 88 (bh (⟨d.1.toArray⟩,g.1,b.1,⟨ez,0,0⟩))::ac m 36 (AN p)::ac a2 88 rQ::(j++As)):=D.be.gp;rw[hN];refine⟨_,i0,?_⟩;refine aq (λi:Nat=>(i:Int)) (λi h'=>i<=N/\∃(ts:aB) (t k:Sl) (c:aP×Bool),ts.length<=i/\fP N b.2=(ts++(fP (N-i) c).1,(fP (N-i) c).2)/\kM B h0 As k c.1/\
   aa B h0 h' (ac a 400 (gg k c.2)::ae 3 t 1 ak ts::ac y 88 (bh (⟨d.1.toArray⟩,g.1,b.1,t))::ac m 36 (AN p)::ac a2 88 rQ::(j++As))) (λi=>N-i) 0 i0 ⟨zb _,[],⟨ez,0,0⟩,W,b.2,qm _,i9,O9,D⟩ ?_
  rintro i ay ⟨hi,ts,t,k,c,a3,A,T,z⟩
  try dsimp only
  refine ag (λe=>?_) λe=>?_
  ·have K:i<N:=i4
   refine⟨a,i0,c.2,(z.box 0 i0).cell i0,bf (λeb=>?_) λeb=>?_⟩
   ·have Q:fP (N-i) c=([],c):=by
     have:c=(c.1,eH):=by rw[<-eb]
     rw[this];exact Lb _ _
    rw[Q,qF]at A;rw[A]at G;rw[G];exact⟨t,k,T,z⟩
   ·refine⟨t,(z.box 2 i0).cell i0,(iD (l:=c.1) (f:=c.2) (_::_::_::_::j) i5 i5 T z).mono ?_⟩;rintro _ ax ⟨rfl,s5,O5,H5⟩;refine⟨_,i0,⟨(H5.box 2 i0).cell i0,trivial⟩,?_⟩;refine H5.lit aj ak fR i0 [(bP c 1).1] i0 (show 1*1<=2^20 by decide) i0 λv ar o=>?_;have o:=o.be;refine⟨⟨(o.box 3 i0).cell i0,trivial⟩,?_⟩;refine o.append aj 2 i0 fR ⟨_,_,i0,i0⟩ i0 i5 (λ_=>rfl) (o.seq 0 i0 λ_=>rfl) eC i7 λU ad I=>⟨trivial,?_⟩
    have I:aa B h0 ad (ae 3 v 1 ak [(bP c 1).1]::ac a 400 (gg s5 (bP c 1).2.2)::ae 3 U 1 ak (ts++[(bP c 1).1])::ac y 88 (bh (⟨d.1.toArray⟩,g.1,b.1,t))::ac m 36 (AN p)::ac a2 88 rQ::(j++As)):=I;refine I.storeAt aj 3 i0 i0 i0 i0 i0 i9 λab F=>⟨trivial,?_⟩
    have F:aa B h0 ab (ae 3 v 1 ak [(bP c 1).1]::ac a 400 (gg s5 (bP c 1).2.2)::ae 3 U 1 ak (ts++[(bP c 1).1])::ac y 88 (bh (⟨d.1.toArray⟩,g.1,b.1,U))::ac m 36 (AN p)::ac a2 88 rQ::(j++As)):=F;refine⟨i+1,j0,⟨i4,ts++[(bP c 1).1],U,s5,(bP c 1).2,i7,?_,O5,F.rest⟩,i4⟩;have Q:N-i=(N-(i+1))+1:=i4
    rw[A,Q,OW _ _ eb];simp
  ·have K:i=N:=i4
   subst K;have Q:fP (i-i) c=([],c):=by rw[qW];rfl
   rw[Q,qF]at A;rw[A]at G;rw[G];exact⟨t,k,T,z⟩
 rintro _ a4 ⟨t,k,T,z⟩;refine⟨(⟨d.1.toArray⟩,g.1,b.1,t),(z.box 2 i0).aE _ i0,?_⟩;refine z.storeAll aj 4 i0 i0 (bh (⟨d.1.toArray⟩,g.1,b.1,t)) i0 i0 i0 i0 λah w=>?_;have w:aa B h0 ah (ac a 400 (gg k (iL p (l,f)).2.2)::ae 3 t 1 ak (iL p (l,f)).1.tries::ac y 88 (bh (⟨d.1.toArray⟩,g.1,b.1,t))::ac m 36 (AN p)::ac a2 88 (bh (⟨d.1.toArray⟩,g.1,b.1,t))::(j++As)):=w;refine⟨(⟨d.1.toArray⟩,g.1,b.1,t),(w.box 4 i0).aE _ i0,(⟨d.1.toArray⟩,g.1,b.1,t),i0,k,T,?_⟩;have am:=(w.freeze 1 i0 λ_=>rfl).aL 5 [1,0];refine am.dX 0 i0 λq hq=>?_;rw[G];rw[G]at hq;exact⟨⟨i0,i0,i0⟩,hq⟩
end
theorem bz.agx{P:Program}{s:Sem Value}{h:f8}{K1 i:Sl->f8->Prop}(a:bz P s (.one (.sc .slc)) h K1)(b:bz P s (.one (.sc .slc)) h i):bz P s (.one (.sc .slc)) h λv h'=>K1 v h'/\i v h':=by
 intro w d;obtain⟨n,j,g,l1,c,f,r⟩:=a w d;obtain⟨u,x,e,l2,x2,p,q⟩:=b w d;rw[g]at e;injection e with g1 g2
 subst g1 g2;have k:c=x2:=by
  have:=f.symm.trans p;obtain⟨l,a2,a3⟩:=c;obtain⟨o,m,t⟩:=x2;have h:Value.slice l a2 a3=Value.slice o m t:=this;injection h with c1 c2 c3
  subst c1 c2 c3;rfl
 subst k;exact⟨n,j,g,l1,c,f,r,q⟩
theorem aa.Lc{B:av}{d h:f8}{As:List HP}{y:bo}{m:aA}(a:y.1=m.seq/\y.2.1=m.next/\(y.2.2.1,y.2.2.2.1,y.2.2.2.2.1)=m.p/\y.2.2.2.2.2.1=m.extra)
  (H:aa B d h (ae 3 y.2.2.2.2.2.2.1 1 ak m.drives::bm 88 y.2.2.2.2.2.2.2 4 bh ff m.objs::As)):aa B d h (aZ y m::As):=by
 have i:=(H.own 0 i0).cap;have j:=(H.Mz 1 i0).2;have f:=((H.freeze 0 i0 λ_=>rfl).Jd 1 i0 λ_=>rfl).iQ;refine f.dX 0 i0 λq ⟨l,n,_,b,c,k,g⟩=>?_;exact⟨a.1,a.2.1,a.2.2.1,a.2.2.2,g.mono λx e=>c x e,py.mono k b,i,j⟩
abbrev cm:bo:=(0,0,0,0,0,0,⟨ez,0,0⟩,⟨ez,0,0⟩)
abbrev ace:bI C.toAi 37 88 4 rQ 56:=⟨_,_,i0,i0,i0,i0,i0,i0⟩
theorem XQ(p:Pm)(n:Nat)(l:aP):iS p n (l,eH)=([],(l,eH)):=by
 cases n<;>simp[iS]
theorem aaz(p:Pm)(n:Nat)(r:aP×Bool)(h:r.2=eL):iS p (n+1) r=((iL p r).1::(iS p n (iL p r).2).1,(iS p n (iL p r).2).2):=by show(if r.2 then _ else _)=_;rw[h];rfl
theorem Ld:∀(k:Nat) (r:aP×Bool),(fP k r).1.length<=k:=by
 intro k
 induction k with
 |zero=>intro r;exact qm _
 |succ k ih=>
  intro r;unfold fP;split
  ·exact zb _
  ·have:=ih (bP r 1).2;simp only[zh];omega
theorem XR(p:Pm):∀(k:Nat) (r:aP×Bool),(iS p k r).1.length<=k:=by
 intro k
 induction k with
 |zero=>intro r;exact qm _
 |succ k ih=>
  intro r;unfold iS;split
  ·exact zb _
  ·have:=ih (iL p r).2;simp only[zh];omega
theorem adp(p:Pm)(r:aP×Bool):(iL p r).1.name.size<=2^30/\(iL p r).1.tries.length<=2^30:=by
 have b:=mZ r 1;rw[show((1:Nat):Int)=1 from rfl]at b;constructor
 ·show((gx (bP r 1).2 (bP r 1).1).1.toArray).size<=_;unfold gx;split
  ·simp only[List.size_toArray,qO];have:=b.2;omega
  ·simp
 ·show(fP (countP p (bP (bP (gx (bP r 1).2 (bP r 1).1).2 3).2 2).1).toNat _).1.length<=_;have a:=mZ (bP (gx (bP r 1).2 (bP r 1).1).2 3).2 2;rw[show((2:Nat):Int)=2 from rfl]at a;have c:=countP_le (p:=p) a.1;refine q9 (Ld _ _) ?_;have:=a.2;omega
theorem aaA(p:Pm):∀(k:Nat) (r:aP×Bool),∀e∈(iS p k r).1,e.name.size<=2^30/\e.tries.length<=2^30:=by
 intro k
 induction k with
 |zero=>intro r e a;exact absurd a yt
 |succ k ih=>
  intro r e a;unfold iS at a;split at a
  ·exact absurd a yt
  ·rcases qV.1 a with rfl|h
   ·exact adp p r
   ·exact ih _ e h
theorem UH(b:Sl)(H:aP)(h:f8)(hb:Rd h b 1 aw H)(hc:b.len<=b.cap):
  an xQ 283 #[b] h λv h'=>(ke H=ez/\v=.tuple #[dq cm,xK eL]/\Sp h h' [])∨∃m x,ke H=dB m/\v=.tuple #[dq x,xK eH]/\Sp h h' [aZ x m]:=by
 refine ts Tryz.func283 ?_ (.two .n (.two .n (.two .n (.two .n (.two .n (.two (.join [] [(25,41)] (.two .n (.inn (.loop [(27,aS)] [(27,41)] .n)))) (.two (.join [] [(41,59)] (.two .n (.inn (.loop [(43,aS)] [(43,59)] .n)))) (.two (.join [] [(3,4),(59,76)] .n) .n))))))));have O:kM (λb=>b<h.size) h [] b H:=⟨hc,St.base hb λh' hp=>hb.up hp⟩
 refine(Sp.refl h).alloc aj i0 λB h1 H1=>?_;refine H1.boxed λa2 h2 H2=>?_;have H2:Sp h h2 [ac a2 400 (gg b eL),ac B 39 (az cm)]:=H2.bB [1,0];obtain⟨s,a6⟩:∃q,q=bP (H,eL) 4:=⟨_,rfl⟩
 refine(iD [_] i5 i5 O H2).mono ?_;rintro _ h3 ⟨rfl,s1,O1,H3⟩;rw[<-a6]at O1 H3⊢;refine⟨_,i0,?_⟩;obtain⟨d,a0⟩:∃q,q=bP s.2 4:=⟨_,rfl⟩
 refine(iD (l:=s.2.1) (f:=s.2.2) [_] i5 i5 O1 H3).mono ?_;rintro _ h4 ⟨rfl,s2,O2,H4⟩;rw[show bP (s.2.1,s.2.2) 4=d from a0.symm]at O2 H4⊢;refine⟨_,i0,?_⟩;refine H4.alloc aj i0 λa5 h5 S=>?_;have S:Sp h h5 [ac a2 400 (gg s2 d.2.2),ac a5 39 (az cm),ac B 39 (az cm)]:=S.bB [0,2,1];refine S.storeAll aj 1 i0 i0 (az (s.1,d.1,0,0,0,0,⟨ez,0,0⟩,⟨ez,0,0⟩)) i0 i0 i0 i0 λh6 H6=>?_;obtain⟨o,a4⟩:∃q,q=bP d.2 1:=⟨_,rfl⟩
 refine(iD (l:=d.2.1) (f:=d.2.2) [_,_] i5 i5 O2 H6).mono ?_;rintro _ h7 ⟨rfl,s3,O3,H7⟩;rw[show bP (d.2.1,d.2.2) 1=o from a4.symm]at O3 H7⊢;refine⟨_,i0,?_⟩;obtain⟨j,a7⟩:∃q,q=bP o.2 1:=⟨_,rfl⟩
 refine(iD (l:=o.2.1) (f:=o.2.2) [_,_] i5 i5 O3 H7).mono ?_;rintro _ h8 ⟨rfl,s4,O4,H8⟩;rw[show bP (o.2.1,o.2.2) 1=j from a7.symm]at O4 H8⊢;refine⟨_,i0,?_⟩;obtain⟨c,ay⟩:∃q,q=bP j.2 1:=⟨_,rfl⟩
 refine(iD (l:=j.2.1) (f:=j.2.2) [_,_] i5 i5 O4 H8).mono ?_;rintro _ h9 ⟨rfl,U,O5,H9⟩;rw[show bP (j.2.1,j.2.2) 1=c from ay.symm]at O5 H9⊢;refine⟨_,i0,?_⟩;refine H9.store aj 1 i0 i0 2 [xG xM o.1,xG xM j.1,xG xM c.1] i0 i0 i0 i9 λb0 X=>?_;have X:Sp h b0 [ac a2 400 (gg U c.2.2),ac a5 39 (az (s.1,d.1,o.1,j.1,c.1,0,⟨ez,0,0⟩,⟨ez,0,0⟩)),ac B 39 (az cm)]:=X;obtain⟨k,a8⟩:∃q,q=bP c.2 1:=⟨_,rfl⟩
 refine(iD (l:=c.2.1) (f:=c.2.2) [_,_] i5 i5 O5 X).mono ?_;rintro _ c0 ⟨rfl,s6,O6,ar⟩;rw[show bP (c.2.1,c.2.2) 1=k from a8.symm]at O6 ar⊢;refine⟨_,i0,?_⟩;refine ar.storeAt aj 1 i0 i0 i0 i0 i0 i9 λb3 W=>?_;have W:Sp h b3 [ac a2 400 (gg s6 k.2.2),ac a5 39 (az (s.1,d.1,o.1,j.1,c.1,k.1,⟨ez,0,0⟩,⟨ez,0,0⟩)),ac B 39 (az cm)]:=W;obtain⟨q7,ab⟩:∃q,q=bP k.2 1:=⟨_,rfl⟩
 have b7:=mZ k.2 1;rw[show((1:Nat):Int)=1 from rfl,<-ab]at b7;obtain⟨N,hN⟩:∃N:Nat,q7.1=N:=⟨q7.1.toNat,i4⟩
 have cf:N<256:=by have:=b7.2;omega
 obtain⟨D,hD⟩:∃D,D=fP N q7.2:=⟨_,rfl⟩
 obtain⟨q8,Z⟩:∃q,q=bP D.2 1:=⟨_,rfl⟩
 have ax:=mZ D.2 1;rw[show((1:Nat):Int)=1 from rfl,<-Z]at ax;obtain⟨M,hM⟩:∃M:Nat,q8.1=M:=⟨q8.1.toNat,i4⟩
 have c1:M<256:=by have:=ax.2;omega
 obtain⟨p,hp⟩:∃p:Pm,p=(o.1,j.1,c.1):=⟨_,rfl⟩
 obtain⟨E,hE⟩:∃E,E=iS p M q8.2:=⟨_,rfl⟩
 have g:Bd H=(⟨s.1,d.1,p,k.1,D.1,E.1⟩,E.2):=by unfold Bd;simp only[<-a6,<-a0,<-a4,<-a7,<-ay,<-a8,<-ab,hN,qk,<-hD,<-Z,hM,<-hp,<-hE]
 refine bG (λ_ h'=>∃(t w:Sl),kM (λb=>b<h.size) h [] w D.2.1/\Sp h h' [ac a2 400 (gg w D.2.2),ae 3 t 1 ak D.1,ac a5 39 (az (s.1,d.1,o.1,j.1,c.1,k.1,t,⟨ez,0,0⟩)),ac B 39 (az cm)]) ?_ ?_
 ·refine(iD (l:=k.2.1) (f:=k.2.2) [_,_] i5 i5 O6 W).mono ?_;rintro _ bl ⟨rfl,s7,O7,G⟩;rw[show bP (k.2.1,k.2.2) 1=q7 from ab.symm]at O7 G⊢;rw[hN];refine⟨_,i0,?_⟩;have G:=(G.nil 3 1 ak)
  have G:Sp h bl [ac a2 400 (gg s7 q7.2.2),ae 3 ⟨ez,0,0⟩ 1 ak [],ac a5 39 (az (s.1,d.1,o.1,j.1,c.1,k.1,⟨ez,0,0⟩,⟨ez,0,0⟩)),ac B 39 (az cm)]:=G.bB [0,3,1,2];refine aq (λi:Nat=>(i:Int)) (λi h'=>i<=N/\∃(ts:aB) (t w:Sl) (a:aP×Bool),ii ts<=i/\D=(ts++(fP (N-i) a).1,(fP (N-i) a).2)/\kM (λb=>b<h.size) h [] w a.1/\
   Sp h h' [ac a2 400 (gg w a.2),ae 3 t 1 ak ts,ac a5 39 (az (s.1,d.1,o.1,j.1,c.1,k.1,t,⟨ez,0,0⟩)),ac B 39 (az cm)]) (λi=>N-i) 0 i0 ⟨zb _,[],⟨ez,0,0⟩,s7,q7.2,qm _,by rw[hD];simp,O7,G⟩ ?_
  rintro i b9 ⟨hi,ts,t,w,a,cp,P,O',F⟩
  try dsimp only
  refine ag (λe=>?_) λe=>?_
  ·have L:i<N:=i4
   refine⟨a2,i0,a.2,(F.box 0 i0).cell i0,bf (λJ=>?_) λJ=>?_⟩
   ·have Q:fP (N-i) a=([],a):=by
     have:a=(a.1,eH):=by rw[<-J]
     rw[this];exact Lb _ _
    rw[Q,qF]at P;rw[P];exact⟨t,w,O',F⟩
   ·refine⟨t,(F.box 2 i0).cell i0,(iD (l:=a.1) (f:=a.2) [_,_,_] i5 i5 O' F).mono ?_⟩;rintro _ b4 ⟨rfl,U,O5,S⟩;refine⟨_,i0,⟨(S.box 2 i0).cell i0,trivial⟩,?_⟩;refine S.lit aj ak fR i0 [(bP a 1).1] i0 (show 1*1<=2^20 by decide) i0 λv cd R=>?_;have R:=R.be;refine⟨⟨(R.box 3 i0).cell i0,trivial⟩,?_⟩;refine R.append aj 2 i0 fR ⟨_,_,i0,i0⟩ i0 i5 (λ_=>rfl) (R.seq 0 i0 λ_=>rfl) eC i7 λt2 br ah=>⟨trivial,?_⟩
    have ah:Sp h br [ae 3 v 1 ak [(bP a 1).1],ac a2 400 (gg U (bP a 1).2.2),ae 3 t2 1 ak (ts++[(bP a 1).1]),ac a5 39 (az (s.1,d.1,o.1,j.1,c.1,k.1,t,⟨ez,0,0⟩)),ac B 39 (az cm)]:=ah;refine ah.storeAt aj 3 i0 i0 i0 i0 i0 i9 λb2 al=>⟨trivial,?_⟩
    have al:Sp h b2 [ae 3 v 1 ak [(bP a 1).1],ac a2 400 (gg U (bP a 1).2.2),ae 3 t2 1 ak (ts++[(bP a 1).1]),ac a5 39 (az (s.1,d.1,o.1,j.1,c.1,k.1,t2,⟨ez,0,0⟩)),ac B 39 (az cm)]:=al;refine⟨i+1,j0,⟨i4,ts++[(bP a 1).1],t2,U,(bP a 1).2,i7,?_,O5,al.rest⟩,i4⟩;have Q:N-i=(N-(i+1))+1:=i4
    rw[P,Q,OW _ _ J];simp
  ·have L:i=N:=i4
   subst L;have Q:fP (i-i) a=([],a):=by rw[qW];rfl
   rw[Q,qF]at P;rw[P];exact⟨t,w,O',F⟩
 rintro _ cq ⟨t,w,OD,bq⟩;have b5:ii D.1<=N:=by rw[hD];exact Ld _ _
 have ca:ii E.1<=M:=by rw[hE];exact XR _ _ _
 refine bG (λ_ h'=>∃(u w:Sl),kM (λb=>b<h.size) h [] w E.2.1/\Sp h h' [ac a2 400 (gg w E.2.2),ae 3 t 1 ak D.1,bm 88 u 4 bh ff E.1,ac a5 39 (az (s.1,d.1,o.1,j.1,c.1,k.1,t,u)),ac B 39 (az cm)]) ?_ ?_
 ·refine(iD (l:=D.2.1) (f:=D.2.2) [_,_,_] i5 i5 OD bq).mono ?_;rintro _ a9 ⟨rfl,s8,O8,I⟩;rw[show bP (D.2.1,D.2.2) 1=q8 from Z.symm]at O8 I⊢;rw[hM];refine⟨_,i0,?_⟩;have I:=I.rD 88 4 bh ff;have I:Sp h a9 [ac a2 400 (gg s8 q8.2.2),ae 3 t 1 ak D.1,bm 88 ⟨ez,0,0⟩ 4 bh ff [],ac a5 39 (az (s.1,d.1,o.1,j.1,c.1,k.1,t,⟨ez,0,0⟩)),ac B 39 (az cm)]:=I.bB [0,1,4,2,3];refine aq (λi:Nat=>(i:Int)) (λi h'=>i<=M/\∃(es:List Qw.dm) (u w:Sl) (a:aP×Bool),ii es<=i/\E=(es++(iS p (M-i) a).1,(iS p (M-i) a).2)/\kM (λb=>b<h.size) h [] w a.1/\
   Sp h h' [ac a2 400 (gg w a.2),ae 3 t 1 ak D.1,bm 88 u 4 bh ff es,ac a5 39 (az (s.1,d.1,o.1,j.1,c.1,k.1,t,u)),ac B 39 (az cm)]) (λi=>M-i) 0 i0 ⟨zb _,[],⟨ez,0,0⟩,s8,q8.2,qm _,by rw[hE];simp,O8,I⟩ ?_
  rintro i cr ⟨hi,es,u,w,a,cn,P,O',F⟩
  try dsimp only
  refine ag (λe=>?_) λe=>?_
  ·have L:i<M:=i4
   refine⟨a2,i0,a.2,(F.box 0 i0).cell i0,bf (λJ=>?_) λJ=>?_⟩
   ·have Q:iS p (M-i) a=([],a):=by
     have:a=(a.1,eH):=by rw[<-J]
     rw[this];exact XQ _ _ _
    rw[Q,qF]at P;rw[P];exact⟨u,w,O',F⟩
   ·refine⟨u,(F.box 3 i0).cell i0,p,?_,(UG (l:=a.1) (f:=a.2) [_,_,_,_] p O' F).mono ?_⟩
    ·rw[hp];exact(F.box 3 i0).cells 2 (AN (o.1,j.1,c.1)) i0
    rintro _ cc ⟨x,rfl,U,O5,S⟩;refine⟨x,i0,⟨(S.box 4 i0).cell i0,trivial⟩,?_⟩;have hx:∀x:dD,ii (bh x)=4:=λ_=>rfl;refine bz.agx (K1:=λ_ h'=>bQ.ok [(a5.add 7,u)] h') ?_ ?_
    ·refine S.lit aj bh ace i0 [x] i0 (show 1*4<=2^20 by decide) i0 λv b6 b1=>⟨(b1.box 4 i0).cell i0,trivial⟩
    refine S.mO aj 3 0 i5 i0 i0 ace i0 i5 hx EQ i0 i5 i4 λu2 bk ao=>⟨trivial,?_⟩
    have ao:Sp h bk [emp,ac a2 400 (gg U (iL p a).2.2),ae 3 t 1 ak D.1,bm 88 u2 4 bh ff (es++[(iL p a).1]),ac a5 39 (az (s.1,d.1,o.1,j.1,c.1,k.1,t,u)),ac B 39 (az cm)]:=ao;refine ao.storeAt aj 4 i0 i0 i0 i0 i0 i9 λbb ad=>⟨trivial,?_⟩
    have ad:Sp h bb [emp,ac a2 400 (gg U (iL p a).2.2),ae 3 t 1 ak D.1,bm 88 u2 4 bh ff (es++[(iL p a).1]),ac a5 39 (az (s.1,d.1,o.1,j.1,c.1,k.1,t,u2)),ac B 39 (az cm)]:=ad;refine⟨i+1,j0,⟨i4,es++[(iL p a).1],u2,U,(iL p a).2,i7,?_,O5,ad.rest⟩,i4⟩;have Q:M-i=(M-(i+1))+1:=i4
    rw[P,Q,aaz _ _ _ J];simp
  ·have L:i=M:=i4
   subst L;have Q:iS p (i-i) a=([],a):=by rw[qW];rfl
   rw[Q,qF]at P;rw[P];exact⟨u,w,O',F⟩
 rintro _ a3 ⟨u,w,OE,A⟩;obtain⟨y,hy⟩:∃y:bo,y=(s.1,d.1,o.1,j.1,c.1,k.1,t,u):=⟨_,rfl⟩
 obtain⟨V,T⟩:∃V:aA,V=⟨s.1,d.1,p,k.1,D.1,E.1⟩:=⟨_,rfl⟩
 rw[<-T]at g;have hz:cw V:=by rw[T];exact⟨by show D.1.length<=_;omega,by show E.1.length<=_;omega,by rw[hE];exact aaA _ _ _⟩
 have A:Sp h a3 [aZ y V,ac a2 400 (gg w E.2.2),ac a5 39 (az y),ac B 39 (az cm)]:=by refine aa.Lc (by rw[hy,T,hp];exact⟨i0,i0,i0,i0⟩) ?_;rw[hy,T];exact A.bB [1,2,0,3,4]
 have cl:=hb.len;refine aT ?_;have no:ke H=ez->∀{h':f8},Sp h h' [ac B 39 (az cm)]->(ke H=ez/\(Value.tuple #[dq cm,xK eL])=.tuple #[dq cm,xK eL]/\Sp h h' [])∨∃m x,ke H=dB m/\(Value.tuple #[dq cm,xK eL])=.tuple #[dq x,xK eH]/\Sp h h' [aZ x m]:=λe _ F=>.inl ⟨e,i0,F.bB []⟩;refine⟨a2,i0,E.2.2,(A.box 1 i0).cell i0,bf (λJ=>?_) λJ=>cv (λez=>?_) λez=>?_⟩
 ·refine A.storeAll aj 3 i0 i0 (az cm) i0 i0 i0 i0 λap z=>?_;refine⟨cm,(z.box 3 i0).aE _ i0,no ?_ (z.bB [3])⟩;unfold ke;rw[g];simp[J]
 ·refine A.storeAll aj 3 i0 i0 (az cm) i0 i0 i0 i0 λap z=>?_;refine⟨cm,(z.box 3 i0).aE _ i0,no ?_ (z.bB [3])⟩;have:ii H=0:=i4
  unfold ke;rw[g];simp[this]
 ·refine⟨y,(A.box 2 i0).aE _ i0,(Dx y V a3 (A.at 0 i0) hz).mono ?_⟩;rintro _ ap ⟨r,rfl,am⟩;refine⟨r,i0,(kY b r H (bJ V) ap (hb.up ((Sp.zip A.af).comp am).af) (am.seq 0 i0 λ_=>rfl)).mono ?_⟩;rintro _ cs ⟨rfl,rfl⟩;have z:=A.comp am;refine⟨_,i0,aQ (λY=>?_) λY=>?_⟩
  ·refine z.storeAll aj 3 i0 i0 (az cm) i0 i0 i0 i0 λbd K=>?_;refine⟨cm,(K.box 3 i0).aE _ i0,no ?_ (K.bB [3])⟩;unfold ke;rw[g];simp[of_decide_eq_false Y]
  ·refine⟨y,(z.box 2 i0).aE _ i0,z.storeAll aj 3 i0 i0 (az y) i0 i0 i0 i0 λbd K=>?_⟩;refine⟨y,(K.box 3 i0).aE _ i0,.inr ⟨V,y,?_,i0,K.bB [0]⟩⟩;have e0:¬ii H=0:=i4
   have e2:H=bJ V:=hZ Y;unfold ke;rw[g];simp only[J,e0,<-e2];rfl
abbrev lq:=Int×Int×Int×Sl×Sl
abbrev co(x:lq):aR:=[xG xM x.1,xG xM x.2.1,xG xM x.2.2.1,x.2.2.2.1,x.2.2.2.2]
abbrev FA(x:lq):Value:=xL #[xG xM x.1,xG xM x.2.1,xG xM x.2.2.1,x.2.2.2.1,x.2.2.2.2]
abbrev rU:lq:=(0,0,0,⟨ez,0,0⟩,⟨ez,0,0⟩)
theorem XS{h:f8}{s:Sl}{l:aP}(j:Rd h s 1 aw l)(r:ii l<=4){K:Int×Int->f8->Prop}(q:K (iK l,(ii l:Int)) h):
  gU (σ:=Int×Int) (λb K1 d=>
 Br (decide (b.2<((s.len:Nat):Int)))
 (∃a3:eX,(s.ptr=dB a3/\0<=b.2/\b.2<((s.len:Nat):Int))/\
 ∃g:Int,cellOf d (a3.add (b.2.toNat*1))=dB (xG xN g)/\
 (0<=(8:Int))/\
 K1 (qe xM ((qK (qG xM) (qe xM (b.1*2^min (8:Int).toNat (qG xM)))|||(qK (qG xM) (qe xM g))).toNat:Nat),qe xM (b.2+1)) d)
 (K b d)) ((0:Int),(0:Int)) h:=by
 have u:=j.len;refine aq (τ:=Nat) (λi=>(iK (l.take i),(i:Int))) (λi h'=>i<=ii l/\h'=h) (λi=>ii l-i) 0 (by simp[iK]) ⟨zb _,i0⟩ ?_;rintro i h' ⟨v,rfl⟩;refine ag (λe=>?_) (λe=>?_)
 ·have a:i<ii l:=o9
  refine j.mb i i0 a ((l.getD i 0).toNat:Int) (by rw[getD_lt a];rfl) λt m=>⟨i5,i+1,?_,⟨a,i0⟩,i4⟩
  have o:=BA (l.take i) i7;have c:=o.2.2 i7;obtain⟨n,f⟩:∃n:Nat,iK (l.take i)=(n:Int):=⟨(iK (l.take i)).toNat,by rw[uW];omega⟩
  rw[<-uW,f]at c;have k:=(l.getD i 0).toNat_lt;show(_,_)=(_,_)
  rw[f,Ny n _ i4 k,ai _];have p:l.take (i+1)=l.take i++[l.getD i 0]:=by rw[getD_lt a];simp
  rw[p,uD,f];rfl
 ·have:i=ii l:=o9
  subst this;simpa using q
theorem UI(b:Sl)(c:aP)(h:f8)(U:Rd h b 1 aw c)(hc:ii c<=2^30)(A:b.len<=b.cap):
  an xQ 213 #[b] h λv h'=>(ck c=ez/\v=.tuple #[FA rU,xK eL]/\Sp h h' [])∨
   ∃(g:Pg) (r:Sl),ck c=dB g/\v=.tuple #[FA (g.seq,g.num,g.many,r,b),xK eH]/\Sp h h' [kP r 1 aw g.bears]:=by
 refine ts Tryz.func213 ?_ (.two .n (.two .n (.two (.join [] [(3,4),(17,24)] .n) (.two .n (.two (.two .n (.inn (.loop [(7,aS),(27,aS)] [(7,8),(9,10),(27,37)] .n))) (.two .n (.two (.join [] [(3,4),(41,53)] .n) .n)))))));refine(Sp.refl h).alloc aj i0 λu P w=>?_;have w:Sp h P [ac u 288 (co rU)]:=w;have d:∀{h':f8} {Bs:List HP},Sp h h' (ac u 288 (co rU)::Bs)->ck c=ez->
   au xQ (qE 288 (xI (dB u)) (FA rU)) h' λ_ m=>∃o:lq,bp m u 0 (co o)/\((ck c=ez/\Value.tuple #[FA o,xK eL]=.tuple #[FA rU,xK eL]/\Sp h m [])∨
   ∃(g:Pg) (r:Sl),ck c=dB g/\Value.tuple #[FA o,xK eL]=.tuple #[FA (g.seq,g.num,g.many,r,b),xK eH]/\Sp h m [kP r 1 aw g.bears]):=λ{h' Bs} H' j=>by
  refine H'.storeAll aj 0 i0 i0 (co rU) i0 i0 i0 i0 λm Q=>?_;exact⟨rU,(Q.box 0 i0).aE _ i0,.inl ⟨j,i0,.zip Q.af⟩⟩
 refine(sv b c P (U.up w.af) hc A).mono ?_;rintro _ K ⟨W,Y⟩;cases htc:eV c with
 |none=>
  obtain⟨rfl,H⟩:=W htc;have j:ck c=ez:=by unfold ck;rw[htc]
  exact⟨(0,⟨ez,0,0⟩,eL),i0,aT (aQ (λ_=>d (w.up H.af) j) λe=>j1)⟩
 |some kx=>
  obtain⟨k,x⟩:=kx;obtain⟨r,rfl,H⟩:=Y k x htc;have p:Sp h K [ac u 288 (co rU),ae 5 r 1 aw x]:=w.comp H;have M:ii x=55:=by
   unfold eV at htc;split at htc
   ·rename_i f;injection htc with htc
    injection htc with _ htc
    rw[<-htc];simp;omega
   ·cases htc
  have V:=(p.own 1 i0).len;have B:=(p.own 1 i0).cap;have y:=p.seq 1 i0 λ_=>rfl;refine⟨(k,r,eH),i0,aT (aQ (λe=>j1) λ_=>bx (λe=>d p ?_) λt=>?_)⟩
  ·unfold ck;rw[htc];exact g0 λf=>e f.1
  try dsimp only
  have t:k=2:=t;have J:6<ii x:=i4
  have m:4<ii x:=i4
  have L:5<ii x:=i4
  refine⟨⟨i5,i4⟩,?_⟩;refine XS (s:=⟨r.ptr,4,r.cap⟩) (l:=x.take 4) (y.take 4 i4) i7 ?_;have u6:=(x.getD 6 0).toNat_lt;have u4:=(x.getD 4 0).toNat_lt;have u5:=(x.getD 5 0).toNat_lt;refine y.mb 6 i0 J ((x.getD 6 0).toNat:Int) (by rw[getD_lt J];rfl) λa9 R=>?_;rw[ai ((x.getD 6 0).toNat:Int),ai (7+((x.getD 6 0).toNat:Int))];refine aT (ag (λe=>d p ?_) λe=>?_)
  ·unfold ck;rw[htc];exact g0 λf=>i4
  obtain⟨n,j⟩:∃n:Nat,n=(x.getD 6 0).toNat:=⟨_,rfl⟩
  rw[<-j]at e u6⊢;rw[show(7+((n:Nat):Int)).toNat=7+n from by omega];refine⟨⟨i4,i4⟩,?_⟩;refine(DT ⟨_,r.len-(7+n),r.cap-(7+n)⟩ (x.drop (7+n)) _ i0 K (y.drop (7+n) B) i6 i7).mono ?_;rintro _ _ ⟨⟨z,rfl,X⟩,rfl⟩;have i:(x.drop (7+n)).all (λb=>decide (b=0))=eH↔z.len=0:=by rw[X,qY];exact⟨λf x D=>hZ (f x D),λf x D=>g9 (f x D)⟩
  refine⟨z,i0,ag (λS=>d p ?_) λS=>?_⟩
  ·unfold ck;rw[htc];exact g0 λf=>by
    have:=i.1 (by rw[j];exact f.2.2);omega
  have G:z.len=0:=i4
  refine y.mb 4 i0 m ((x.getD 4 0).toNat:Int) (by rw[getD_lt m];rfl) λT N=>?_;refine y.mb 5 i0 L ((x.getD 5 0).toNat:Int) (by rw[getD_lt L];rfl) λZ O=>?_;refine⟨⟨i5,i4,i4⟩,?_⟩;rw[ai ((x.getD 4 0).toNat:Int),ai ((x.getD 5 0).toNat:Int)];refine p.storeAll aj 0 i0 i0 (co (iK (x.take 4),((x.getD 4 0).toNat:Int),((x.getD 5 0).toNat:Int),⟨if r.cap=7 then r.ptr else r.ptr.map (·.add (7*1)),7+n-7,r.cap-7⟩,b)) i0 i0 i0 i0 λI a=>⟨trivial,?_⟩
  have a:Sp h I [ac u 288 (co (iK (x.take 4),((x.getD 4 0).toNat:Int),((x.getD 5 0).toNat:Int),⟨if r.cap=7 then r.ptr else r.ptr.map (·.add (7*1)),7+n-7,r.cap-7⟩,b)),ae 5 r 1 aw x]:=a;refine⟨(iK (x.take 4),((x.getD 4 0).toNat:Int),((x.getD 5 0).toNat:Int),⟨if r.cap=7 then r.ptr else r.ptr.map (·.add (7*1)),7+n-7,r.cap-7⟩,b),(a.box 0 i0).aE _ i0,.inr ⟨On x c,⟨if r.cap=7 then r.ptr else r.ptr.map (·.add (7*1)),7+n-7,r.cap-7⟩,?_,i0,?_⟩⟩
  ·unfold ck;rw[htc];exact f9 ⟨t,i4,by rw[<-j];exact i.2 G⟩
  ·have F:=(a.freeze 1 i0 λ_=>rfl).bB [1];refine F.dX 0 i0 λq E=>?_;have E:Seq _ q r 1 aw x:=E;have hd:=(E.drop 7 B).take n i7;show Seq _ q _ 1 aw ((x.drop 7).take (x.getD 6 0).toNat);rw[<-j,show 7+n-7=n from by omega];exact hd
theorem OX{l:List Pg}{f:Pg}:∀{n k:Nat},jz l f n=ez->n<=k->jz l f k=ez:=by
 intro n k h a
 induction k with
 |zero=>rw[show n=0 from by omega]at h;exact h
 |succ k ih=>
  by_cases e:n=k+1
  ·rw[<-e];exact h
  ·unfold jz;rw[ih i4]
theorem XT:∀x,∀c∈co x,c.oneCell'=eH:=by intro x c a;simp[co]at a;rcases a with rfl|rfl|rfl|rfl|rfl<;>rfl
abbrev XU:bI C.toAi 286 288 5 (co rU) 72:=⟨_,_,i0,i0,i0,i0,i0,i0⟩
def kN(f:lq)(i:Int)(x:lq):Bool:=x.1==f.1&&(x.2.2.1==f.2.2.1&&x.2.1==i)
theorem OY(x f:lq)(i:Int)(a b:eX)(h:f8)(l:bW h a 288 (co f))(k:bW h b 3 [xG xM i]):
  an xQ 282 #[FA x,xI (dB a),xI (dB b)] h λv h'=>v=xK (kN f i x)/\Sp h h' []:=by
 refine ts Tryz.func282 ?_ (args:=[x,a,b]);refine(Sp.refl h).boxed λm n c=>?_;have d:=l.af c.af l.lt;have j:=k.af c.af k.lt;refine⟨x.1,(c.box 0 i0).cell0 i0,f.1,d.cell0 i0,cv (λg=>?_) λg=>?_⟩
 ·refine⟨x.2.2.1,(c.box 0 i0).cell i0,f.2.2.1,d.cell i0,cv (λe=>?_) λe=>?_⟩
  ·refine⟨x.2.1,(c.box 0 i0).cell i0,i,j.cell0 i0,?_,.zip c.af⟩;congr 1;unfold kN;rw[g,e];simp
  ·refine⟨?_,.zip c.af⟩;congr 1;unfold kN;simp[e]
 ·refine⟨?_,.zip c.af⟩;congr 1;unfold kN;simp[g]
theorem QM(l:Sl)(rows:List lq)(f:lq)(i:Int)(a b:eX)(h:f8)(u:Rd h l 5 co rows)(F:ii rows<=2^30)(w:bW h a 288 (co f))(t:bW h b 3 [xG xM i]):
  an xQ 281 #[l,.func (.func 282) #[] #[xI (dB a),xI (dB b)]] h λv h'=>v=xG xM (if rows.findIdx (kN f i)<ii rows then(rows.findIdx (kN f i):Int)else-1)/\Sp h h' []:=by
 refine ts Tryz.func281 ?_ (.two .n (.two (.two .n (.inn (.loop [(8,aS)] [(4,6),(8,19)] .n))) .n)) (args:=[l,(.func (.func 282) #[] #[xI (dB a),xI (dB b)])]);have B:=u.len;refine aq (λi:Nat=>(i:Int)) (λk h'=>Sp h h' []/\k<=ii rows/\∀j (o:j<ii rows),j<k->kN f i rows[j]=eL) (λk=>ii rows-k) 0 i0 ⟨Sp.refl h,i4,λj _ o=>i4⟩ ?_;rintro k D ⟨m,G,c⟩;refine ag (λe=>?_) (λe=>?_)
 ·have d:k<ii rows:=by have z:(k:Int)<(l.len:Int):=e;omega
  refine(Seq.up u m.af).cX (g:=co) k i0 d rows[k] i0 (dL i0 ?_);refine(OY rows[k] f i a b D (w.af m.af w.lt) (t.af m.af t.lt)).mono ?_;rintro _ E ⟨rfl,y⟩;refine⟨_,i0,bf (λs=>?_) λs=>?_⟩
  ·rw[uf d c s,f9 d];exact⟨i0,m.up y.af⟩
  ·refine⟨k+1,j0,⟨m.up y.af,i4,λj o r=>?_⟩,i4⟩;rcases zk.1 r with h3|rfl
   ·exact c j o h3
   ·exact s
 ·have z:¬(k:Int)<(l.len:Int):=e;have q:¬rows.findIdx (kN f i)<ii rows:=by rw[we];rintro⟨x,A,p⟩;obtain⟨j,o,rfl⟩:=qD A;rw[c j o i4]at p;cases p
  rw[g0 q];exact⟨i0,m⟩
def JM(p:lq×Pg):Prop:=p.1.1=p.2.seq/\p.1.2.1=p.2.num/\p.1.2.2.1=p.2.many
theorem Ee{p f:lq×Pg}(a:JM p)(b:JM f)(i:Int):kN f.1 i p.1=sP f.2 i p.2:=by unfold kN sP;rw[a.1,a.2.1,a.2.2,b.1,b.2.2];rw[Bool.eq_iff_iff];simp
theorem adq{L:List (lq×Pg)}{f:lq×Pg}(d:∀p∈L,JM p)(h:JM f)(i:Int){k:Nat}(b:(L.map qq).findIdx (kN f.1 i)=k):
  if a:k<ii L then(L.map zi).find? (sP f.2 i)=dB L[k].2 else(L.map zi).find? (sP f.2 i)=ez:=by
 split
 ·rename_i a;have e:(L.map qq).findIdx (kN f.1 i)<ii (L.map qq):=by rw[b,qu];exact a
  rw[List.find?_eq_some_iff_getElem];have l:=List.findIdx_getElem (p:=kN f.1 i) (xs:=L.map qq) (w:=e);simp only[b,wV]at l;rw[Ee (d _ (qf a)) h]at l;refine⟨l,k,kt,i9,λj n=>?_⟩;have c:=List.not_of_lt_findIdx (p:=kN f.1 i) (xs:=L.map qq) (i:=j) (by rw[b];exact n);simp only[wV]at c⊢;rw[Ee (d _ (qf _)) h]at c;simpa using c
 ·rename_i a;rw[List.find?_eq_none];intro g o;obtain⟨p,m,rfl⟩:=qx.1 o;intro q;apply a;rw[<-b];have:(L.map qq).findIdx (kN f.1 i)<ii (L.map qq):=we.2 ⟨p.1,qx.2 ⟨p,m,i0⟩,by rw[Ee (d p m) h];exact q⟩;simpa using this
theorem QN(l:Sl)(L:List (lq×Pg))(f:lq×Pg)(h:f8)(S:Rd h l 5 co (L.map qq))(hs:ii L<=2^30)(R:∀p∈L,JM p)(T:f∈L)(hm:f.2.many<=2^20):
  an xQ 214 #[l,FA f.1] h λv h'=>(jW (L.map zi) f.2=ez/\(∃o:Sl,v=.tuple #[o,xK eL])/\Sp h h' [])∨
   ∃(o:Sl) (G:List (lq×Pg)),jW (L.map zi) f.2=dB (G.map zi)/\(∀p∈G,p∈L)/\G.length<=2^20+1/\v=.tuple #[o,xK eH]/\Sp h h' [ae 288 o 5 co (G.map qq)]:=by
 have u:=R f T;have q:f.1.2.2.1=f.2.many:=u.2.2;refine ts Tryz.func214 ?_ (.two .n (.two .n (.two (.two .n (.inn (.loop [(6,cK),(7,(.sc .adr))] [(4,9),(11,30)] .n))) .n))) (args:=[l,f.1]);refine(Sp.refl h).boxed λj h1 E=>?_;have E:Sp h h1 [ac j 288 (co f.1)]:=E;refine⟨f.1,(E.box 0 i0).aE _ i0,?_⟩;refine E.lit aj co XU i0 [f.1] i0 (show 1*5<=2^20 by decide) i0 λv3 h2 Y=>?_;refine Y.alloc aj i0 λa4 h3 N=>?_;have N:Sp h h3 [ac j 288 (co f.1),ae 288 v3 5 co [f.1],ac a4 3 [xG xM 0]]:=N;refine N.storeAll aj 2 i0 i0 [xG xM 1] i0 i0 i0 i0 λW Q=>?_;have Q:Sp h W [ac j 288 (co f.1),ae 288 v3 5 co [f.1],ac a4 3 [xG xM 1]]:=Q;refine aq (λt:Nat×Sl×eX=>(t.2.1,t.2.2)) (λt h'=>∃G:List (lq×Pg),jz (L.map zi) f.2 t.1=dB (G.map zi)/\(∀p∈G,p∈L)/\G.length=t.1+1/\(t.1:Int)<=2^20/\(0<t.1->(t.1:Int)<f.2.many)/\
  Sp h h' [ac j 288 (co f.1),ae 288 t.2.1 5 co (G.map qq),ac t.2.2 3 [xG xM ((t.1+1:Nat):Int)]]) (λt=>2^20+1-t.1) (0,v3,a4) i0 ⟨[f],i0,λp I=>by rw[qp.1 I];exact T,i0,by show((0:Nat):Int)<=2^20;decide,λy=>absurd y (Nat.lt_irrefl _),Q⟩ ?_
 rintro⟨n,o,b⟩ h5 ⟨G,D,w,O,hn,B,a⟩;dsimp only at D O hn B a⊢;refine⟨((n+1:Nat):Int),(a.box 2 i0).cell0 i0,f.1.2.2.1,(a.box 0 i0).cell i0,ag (λe=>?_) λe=>?_⟩
 ·rw[q]at e;refine(QM l (L.map qq) f.1 ((n+1:Nat):Int) j b h5 (Seq.up S a.af) (by simpa using hs) (a.box 0 i0) (a.box 2 i0)).mono ?_;rintro _ h6 ⟨rfl,Z⟩;have M:=a.up Z.af;obtain⟨k,V⟩:∃k,(L.map qq).findIdx (kN f.1 ((n+1:Nat):Int))=k:=⟨_,rfl⟩
  have d:=adq R u ((n+1:Nat):Int) V;rw[V];refine⟨_,i0,ag (λA=>?_) λA=>?_⟩
  ·have K:¬k<ii L:=λy=>by
    rw[f9 sp]at A;have A:(k:Int)<0:=A;omega
   rw[dif_neg K]at d;refine .inl ⟨?_,⟨⟨ez,0,0⟩,i0⟩,.zip M.af⟩;unfold jW;rw[g0 i4];refine OX (n:=n+1) ?_ i4;unfold jz;rw[D];(try dsimp only);rw[d]
  ·have i:k<ii L:=by refine Decidable.byContradiction λy=>A ?_;rw[g0 sp];decide
   rw[dif_pos i]at d;rw[f9 (show k<ii (L.map qq) by simpa using i)];refine(Seq.up S M.af).cX (g:=co) k i0 (by simpa using i) L[k].1 i9 ?_;refine M.lit aj co XU i0 [L[k].1] i0 (show 1*5<=2^20 by decide) i0 λr h7 H=>?_;have H:=H.be;refine H.append aj 2 i0 XU ⟨_,_,i0,i0⟩ i0 i5 (λ_=>rfl) (H.seq 0 i0 λ_=>rfl) XT i7 λc h8 F=>?_;have F:Sp h h8 [ae 288 r 5 co [L[k].1],ac j 288 (co f.1),ae 288 c 5 co (G.map qq++[L[k].1]),ac b 3 [xG xM ((n+1:Nat):Int)]]:=F;refine⟨_,(F.box 3 i0).cell0 i0,?_⟩;refine F.alloc aj i0 λs h9 J=>?_;have J:Sp h h9 [ae 288 r 5 co [L[k].1],ac j 288 (co f.1),ae 288 c 5 co (G.map qq++[L[k].1]),ac b 3 [xG xM ((n+1:Nat):Int)],ac s 3 [xG xM 0]]:=J;refine J.storeAll aj 4 i0 i0 [xG xM ((n+1:Nat):Int)] i0 i0 i0 i0 λab x=>?_;refine⟨_,(x.box 4 i0).cell0 i0,?_⟩
   try dsimp only
   rw[ai _];refine x.storeAll aj 4 i0 i0 [xG xM (((n+1:Nat):Int)+1)] i0 i0 i0 i0 λP m=>?_;have m:Sp h P [ae 288 r 5 co [L[k].1],ac j 288 (co f.1),ae 288 c 5 co (G.map qq++[L[k].1]),ac b 3 [xG xM ((n+1:Nat):Int)],ac s 3 [xG xM (((n+1:Nat):Int)+1)]]:=m;refine⟨(n+1,c,s),i0,⟨G++[L[k]],?_,?_,i7,i6,λ_=>i6,?_⟩,i6⟩
   ·try dsimp only
    unfold jz;rw[D];(try dsimp only);rw[d];simp
   ·intro p I;rcases qy.1 I with h|h
    ·exact w p h
    ·rw[qp.1 h];exact qf i
   ·have:=m.bB [1,2,4];simpa using this
 ·rw[q]at e;refine⟨f.1.2.2.1,(a.box 0 i0).cell i0,?_⟩;rw[q];by_cases U:f.2.many>0
  ·have X:f.2.many.toNat-1=n:=by
    by_cases z:0<n
    ·have:=B z;omega
    ·omega
   refine .inr ⟨o,G,?_,w,i4,?_,a.bB [1]⟩
   ·unfold jW;rw[g0 i4,X];exact D
   ·rw[g9 U]
  ·refine .inl ⟨?_,⟨o,?_⟩,.zip a.af⟩
   ·unfold jW;rw[f9 i4]
   ·rw[hU U]
theorem QO(c:Sl)(x:lq)(b d:aP)(h:f8)(f:Rd h c 1 aw b)(g:Rd h x.2.2.2.2 1 aw d):
  an xQ 285 #[c,FA x] h λv h'=>v=xK (decide (b=d))/\Sp h h' []:=by
 refine ts Tryz.func285 ?_ (args:=[c,x]);refine(Sp.refl h).boxed λi e a=>?_;refine⟨x.2.2.2.2,(a.box 0 i0).cell i0,(kY c x.2.2.2.2 b d e (Seq.up f a.af) (Seq.up g a.af)).mono ?_⟩;rintro _ _ ⟨rfl,rfl⟩;exact⟨_,i0,i0,.zip a.af⟩
theorem QP(s l:Sl)(b:bO)(G:List (lq×Pg))(h:f8)(o:dY h s 1 aw b)(E:Rd h l 5 co (G.map qq))(K:∀p∈G,Rd h p.1.2.2.2.2 1 aw p.2.cell)(N:ii G<=2^30):
  an xQ 284 #[s,l,.func (.func 285) #[] #[]] h λv h'=>v=xK (decide (b=G.map λp=>p.2.cell))/\Sp h h' []:=by
 refine ts Tryz.func284 ?_ (.two .n (.two .n (.two (.two .n (.inn (.loop [(17,aS)] [(6,10),(17,32)] .n))) .n))) (args:=[s,l,(.func (.func 285) #[] #[])]);obtain⟨rs,o⟩:=o;have M:=o.FJ;have y:=E.len;simp only[qu]at y;refine bx (λe=>?_) (λe=>?_)
 ·refine⟨?_,Sp.refl h⟩;rw[hU];intro A;have:=congrArg List.length A;simp only[qu]at this;omega
 have I:ii b=ii G:=i4
 refine aq (λi:Nat=>(i:Int)) (λk h'=>Sp h h' []/\k<=ii b/\∀j (z:j<ii b),j<k->b[j]=(G[j]'(by omega)).2.cell) (λk=>ii b-k) 0 i0 ⟨Sp.refl h,i4,λj _ z=>i4⟩ ?_;rintro k M ⟨q,O,m⟩;refine ag (λe=>?_) (λe=>?_)
 ·have d:k<ii b:=by have J:(k:Int)<(s.len:Int):=e;omega
  have c:k<ii G:=i4
  refine(fq.up o q.af).SV k i0 d λa r _ P t=>?_;refine(Seq.up E q.af).cX (g:=co) k i0 l7 G[k].1 i9 ?_;refine q.alloc aj i0 λF y u=>?_;have u:Sp h y [ac F 288 (co rU)]:=u;refine u.storeAll aj 0 i0 i0 (co G[k].1) i0 i0 i0 i0 λh3 f=>?_;have f:Sp h h3 [ac F 288 (co G[k].1)]:=f;refine⟨G[k].1,(f.box 0 i0).aE _ i0,dL i0 ?_⟩;have w:Rd h3 r 1 aw b[k]:=Seq.up (o.row k r b[k] t (qc d)) f.af;refine(QO r G[k].1 b[k] G[k].2.cell h3 w (Seq.up (K _ (qf c)) f.af)).mono ?_;rintro _ D ⟨rfl,L⟩;have H:Sp h D []:=.zip (f.up L.af).af;refine⟨_,i0,aQ (λB=>?_) λB=>?_⟩
  ·refine⟨?_,H⟩;rw[hU];intro A;refine of_decide_eq_false B ?_;have:b[k]?=(G.map λp=>p.2.cell)[k]?:=by rw[A]
   simpa[d,c]using this
  ·refine⟨k+1,j0,⟨H,i4,λj z x=>?_⟩,i4⟩;rcases zk.1 x with h3|rfl
   ·exact m j z h3
   ·exact hZ B
 ·have J:¬(k:Int)<(s.len:Int):=e;refine⟨?_,q⟩;rw[g9];refine List.ext_getElem i7 λj h3 D=>?_;rw[m j h3 i4];simp
structure agy (h:f8) (p:lq×Pg):Prop where
 bears:Rd h p.1.2.2.2.1 1 aw p.2.bears
 cell:Rd h p.1.2.2.2.2 1 aw p.2.cell
 len:ii p.2.bears<=48
theorem XV{s:List Pg}(h:ke (s.flatMap Pg.bears)=ez):lQ s=ez:=by unfold lQ;rw[h]
theorem UJ{s:List Pg}{m:aA}(h:ke (s.flatMap Pg.bears)=dB m):lQ s=if aO m=s.map Pg.cell then dB m else ez:=by unfold lQ;rw[h]
abbrev gM:aA:=⟨0,0,(0,0,0),0,[],[]⟩
theorem aa.cm{B:av}{a h:f8}{As:List HP}(H:aa B a h As):aa B a h (aZ cm gM::As):=
 aa.Lc ⟨i0,i0,i0,i0⟩ ((((H.rD 88 4 bh ff).be).nil 3 1 ak).be)
theorem aaB:cw gM:=⟨i5,i5,λ_ a=>absurd a yt⟩
theorem XW{G:List (lq×Pg)}(a:∀p∈G,ii p.2.bears<=48):∀i,ii ((G.take i).flatMap λp=>p.2.bears)<=48*i:=by
 intro i
 induction i with
 |zero=>simp
 |succ i ih=>
  by_cases h:i<ii G
  ·rw[aD _ _ h,qZ,qt];have:=a _ (qf h);simp only[List.flatMap_cons,List.flatMap_nil,qF];omega
  ·rw[qg i4]at ih⊢;omega
theorem QQ(l:Sl)(G:List (lq×Pg))(h:f8)(L:Rd h l 5 co (G.map qq))(J:∀p∈G,agy h p)(hn:ii G<=2^21):
  an xQ 215 #[l] h λv h'=>∃(m:aA) (x:bo) (ok:Bool),v=.tuple #[dq x,xK ok]/\Sp h h' [aZ x m]/\cw m/\lQ (G.map zi)=if ok then dB m else ez:=by
 refine ts Tryz.func215 ?_ (.two .n (.two .n (.two (.two .n (.inn (.loop [(4,cK),(12,aS)] [(4,5),(6,7),(12,21)] .n))) .n)));have I:=L.len;simp only[qu]at I;have E:=XW λp f=>(J p f).len;refine(Sp.refl h).alloc aj i0 λb Y K=>?_;have K:Sp h Y [ac b 39 (az cm),ae 5 ⟨ez,0,0⟩ 1 aw []]:=K.nil 5 1 aw;refine aq (λt:Nat×Sl=>(t.2,(t.1:Int))) (λt h'=>t.1<=ii G/\Sp h h' [ac b 39 (az cm),ae 5 t.2 1 aw ((G.take t.1).flatMap λp=>p.2.bears)]) (λt=>ii G-t.1) (0,⟨ez,0,0⟩) i0 ⟨zb _,K⟩ ?_;rintro⟨i,o⟩ V ⟨Z,d⟩;dsimp only at Z d⊢;have z:=E i;refine ag (λe=>?_) λe=>?_
 ·have a:i<ii G:=i4
  refine(Seq.up L d.af).cX (g:=co) i i0 kt G[i].1 i9 ?_;refine d.alloc aj i0 λa5 h3 N=>?_;have N:Sp h h3 [ac b 39 (az cm),ae 5 o 1 aw ((G.take i).flatMap λp=>p.2.bears),ac a5 288 (co rU)]:=N;refine N.storeAll aj 2 i0 i0 (co G[i].1) i0 i0 i0 i0 λT B=>?_;have B:Sp h T [ac b 39 (az cm),ae 5 o 1 aw ((G.take i).flatMap λp=>p.2.bears),ac a5 288 (co G[i].1)]:=B;have S:=J _ (qf a);refine⟨G[i].1.2.2.2.1,(B.box 2 i0).cell i0,?_⟩;refine B.append aj 1 i0 gF ⟨_,_,i0,i0⟩ i0 i5 (λ_=>rfl) (Seq.up S.bears B.af) gW (by have:=S.len;omega) λQ X M=>?_;refine⟨(i+1,Q),j0,⟨a,?_⟩,i6⟩;have M:Sp h X [ac b 39 (az cm),ae 5 Q 1 aw (((G.take i).flatMap λp=>p.2.bears)++G[i].2.bears),ac a5 288 (co G[i].1)]:=M;have:=M.bB [0,1]
  try dsimp only
  rw[aD _ _ a,qZ];simpa using this
 ·have a:i=ii G:=i4
  subst a;rw[qN]at d z;obtain⟨c,s⟩:∃c,c=(G.map zi).flatMap Pg.bears:=⟨_,rfl⟩
  rw[show(G.flatMap λp=>p.2.bears)=c from by rw[s,List.flatMap_map]]at d z;refine(UH o c V (d.seq 1 i0 λ_=>rfl) (d.own 1 i0).cap).mono ?_;rintro _ U (⟨f,rfl,R6⟩|⟨m,x,f,rfl,R6⟩)
  ·refine⟨(cm,eL),i0,?_⟩;have O:=d.up R6.af;refine O.alloc aj i0 λa9 H q=>?_;have q:Sp h H [ac b 39 (az cm),ae 5 o 1 aw c,ac a9 39 (az cm)]:=q;refine q.storeAll aj 2 i0 i0 (az cm) i0 i0 i0 i0 λh8 k=>?_;refine aQ (λ_=>?_) λe=>j1
   refine k.storeAll aj 0 i0 i0 (az cm) i0 i0 i0 i0 λh9 P=>?_;refine⟨cm,(P.box 0 i0).aE _ i0,gM,cm,eL,i0,(Qw.aa.cm P).bB [0],aaB,?_⟩;exact XV (by rw[<-s];exact f)
  ·refine⟨(x,eH),i0,?_⟩;have R:cw m:=il (Bf.1 f).1;have O:Sp h U [ac b 39 (az cm),ae 5 o 1 aw c,aZ x m]:=d.comp R6;refine O.alloc aj i0 λa9 H q=>?_;have q:Sp h H [ac b 39 (az cm),ae 5 o 1 aw c,aZ x m,ac a9 39 (az cm)]:=q;refine q.storeAll aj 3 i0 i0 (az x) i0 i0 i0 i0 λh8 k=>?_;have k:Sp h h8 [ac b 39 (az cm),ae 5 o 1 aw c,aZ x m,ac a9 39 (az x)]:=k;refine aQ (λe=>j1) λ_=>?_;refine⟨x,(k.box 3 i0).aE _ i0,(mT x m h8 (k.at 2 i0) R).mono ?_⟩;rintro _ A ⟨j,rfl,w⟩;have r:Sp h A [ac b 39 (az cm),ae 5 o 1 aw c,aZ x m,ac a9 39 (az x),dC j (aO m)]:=k.comp w;refine⟨j,i0,(QP j l (aO m) G A (aa.sY w λ_=>rfl) (Seq.up L r.af) (λp f=>Seq.up (J p f).cell r.af) i4).mono ?_⟩;rintro _ ab ⟨rfl,F⟩;have u:=r.up F.af;refine⟨_,i0,x,(u.box 3 i0).aE _ i0,?_⟩;refine u.storeAll aj 0 i0 i0 (az x) i0 i0 i0 i0 λW y=>?_;refine⟨x,(y.box 0 i0).aE _ i0,m,x,_,i0,y.bB [2],R,?_⟩;rw[UJ (by rw[<-s];exact f),List.map_map];show(if aO m=G.map (λp=>p.2.cell)then dB m else ez)=_;by_cases D:aO m=G.map λp=>p.2.cell
   ·rw[f9 D,g9 D];rfl
   ·rw[g0 D,hU D];rfl
theorem Sh(x c:aP)(a:(x.getD 6 0).toNat<=48):(On x c).bears.length<=48/\(On x c).many<=255:=
 ⟨by show((x.drop 7).take _).length<=48;rw[qO];omega,by show((x.getD 5 0).toNat:Int)<=255;have:=(x.getD 5 0).toNat_lt;omega⟩
theorem XX{c:aP}{g:Pg}(h:ck c=dB g):ii g.bears<=48/\g.many<=255/\g.cell=c:=by
 refine⟨?_,?_,Fu h⟩
 all_goals
  unfold ck at h;split at h
  ·split at h
   ·rename_i a;injection h with h
    rw[<-h]
    first
     |exact(Sh _ _ a.2.1).1
     |exact(Sh _ _ a.2.1).2
   ·cases h
  ·cases h
structure UK (ll:bO) (rs:List Sl) (pool:List (Sl×aP)) (p:lq×Pg):Prop where
 ok:JM p
 bears:(p.1.2.2.2.1,p.2.bears)∈pool
 len:ii p.2.bears<=48
 many:p.2.many<=255
 cell:∃k:Nat,rs[k]?=dB p.1.2.2.2.2/\ll[k]?=dB p.2.cell
theorem UK.more{b:bO}{rs:List Sl}{pool:List (Sl×aP)}{p:lq×Pg}(a:UK b rs pool p)(y:Sl×aP):UK b rs (y::pool) p:=⟨a.ok,List.mem_cons_of_mem _ a.bears,a.len,a.many,a.cell⟩
def fE:iy bo aA:=⟨λh q x m=>oP h q x m,λa b=>a.af b,λa c=>a.mono c⟩
theorem ads:∀x,∀c∈az x,c.oneCell'=eH:=by intro x c a;simp[az]at a;rcases a with rfl|rfl|rfl|rfl|rfl|rfl|rfl|rfl<;>rfl
abbrev agz:bI C.toAi 156 39 8 (az cm) 96:=⟨_,_,i0,i0,i0,i0,i0,i0⟩
theorem acf:Tryz.prog.underlying 291=dB (.map 9 4):=j3
theorem acg:Tryz.prog.underlying 9=dB .string:=j3
theorem XY:aH xQ (zeroValue 4) (xK eL):=by
 have h:(Tryz.prog.info? 4).bind (·.zero)=dB (xK eL):=j3
 cases hf:Tryz.prog.info? 4 with
 |none=>rw[hf]at h;cases h
 |some f=>
  rw[hf]at h;refine(cU hf).bind ?_;rw[show f.zero=dB (xK eL)from h];exact .pure
def lI(m:aA):ByteArray×Bool:=(⟨(bJ m).toArray⟩,eH)
theorem XZ{a b:aP}(h:(⟨a.toArray⟩:ByteArray)=⟨b.toArray⟩):a=b:=by injection h with h;exact List.toArray_inj h
theorem aaC(m:aA)(out:List aA)(h:(out.any λy=>decide (bJ y=bJ m))=eL):jN ⟨(bJ m).toArray⟩ (out.map lI)=ez:=by rw[Hx];intro q b a;obtain⟨y,c,rfl⟩:=qx.1 b;rw[wH]at h;exact h y c (g9 (XZ a))
theorem JN(m:aA):∀out:List aA,(jN ⟨(bJ m).toArray⟩ (out.map lI)).getD eL=out.any λy=>decide (bJ y=bJ m)
 |[]=>rfl
 |y::t=>by
  rw[List.map_cons,List.any_cons];unfold lI jN;by_cases e:bJ y=bJ m
  ·rw[f9 (by rw[e]),g9 e];rfl
  ·rw[g0 λa=>e (XZ a),hU e,Bool.false_or];exact JN m t
section
variable {d:List bo}
def aaD(a b:bo):Int:=ib b.1 a.1
def kr(a b:bo):Bool:=decide (b.1<=a.1)
theorem OZ(a b:bo):aaD a b<0↔¬kr b a=eH:=by
 unfold aaD kr ib;by_cases h:b.1<a.1
 ·rw[f9 h];simp;omega
 ·rw[g0 h];split<;>simp<;>omega
theorem Ef:Ord kr:=⟨λa b c e d=>g9 (by have:=hZ e;have:=hZ d;omega),λa b=>by
 unfold kr;rw[Bool.or_eq_true,decide_eq_true_eq,decide_eq_true_eq];omega⟩
abbrev ui(s:Sl)(d:List bo):HP:=ae 39 s 8 az d
theorem UL(a b:bo)(h:f8):an xQ 217 #[dq a,dq b] h λv h'=>v=xG xM (aaD a b)/\Sp h h' []:=by refine ts Tryz.func217 ?_ (args:=[a,b]);refine(Sp.refl h).boxed λe g f=>f.boxed λa2 d c=>?_;have c:Sp h d [ac e 39 (az a),ac a2 39 (az b)]:=c;refine⟨b.1,(c.box 1 i0).cell0 i0,a.1,(c.box 0 i0).cell0 i0,(nA b.1 a.1 d).mono ?_⟩;rintro _ _ ⟨rfl,rfl⟩;exact⟨_,i0,i0,.zip c.af⟩
theorem QR{b d:List bo}{y:bo}(c:Sd kr (b++d))(g:∀z∈b,kr z y=eH)(f:∀z∈d,¬kr z y=eH):Sd kr (b++y::d):=
 Sd.app Ef c.left (zH.2 ⟨λz a=>Ef.An (f z a),c.right⟩) λx e z a=>by
  rcases qV.1 a with rfl|a
  ·exact g x e
  ·exact c.uz x e z a
theorem Iz(X M Y:List bo)(a b:Int)(ha:a=(ii X:Int))(hb:b=(ii X+ii M:Nat))(al:ii X+ii M+ii Y<=2^40)(H:aa B h0 h (ui s (X++(M++Y))::As)):
  an xQ 326 #[s,xG xM a,xG xM b,.func (.func 217) #[] #[]] h λv h'=>v=.tuple #[]/\∃Z,Sd kr Z/\cb kr M Z/\aa B h0 h' (ui s (X++(Z++Y))::As):=by
 refine ts Tryz.func326 ?_ (.two .n (.inn (.loop [(8,aS)] [(8,10),(12,53)] (.two .n (.two (.inn (.two .n (.inn (.loop [(9,aS)] [(9,10),(18,53)] (.two (.join [] [(18,35)] .n) .n))))) .n))))) (args:=[s,(a:Int),(b:Int),(.func (.func 217) #[] #[])]);subst ha;subst hb;rw[ai ((ii X:Int)+1)];refine aq (λt:Nat×List bo=>((ii X+1+t.1:Nat):Int)) (λt h'=>(t.1+1<=ii M∨t.1=0)/\Sd kr t.2/\cb kr (M.take (t.1+1)) t.2/\t.2.length=ii (M.take (t.1+1))/\aa B h0 h' (ui s (X++(t.2++(M.drop (t.1+1)++Y)))::As)) (λt=>ii M-t.1) (0,M.take 1) i0 ?_ ?_
 ·refine⟨.inr i0,?_,cb.refl _,i0,?_⟩
  ·cases M with
   |nil=>exact List.Pairwise.nil
   |cons x M=>exact zH.2 ⟨λ_ h=>mq,i9⟩
  ·rw[<-qn (M.take (0+1)),qA];exact H
 rintro⟨t,P⟩ h1 ⟨ht,F,r,ad,O⟩;dsimp only at*;refine ag (λe=>?_) (λe=>?_)
 ·have I:t+1<ii M:=i4
  obtain⟨y,hy⟩:∃y,y=M[t+1]:=⟨_,rfl⟩
  have J:ii P=t+1:=by rw[ad];simp;omega
  have eD:M.drop (t+1)=y::M.drop (t+1+1):=by rw[qJ I,hy]
  rw[eD]at O;refine aq (λu:List bo×List bo=>((ii X+ii u.1:Nat):Int)) (λu h'=>u.1++u.2=P/\(∀z∈u.2,¬kr z y=eH)/\aa B h0 h' (ui s (X++(u.1++(y::(u.2++(M.drop (t+1+1)++Y)))))::As)) (λu=>ii u.1) (P,[]) (by dsimp only;rw[J];congr 1;omega) ⟨i9,i9,by simpa using O⟩ ?_;rintro⟨c,d⟩ h2 ⟨K,f,L⟩;dsimp only at*;have ah:ii c+ii d=t+1:=by rw[<-J,<-K,qt]
  have k:∀{h':f8},(∀z∈c,kr z y=eH)->aa B h0 h' (ui s (X++(c++(y::(d++(M.drop (t+1+1)++Y)))))::As)->
    ∃l:Nat×List bo,qe xM (((ii X+1+t:Nat):Int)+1)=((ii X+1+l.1:Nat):Int)/\((l.1+1<=ii M∨l.1=0)/\Sd kr l.2/\cb kr (M.take (l.1+1)) l.2/\l.2.length=ii (M.take (l.1+1))/\aa B h0 h' (ui s (X++(l.2++(M.drop (l.1+1)++Y)))::As))/\M.length-l.1<ii M-t:=λ{h'} hle H'=>by
   refine⟨(t+1,c++y::d),by dsimp only;rw[ai _];omega,⟨.inl i6,?_,?_,?_,?_⟩,i6⟩
   ·exact QR n3 hle f
   ·try dsimp only
    rw[aD M (t+1) I,<-hy];have h1:cb kr (M.take (t+1)++[y]) (P++[y]):=r.app (cb.refl _);refine h1.trans ?_;rw[<-K,qn];have h2:cb kr (d++[y]) ([y]++d):=cb.RC Ef λx hx z S=>by rw[qp.1 S];exact f x hx
    exact(cb.refl _).app h2
   ·(try dsimp only);simp;omega
   ·try dsimp only
    have:X++((c++y::d)++(M.drop (t+1+1)++Y))=X++(c++(y::(d++(M.drop (t+1+1)++Y)))):=i9
    rw[this];exact H'
  obtain⟨D,U⟩:∃D,D=X++(c++(y::(d++(M.drop (t+1+1)++Y)))):=⟨_,rfl⟩
  refine bG (λ_ h'=>∃(Q:List bo) (z:bo),c=Q++[z]/\¬kr z y=eH/\aa B h0 h' (ui s D::As)) ?_ ?_
  ·rw[<-U]at L k;refine ag (λT=>?_) (λT=>⟨trivial,k (λz S=>?_) L⟩)
   ·have N:c≠[]:=λh=>by rw[h]at T;simp at T
    obtain⟨Q,z,o⟩:∃(Q:List bo) (z:bo),c=Q++[z]:=⟨c.dropLast,c.getLast N,(yE N).symm⟩
    have ab:ii c=ii Q+1:=q0
    have g1:D[ii X+ii c]?=dB y:=by rw[U,qh i4,show X.length+ii c-ii X=ii c by omega,qh i4,qW];rfl
    have g2:D[ii X+ii c-1]?=dB z:=by rw[U,qh i4,show X.length+ii c-1-ii X=ii Q by omega,o,qn,qh (qm _),qW];rfl
    obtain⟨R,q⟩:=qj.1 g1;obtain⟨V,E⟩:=qj.1 g2;refine(L.seq 0 i0 λ_=>rfl).cX (g:=az) _ i0 R y u7 ?_;have W:qe xM (((ii X+ii c:Nat):Int)-1)=((ii X+ii c-1:Nat):Int):=j4
    rw[W];refine(L.seq 0 i0 λ_=>rfl).cX (g:=az) _ i0 V z t7 (dL lx ?_);refine(UL y z h2).mono ?_;rintro _ h3 ⟨rfl,R3⟩;have G:=L.up R3.af;refine⟨_,i0,trivial,ag (λe3=>⟨Q,z,o,(OZ y z).1 e3,G⟩) λe3=>k (λw m=>?_) G⟩;have p:kr z y=eH:=by
     by_cases hc:kr z y=eH
     ·exact hc
     ·exact absurd ((OZ y z).2 hc) e3
    rw[o]at m;rcases qy.1 m with m|m
    ·refine Ef.trans _ _ _ ?_ p;have:Sd kr (Q++[z]):=by rw[<-o];exact Sd.left (v:=d) n3
     exact this.uz w m z i9
    ·rw[qp.1 m];exact p
   ·have:c=[]:=by
     cases c with
     |nil=>rfl
     |cons x P=>exfalso;simp only[zh]at T;omega
    rw[this]at S;cases S
  ·rintro _ h3 ⟨Q,z,o,p,G⟩;have ab:ii c=ii Q+1:=q0
   have A:D=(X++Q)++z::([]++y::(d++(M.drop (t+1+1)++Y))):=by rw[U,o];simp
   obtain⟨q1,q2,q3,q4⟩:=Ju (X++Q) [] (d++(M.drop (t+1+1)++Y)) z y (i:=ii X+ii c-1) (j:=ii X+ii c) i7 i7;rw[<-A]at q1 q2 q3 q4;obtain⟨V,E⟩:=qj.1 q1;obtain⟨R,q⟩:=qj.1 q2;have W:qe xM (((ii X+ii c:Nat):Int)-1)=((ii X+ii c-1:Nat):Int):=j4
   rw[W];refine(G.seq 0 i0 λ_=>rfl).cX (g:=az) _ i0 V z t7 ?_;refine(G.seq 0 i0 λ_=>rfl).cX (g:=az) _ i0 R y u7 ?_;refine G.set aj 0 i0 (λ_=>rfl) i0 (ii X+ii c) i0 R z i0 i0 i0 λh4 H4=>⟨trivial,?_⟩
   refine H4.set aj 0 i0 (λ_=>rfl) i0 (ii X+ii c-1) i0 (by simpa using V) y i0 i0 i0 λh5 H5=>⟨trivial,?_⟩
   refine⟨(Q,z::d),l4,⟨by dsimp only;rw[<-K,o];simp,?_,?_⟩,i6⟩
   ·try dsimp only
    intro w m;rcases qV.1 m with rfl|m
    ·exact p
    ·exact f w m
   ·try dsimp only
    have:X++(Q++(y::(z::d++(M.drop (t+1+1)++Y))))=(X++Q)++y::([]++z::(d++(M.drop (t+1+1)++Y))):=i9
    rw[this,<-q4];exact H5
 ·refine⟨i0,P,F,?_,?_⟩
  ·rw[qg i4]at r;exact r
  ·rw[List.drop_of_length_le i4]at O;simpa using O
end
theorem Pa(d:List bo)(n:Int)(c:n=ii d)(j:ii d<20)(H:aa B h0 h (ui s d::As)):
  an xQ 286 #[s,xG xM n,.func (.func 217) #[] #[]] h λv h'=>v=.tuple #[]/\∃a,Sd kr a/\cb kr d a/\aa B h0 h' (ui s a::As):=by
 refine ts Tryz.func286 ?_ (.two .n (.two .n (.two (.inn (.loop [(7,aS),(8,aS)] [(7,9),(11,23)] .n)) (.two .n (.inn (.loop [(6,aS)] [(6,10),(28,63)] (.two .n (.inn (.two .n (.two (.inn (.loop [(7,aS),(8,aS)] [(7,9),(33,49)] .n)) .n)))))))))) (args:=[s,(n:Int),(.func (.func 217) #[] #[])]);refine aq (λ_:Unit=>((0:Int),(20:Int))) (λ_ h'=>h'=h) (λ_=>0) () i0 i0 ?_;rintro _ _ rfl;refine ag (λe=>by have e:(20:Int)<=n:=e;omega) λ_=>?_;refine(Iz [] d [] 0 n i0 n7 i7 l6).mono ?_;rintro _ g ⟨rfl,a,i,f,b⟩;refine⟨(),i0,?_⟩;refine aq (λ_:Unit=>(20:Int)) (λ_ h'=>h'=g) (λ_=>0) () i0 i0 ?_;rintro _ _ rfl;refine ag (λe=>by have e:(20:Int)<n:=e;omega) λ_=>?_;exact⟨i0,a,i,f,k9⟩
theorem Gw(d:List bo)(c:ii d<20)(H:aa B h0 h (ui s d::As)):
  an xQ 216 #[s,.func (.func 217) #[] #[]] h λv h'=>v=.tuple #[]/\∃a,Sd kr a/\cb kr d a/\aa B h0 h' (ui s a::As):=by
 refine ts Tryz.func216 ?_ (args:=[s,(.func (.func 217) #[] #[])]);have b:=(H.own 0 i0).len;refine(Pa d _ (by rw[b]) c H).mono ?_;rintro _ e ⟨rfl,R⟩;exact⟨(),i0,i0,R⟩
variable {α β:Type} {E:iy α β} {e:Nat} {ll:List β}
section
variable {k:Nat} {f:α->aR}
def oY(E:iy α β)(ps:List (α×β)):HP:=⟨λh q=>∀p∈ps,E.p h q p.1 p.2,λa b p h=>E.loc (a p h) b,λa c p h=>E.mono (a p h) c⟩
theorem aa.ach(H:aa B h0 h (bm e s k f E ll::As)):∃ps:List (α×β),ps.map zi=ll/\aa B h0 h (oY E ps::ae e s k f (ps.map qq)::As):=by
 have n:aa B h0 h (HP.ex (λps:List (α×β)=>((ae e s k f (ps.map qq)).sep (oY E ps)).and (ps.map zi=ll))::As):=by
  refine H.dX 0 i0 λq ⟨rs,o,a,b,c,d,w⟩=>⟨rs.zip ll,?_⟩
  have u:(rs.zip ll).map qq=rs:=List.map_fst_zip i4;have t:(rs.zip ll).map zi=ll:=List.map_snd_zip i4;refine⟨⟨λb=>s.on b,o,λx g v=>(b x g).2 v,λx g=>(b x g).1,c,?_,?_⟩,t⟩
  ·rw[u];exact⟨a,λ_ g=>g⟩
  ·intro p l;obtain⟨i,r,rfl⟩:=qD l;rw[List.length_zip]at r;rw[List.getElem_zip];exact w i _ _ (qc i4) (qc i4)
 obtain⟨ps,j⟩:=n.oz;obtain⟨j,m⟩:=j.oA;exact⟨ps,m,j.lK⟩
theorem aa.afr{ps a:List (α×β)}(n:∀p∈a,p∈ps)(H:aa B h0 h (oY E ps::ae e s k f (a.map qq)::As)):aa B h0 h (bm e s k f E (a.map zi)::As):=by
 have o:aa B h0 h ((ae e s k f (a.map qq)).sep (oY E ps)::As):=H.iQ;refine o.dX 0 i0 λq ⟨z,u,t,b,c,d,w⟩=>?_;refine⟨a.map qq,u,d.1,λx m=>⟨b x (d.2 x m),λv=>t x (d.2 x m) v⟩,c,i9,λi r l g j=>?_⟩;rw[qL]at g j;cases h3:a[i]? with
 |none=>rw[h3]at g;cases g
 |some y=>
  rw[h3]at g j;injection g with g;injection j with j
  subst g j;exact w y (n y (zT h3))
end
theorem UM(l:List aA)(x:ii l<20)(H:aa B h0 h (bm 39 s 8 az fE l::As)):
  an xQ 216 #[s,.func (.func 217) #[] #[]] h λv h'=>v=.tuple #[]/\aa B h0 h' (bm 39 s 8 az fE (l.mergeSort Ik)::As):=by
 obtain⟨ps,i,j⟩:=Qw.aa.ach H;have o:ii ps=ii l:=by rw[<-i,qu]
 have g:∀p∈ps,p.1.1=p.2.seq:=λp e=>(j.at 0 i0 p e).seq;refine(Gw (ps.map qq) i7 j.gp).mono ?_;rintro _ w ⟨rfl,f,t,n,R⟩;refine⟨i0,?_⟩;have u:f=(ps.map qq).mergeSort kr:=LL Ef t n;obtain⟨d,c⟩:∃d,d=ps.mergeSort λa b=>kr a.1 b.1:=⟨_,rfl⟩
 have r:d.map qq=f:=by rw[c,u];exact yP λ_ _ _ _=>rfl
 have q:d.map zi=l.mergeSort Ik:=by rw[c,<-i];refine yP λa k b m=>?_;unfold kr Ik;rw[g a k,g b m]
 rw[<-q];refine Qw.aa.afr (ps:=ps) (λp e=>?_) (by rw[r];exact R.gp);rw[c]at e;exact wM.1 e
theorem UN(l:Sl)(w:bO)(rs:List Sl)(h:f8)(hl:fq h (λb=>b<h.size) l 1 aw w rs)(hn:ii w<=2^20)(hc:∀c∈w,ii c<=2^20)(a0:∀r∈rs,r.len<=r.cap)(ay:ii (fA w)<20):
  an xQ 146 #[l] h λv h'=>∃r:Sl,v=r/\(∀m∈fA w,cw m)/\Sp h h' [bm 39 r 8 az fE (fA w)]:=by
 refine ts Tryz.func146 ?_ (.two .n (.two .n (.two (.two .n (.inn (.loop [(3,cK),(18,aS)] [(3,4),(5,8),(18,33)] .n))) (.two .n (.two .n (.two (.two .n (.inn (.loop [(8,cK),(36,aS)] [(8,9),(11,16),(36,73)] (.two .n (.two .n (.two (.inn (.two .n (.two .n (.two .n (.two .n (.two .n (.two .n (.two (.join [] [(59,66)] .n) .n)))))))) .n)))))) .n))))));have b3:=hl.FJ;have X:Sp h h [ci 1 aw [],ae 288 ⟨ez,0,0⟩ 5 co []]:=((Sp.refl h).Js 1 aw).nil 288 5 co;refine aq (λt:Nat×Sl=>(t.2,(t.1:Int))) (λt h'=>t.1<=ii w/\∃(L:List (lq×Pg)) (pool:List (Sl×aP)),L.map zi=(w.take t.1).filterMap ck/\L.length<=t.1/\(∀p∈L,UK w rs pool p)/\
  Sp h h' [ci 1 aw pool,ae 288 t.2 5 co (L.map qq)]) (λt=>ii w-t.1) (0,⟨ez,0,0⟩) i0 ⟨zb _,[],[],i0,qm _,λ_ s=>absurd s yt,X⟩ ?_
 rintro⟨i,o⟩ h1 ⟨hi,L,pool,hL,bd,hP,X⟩;dsimp only at hi hL bd X⊢;refine ag (λe=>?_) λe=>?_
 ·have f:i<ii w:=i4
  refine(fq.up hl X.af).SV i i0 f λa r b4 hr ab=>?_;have ax:r∈rs:=zT ab;refine(UI r w[i] h1 hr (by have:=hc _ (qf f);omega) (a0 r ax)).mono ?_;rintro _ h2 (⟨s,rfl,R2⟩|⟨g,r2,s,rfl,R2⟩)
  ·have H2:=X.up R2.af;refine⟨(rU,eL),i0,?_⟩;refine H2.alloc aj i0 λa5 h3 Z=>?_;have Z:Sp h h3 [ci 1 aw pool,ae 288 o 5 co (L.map qq),ac a5 288 (co rU)]:=Z;refine Z.storeAll aj 2 i0 i0 (co rU) i0 i0 i0 i0 λh4 H4=>?_;refine bf (λe=>j1) λ_=>?_;refine⟨(i+1,o),j0,⟨f,L,pool,?_,i6,hP,H4.bB [0,1]⟩,i6⟩
   try dsimp only
   rw[aD _ _ f,vt,hL];simp[s]
  ·have H2:Sp h h2 [ci 1 aw pool,ae 288 o 5 co (L.map qq),kP r2 1 aw g.bears]:=X.comp R2;have W:=XX s;obtain⟨y,hy⟩:∃y:lq,y=(g.seq,g.num,g.many,r2,r):=⟨_,rfl⟩
   refine⟨(y,eH),by rw[hy],?_⟩;refine H2.alloc aj i0 λa5 h3 Z=>?_;have Z:Sp h h3 [ci 1 aw pool,ae 288 o 5 co (L.map qq),kP r2 1 aw g.bears,ac a5 288 (co rU)]:=Z;refine Z.storeAll aj 3 i0 i0 (co y) i0 i0 i0 i0 λh4 H4=>?_;have H4:Sp h h4 [ci 1 aw pool,ae 288 o 5 co (L.map qq),kP r2 1 aw g.bears,ac a5 288 (co y)]:=H4;refine bf (λ_=>?_) λe=>j1
   refine⟨y,(H4.box 3 i0).aE _ i0,?_⟩;refine H4.lit aj co XU i0 [y] i0 (show 1*5<=2^20 by decide) i0 λv7 h5 H5=>?_;have H5:Sp h h5 [ci 1 aw pool,ae 288 o 5 co (L.map qq),kP r2 1 aw g.bears,ac a5 288 (co y),ae 288 v7 5 co [y]]:=H5;refine H5.append aj 1 i0 XU ⟨_,_,i0,i0⟩ i0 i5 (λ_=>rfl) (H5.seq 4 i0 λ_=>rfl) XT i7 λv8 h6 H6=>?_;have H6:Sp h h6 [ci 1 aw pool,ae 288 v8 5 co (L.map qq++[y]),kP r2 1 aw g.bears,ac a5 288 (co y),ae 288 v7 5 co [y]]:=H6;have H7:Sp h h6 [ci 1 aw pool,kP r2 1 aw g.bears,ae 288 v8 5 co (L.map qq++[y])]:=H6.bB [0,2,1];have S:=H7.Jt;refine⟨(i+1,v8),j0,⟨f,L++[(y,g)],(r2,g.bears)::pool,?_,i7,?_,by simpa using S⟩,i6⟩
   ·try dsimp only
    rw[aD _ _ f,vt,qM,hL];simp[s]
   ·intro p a1;rcases qy.1 a1 with N|N
    ·exact(hP p N).more _
    ·rw[qp.1 N,hy];exact⟨⟨i0,i0,i0⟩,List.mem_cons_self,W.1,W.2.1,i,ab,by rw[qc f];exact congrArg dB W.2.2.symm⟩
 ·have f:i=ii w:=i4
  subst f;rw[qN]at hL;obtain⟨P,H⟩:∃P,P=L.map zi:=⟨_,rfl⟩
  have b0:ii L<=2^20:=i4
  refine X.aey Value.bool λB h7 H7=>?_;have H7:=H7.rD 39 8 az fE;refine aq (λt:Nat×Sl=>(t.2,(t.1:Int))) (λt h'=>t.1<=ii L/\∃out:List aA,out=((L.take t.1).map zi).foldl (dK P) []/\out.length<=t.1/\(∀m∈out,cw m)/\
   Sp h h' [ci 1 aw pool,ae 288 o 5 co (L.map qq),nh B Value.bool (out.map lI),bm 39 t.2 8 az fE out]) (λt=>ii L-t.1) (0,⟨ez,0,0⟩) i0 ⟨zb _,[],i0,qm _,λ_ s=>absurd s yt,H7⟩ ?_
  rintro⟨j,u⟩ h8 ⟨hj,out,z,br,U,S⟩;dsimp only at hj z br S⊢;refine ag (λe=>?_) λe=>?_
  ·have F:=(S.own 1 i0).len;simp only[qu]at F;have A:j<ii L:=i4
   have D:((L.take (j+1)).map zi).foldl (dK P) []=dK P out L[j].2:=by rw[aD _ _ A,qM,zB,<-z];rfl
   have s:=hP _ (qf A);have skip:∀{h':f8} {Bs:List HP},dK P out L[j].2=out->Sp h h' (ci 1 aw pool::ae 288 o 5 co (L.map qq)::nh B Value.bool (out.map lI)::bm 39 u 8 az fE out::Bs)->
     ∃t:Nat×Sl,(u,qe xM ((j:Int)+1))=(t.2,(t.1:Int))/\(t.1<=ii L/\∃out:List aA,out=((L.take t.1).map zi).foldl (dK P) []/\out.length<=t.1/\(∀m∈out,cw m)/\
   Sp h h' [ci 1 aw pool,ae 288 o 5 co (L.map qq),nh B Value.bool (out.map lI),bm 39 t.2 8 az fE out])/\L.length-t.1<ii L-j:=λ{h' Bs} e' H'=>
    ⟨(j+1,u),j0,⟨A,out,by rw[D,e'],i6,U,H'.bB [0,1,2,3]⟩,i6⟩
   refine(S.seq 1 i0 λ_=>rfl).cX (g:=co) j i0 (by simpa using A) L[j].1 i9 ?_;refine S.alloc aj i0 λd h9 H9=>?_;have H9:Sp h h9 [ci 1 aw pool,ae 288 o 5 co (L.map qq),nh B Value.bool (out.map lI),bm 39 u 8 az fE out,ac d 288 (co rU)]:=H9;refine H9.storeAll aj 4 i0 i0 (co L[j].1) i0 i0 i0 i0 λap q=>?_;have q:Sp h ap [ci 1 aw pool,ae 288 o 5 co (L.map qq),nh B Value.bool (out.map lI),bm 39 u 8 az fE out,ac d 288 (co L[j].1)]:=q;refine⟨L[j].1.2.1,(q.box 4 i0).cell i0,bx (λe1=>skip ?_ q) λe1=>?_⟩
   ·unfold dK;rw[f9 (by rw[<-s.ok.2.1];exact e1)]
   have O:¬L[j].2.num≠0:=by rw[<-s.ok.2.1];exactλN=>N e1
   refine⟨L[j].1,(q.box 4 i0).aE _ i0,(QN o L L[j] ap (q.seq 1 i0 λ_=>rfl) i4 (λp s=>(hP p s).ok) (qf A) (by have:=s.many;omega)).mono ?_⟩;rintro _ ar (⟨hg,⟨o2,rfl⟩,R11⟩|⟨o2,G,hg,hGL,hGn,rfl,R11⟩)
   ·refine⟨(o2,eL),i0,aQ (λ_=>skip ?_ (q.up R11.af)) λe=>j1⟩;unfold dK;rw[g0 O,H,hg]
   have M:Sp h ar [ci 1 aw pool,ae 288 o 5 co (L.map qq),nh B Value.bool (out.map lI),bm 39 u 8 az fE out,ac d 288 (co L[j].1),ae 288 o2 5 co (G.map qq)]:=q.comp R11;refine⟨(o2,eH),i0,aQ (λe=>j1) λ_=>?_⟩;refine(QQ o2 G ar (M.seq 5 i0 λ_=>rfl) (λp s=>?_) i4).mono ?_
   ·have hq:=hP p (hGL p s);obtain⟨k,bq,a6⟩:=hq.cell;exact⟨M.acO hq.bears,Seq.up (hl.row k _ _ bq a6) M.af,hq.len⟩
   rintro _ bl ⟨m,x,ok,rfl,a9,hz,hw⟩;have a4:Sp h bl [ci 1 aw pool,ae 288 o 5 co (L.map qq),nh B Value.bool (out.map lI),bm 39 u 8 az fE out,ac d 288 (co L[j].1),ae 288 o2 5 co (G.map qq),aZ x m]:=M.comp a9;refine⟨(x,ok),i0,?_⟩;refine a4.alloc aj i0 λI a7 T=>?_;have T:Sp h a7 [ci 1 aw pool,ae 288 o 5 co (L.map qq),nh B Value.bool (out.map lI),bm 39 u 8 az fE out,ac d 288 (co L[j].1),ae 288 o2 5 co (G.map qq),aZ x m,ac I 39 (az cm)]:=T;refine T.storeAll aj 7 i0 i0 (az x) i0 i0 i0 i0 λad E=>?_;have E:Sp h ad [ci 1 aw pool,ae 288 o 5 co (L.map qq),nh B Value.bool (out.map lI),bm 39 u 8 az fE out,ac d 288 (co L[j].1),ae 288 o2 5 co (G.map qq),aZ x m,ac I 39 (az x)]:=E;refine⟨x,(E.box 7 i0).aE _ i0,(Dx x m ad (E.at 6 i0) hz).mono ?_⟩;rintro _ a2 ⟨K,rfl,am⟩;have J:Sp h a2 [ci 1 aw pool,ae 288 o 5 co (L.map qq),nh B Value.bool (out.map lI),bm 39 u 8 az fE out,ac d 288 (co L[j].1),ae 288 o2 5 co (G.map qq),aZ x m,ac I 39 (az x),ae 5 K 1 aw (bJ m)]:=E.comp am;refine⟨K,i0,EE aj ⟨_,i0,i0⟩ ⟨_,i0,i0⟩ ⟨_,i0,i0⟩ (am.seq 0 i0 λ_=>rfl) ?_⟩;refine aT (aQ (λV=>skip ?_ J) λV=>?_)
   ·have V:ok=eL:=V;rw[V]at hw;unfold dK;rw[g0 O,H,hg];(try dsimp only);rw[hw];rfl
   have V:ok=eH:=V;rw[V]at hw;refine(J.map 2 i0).lookup acf acg (u0:=eL) XY ⟨(jN ⟨(bJ m).toArray⟩ (out.map lI)).getD eL,i0,?_⟩;refine bf (λes=>skip ?_ J) λes=>?_
   ·rw[JN]at es;unfold dK;rw[g0 O,H,hg];(try dsimp only);rw[hw];exact f9 es
   have b2:=es;rw[JN]at es;have a3:jN ⟨(bJ m).toArray⟩ (out.map lI)=ez:=aaC m out es;refine J.aez eH 2 i0 acf acg λa8 ah=>?_;rw[Do eH a3]at ah;have Q:aa (λb=>b<h.size) h a8 [ci 1 aw pool,ae 288 o 5 co (L.map qq),nh B Value.bool (out.map lI++[lI m]),bm 39 u 8 az fE out,ac d 288 (co L[j].1),ae 288 o2 5 co (G.map qq),EA fE x m,ac I 39 (az x),ae 5 K 1 aw (bJ m)]:=ah;refine⟨x,(Q.box 7 i0).aE _ i0,?_⟩;refine Q.mO aj 3 6 i5 (a:=x) i0 i0 agz i0 i5 (λ_=>rfl) ads (parts:=#[(0,dq x)]) j3 i5 i4 λal bb Y=>?_;have Y:Sp h bb [ci 1 aw pool,ae 288 o 5 co (L.map qq),nh B Value.bool (out.map lI++[lI m]),bm 39 al 8 az fE (out++[m]),ac d 288 (co L[j].1),ae 288 o2 5 co (G.map qq),emp,ac I 39 (az x),ae 5 K 1 aw (bJ m)]:=Y;refine⟨(j+1,al),j0,⟨A,out++[m],?_,i7,?_,?_⟩,i6⟩
   ·try dsimp only
    rw[D];unfold dK;rw[g0 O,H,hg];(try dsimp only);rw[hw];exact(g0 (by rw[es];exact Bool.false_ne_true)).symm
   ·intro y hy;rcases qy.1 hy with N|N
    ·exact U y N
    ·rw[qp.1 N];exact hz
   ·rw[qM];exact Y.bB [0,1,2,3]
  ·have F:=(S.own 1 i0).len;simp only[qu]at F;have bk:j=ii L:=i4
   rw[bk,qN]at z;have ej:out.mergeSort Ik=fA w:=by unfold fA Oo;rw[z,H,hL]
   have ao:ii out<20:=by rw[<-ej,List.length_mergeSort]at ay;exact ay
   refine(UM out ao (S.bB [3])).mono ?_;rintro _ b1 ⟨rfl,R⟩;exact⟨(),i0,u,i0,by rw[<-ej];exactλm hm=>U m (wM.1 hm),by rw[<-ej];exact R⟩
theorem aa.afs{α:Type}{B:av}{o h:f8}{As:List HP}{e d k:Nat}{s:Sl}{f:α->aR}{a:List (List α)}(H:aa B o h (dc e s d k f a::As))(n:∀x,ii (f x)=k):
  ∃rs:List Sl,fq h (λb=>b<h.size) s k f a rs/\∀r∈rs,r.len<=r.cap:=by
 obtain⟨rs,j,H⟩:=H.rZ;have H:=aa.AW H;have own:∀(i:Nat) (c:i<ii a),(ae e s 1 aX rs::bn d k f rs a)[i+1]?=dB (ae d (rs[i]'(by omega)) k f a[i]):=λi c=>by
  rw[qo];exact fk j i c
 refine⟨rs,⟨H.seq 0 i0 λ_=>rfl,j,λi r l m g=>?_⟩,λr q=>?_⟩
 ·have c:i<ii a:=(qj.1 g).1;have h3:=H.seq (i+1) (own i c) n;have p:rs[i]'(by omega)=r:=by rw[qc i4]at m;simpa using m
  have d:a[i]=l:=by rw[qc c]at g;simpa using g
  rw[p,d]at h3;exact h3
 ·obtain⟨i,c,rfl⟩:=qD q;exact(H.own (i+1) (own i i4)).cap
theorem UO{pw:eX}{a:eX}{d:aY}{h:f8}(s b:Sl)(k:bW h a 102 (eG pw d s b))(n:dY h s 1 aw d.l)(ok:gy d)(e:ii (fA d.l)<20):
  an xQ 96 #[xI (dB a)] h λv h'=>∃r:Sl,v=r/\(∀m∈fA d.l,cw m)/\Sp h h' [bm 39 r 8 az fE (fA d.l)]:=by
 refine ts Tryz.func96 ?_;have g:=ok.len;have j:=ok.room;refine(tH s b k n ok).mono ?_;rintro _ g ⟨i,rfl,f⟩;obtain⟨rs,p,u⟩:=f.afs λ_=>rfl;refine⟨i,i0,(UN i d.l rs g p i4 (λc t=>by rw[ok.cell c t];decide) u e).mono ?_⟩;rintro _ j ⟨r,rfl,o,q⟩;exact⟨r,i0,r,i0,o,(f.comp q).bB [1]⟩
abbrev gT(p:bZ):aR:=[.pointer p]
def LV(pw:eX)(h:f8):bZ->Option aY->Prop
 |none,ez=>True
 |some a,dB d=>gy d/\(fA d.l).length<20/\∃s b:Sl,bW h a 102 (eG pw d s b)/\dY h s 1 aw d.l
 |_,_=>False
theorem LV.up{pw:eX}{h h':f8}{p:bZ}{d:Option aY}(x:LV pw h p d)(f:aN (λb=>b<h.size) h h'):LV pw h' p d:=by
 cases p<;>cases d
 ·trivial
 ·exact x
 ·exact x
 ·obtain⟨a,b,s,t,c,rs,e⟩:=x;exact⟨a,b,s,t,c.af f c.lt,rs,fq.up e f⟩
theorem QS{pw:eX}(s:Sl)(O:List bZ)(ds:aF)(h:f8)(hs:Rd h s 1 gT O)(hl:ii O=ii ds)(hn:ii ds<=64)(hd:∀(i:Nat) (p:bZ) (d:Option aY),O[i]?=dB p->ds[i]?=dB d->LV pw h p d):
  an xQ 42 #[s] h λv h'=>∃x:bo,v=.tuple #[dq x,xK (gI ds).isSome]/\(gI ds=ez->x=cm)/\Sp h h' [aZ x ((gI ds).getD gM)]:=by
 refine ts Tryz.func42 ?_ (.two .n (.scope 0 [(5,rS),(6,aS)] [(3,4),(5,7),(8,50)] [.n,.n,.n] [(.two .n (.two .n (.two (.join [] [(17,29)] .n) (.two (.two .n (.inn (.loop [(5,rS),(35,aS)] [(5,6),(8,9),(35,50)] .n))) .n))))] []));have a0:=hs.len;refine(Sp.refl h).alloc aj i0 λu h1 H1=>H1.alloc aj i0 λa2 h2 S=>?_;have S:Sp h h2 [ac u 39 (az cm),ac a2 39 (az cm)]:=S;have S:Sp h h2 [aZ cm gM,ac u 39 (az cm),ac a2 39 (az cm)]:=Qw.aa.cm S;refine aq (λt:Nat×Bool=>(t.2,(t.1:Int)-1)) (λt h'=>t.1<=ii ds/\∃(o:Option aA) (x:bo),o=((ds.take t.1).flatMap fW).foldl gH ez/\t.2=o.isSome/\(o=ez->x=cm)/\
  Sp h h' [aZ x (o.getD gM),ac u 39 (az cm),ac a2 39 (az x)]) (λt=>ii ds-t.1) (0,eL) i0 ⟨zb _,ez,cm,i0,i0,λ_=>rfl,S⟩ ?_
 rintro⟨i,f⟩ h3 ⟨hi,o,x,H,Z,hx,D⟩;dsimp only at hi H Z D⊢;rw[show qe xM ((i:Int)-1+1)=(i:Int)from by rw[ai _];omega];refine ag (λe=>?_) λe=>?_
 ·have hid:i=ii ds:=i4
  rw[hid,qN]at H;have H:gI ds=o:=H.symm;refine⟨x,(D.box 2 i0).aE _ i0,D.storeAll aj 1 i0 i0 (az x) i0 i0 i0 i0 λh4 H4=>?_⟩;refine⟨x,(H4.box 1 i0).aE _ i0,x,by rw[H,Z],by rw[H];exact hx,by rw[H];exact H4.bB [0]⟩
 ·have z:i<ii ds:=i4
  have A:i<ii O:=i4
  obtain⟨d,K⟩:∃d,ds[i]?=dB d:=⟨_,qc z⟩
  have ah:ds[i]=d:=by rw[qc z]at K;injection K
  obtain⟨p,I⟩:∃p,O[i]?=dB p:=⟨_,qc A⟩
  have N:O[i]=p:=by rw[qc A]at I;injection I
  have J:=(hd i p d I K).up D.af;have B:(ds.take (i+1)).flatMap fW=(ds.take i).flatMap fW++fW d:=by rw[aD _ _ z,qZ,ah];simp
  have skip:fW d=[]->∀{h':f8} {Bs:List HP},Sp h h' (aZ x (o.getD gM)::ac u 39 (az cm)::ac a2 39 (az x)::Bs)->
    ∃t:Nat×Bool,(f,(i:Int))=(t.2,(t.1:Int)-1)/\(t.1<=ii ds/\∃(o:Option aA) (x:bo),o=((ds.take t.1).flatMap fW).foldl gH ez/\t.2=o.isSome/\(o=ez->x=cm)/\
  Sp h h' [aZ x (o.getD gM),ac u 39 (az cm),ac a2 39 (az x)])/\ds.length-t.1<ii ds-i:=λem {h' Bs} H'=>
   ⟨(i+1,f),l4,⟨z,o,x,by dsimp only;rw[B,em,qF];exact H,Z,hx,H'.bB [0,1,2]⟩,i6⟩
  refine aT ?_;refine(Seq.up hs D.af).mb i i0 A p (by rw[N]) λa6 _=>?_;cases p with
  |none=>
   cases d with
   |some d=>exact absurd J id
   |none=>exact bf (λ_=>skip i0 D) λe=>j1
  |some a=>
   cases d with
   |none=>exact absurd J id
   |some d=>
    refine bf (λe=>j1) λ_=>?_;obtain⟨ok,X,s1,b1,W,ap⟩:=J;refine(Seq.up hs D.af).mb i i0 A (dB a) (by rw[N]) λa8 _=>?_;refine(ro s1 b1 W).mono ?_;rintro _ _ ⟨rfl,rfl⟩;refine⟨_,i0,bf (λel=>skip (by unfold fW;(try dsimp only);rw[f9 el]) D) λel=>?_⟩;have U:fW (dB d)=fA d.l:=by unfold fW;(try dsimp only);rw[el];rfl
    refine(Seq.up hs D.af).mb i i0 A (dB a) (by rw[N]) λay _=>?_;refine(UO s1 b1 W ap ok X).mono ?_;rintro _ h7 ⟨r,rfl,hz,R7⟩;have H7:Sp h h7 [bm 39 r 8 az fE (fA d.l),aZ x (o.getD gM),ac u 39 (az cm),ac a2 39 (az x)]:=(D.comp R7).bB [3,0,1,2];obtain⟨ps,T,H7⟩:=Qw.aa.ach H7;refine⟨r,i0,?_⟩;have ax:ii ps<20:=by rw[<-qu (f:=zi),T];exact X
    refine aq (λt:Nat×Bool=>(t.2,(t.1:Int))) (λt h'=>t.1<=ii ps/\∃(b:Option aA) (y:bo),b=((ps.take t.1).map zi).foldl gH o/\t.2=b.isSome/\(b=ez->y=cm)/\((y,b.getD gM)=(x,o.getD gM)∨(y,b.getD gM)∈ps)/\
     Sp h h' [oY fE ps,ae 39 r 8 az (ps.map qq),aZ x (o.getD gM),ac u 39 (az cm),ac a2 39 (az y)]) (λt=>ii ps-t.1) (0,f) i0 ⟨zb _,o,x,i0,Z,hx,.inl i0,H7⟩ ?_
    rintro⟨j,g⟩ h8 ⟨hj,b,y,F,P,hy,M,G⟩;dsimp only at hj F P G⊢;have ad:=(G.own 1 i0).len;simp only[qu]at ad;have w:y.1=(b.getD gM).seq:=by
     rcases M with E|E
     ·injection E with h1 h2
      rw[h1,h2];exact(G.at 2 i0).seq
     ·exact(G.at 0 i0 _ E).seq
    refine ag (λe2=>?_) λe2=>?_
    ·have k:j<ii ps:=i4
     have ar:=(G.at 0 i0 _ (qf k)).seq;have Y:((ps.take (j+1)).map zi).foldl gH o=gH b ps[j].2:=by rw[aD _ _ k,qM,zB,<-F];rfl
     refine(G.seq 1 i0 λ_=>rfl).cX (g:=az) j i0 sz ps[j].1 i9 ?_;refine G.alloc aj i0 λV h9 Q=>?_;have Q:Sp h h9 [oY fE ps,ae 39 r 8 az (ps.map qq),aZ x (o.getD gM),ac u 39 (az cm),ac a2 39 (az y),ac V 39 (az cm)]:=Q;refine Q.storeAll aj 5 i0 i0 (az ps[j].1) i0 i0 i0 i0 λam c=>?_;have c:Sp h am [oY fE ps,ae 39 r 8 az (ps.map qq),aZ x (o.getD gM),ac u 39 (az cm),ac a2 39 (az y),ac V 39 (az ps[j].1)]:=c;have take:gH b ps[j].2=dB ps[j].2->∀{h':f8} {Bs:List HP},Sp h h' (oY fE ps::ae 39 r 8 az (ps.map qq)::aZ x (o.getD gM)::ac u 39 (az cm)::ac a2 39 (az ps[j].1)::Bs)->
       ∃t:Nat×Bool,(eH,qe xM ((j:Int)+1))=(t.2,(t.1:Int))/\(t.1<=ii ps/\∃(b:Option aA) (y:bo),b=((ps.take t.1).map zi).foldl gH o/\t.2=b.isSome/\(b=ez->y=cm)/\((y,b.getD gM)=(x,o.getD gM)∨(y,b.getD gM)∈ps)/\
     Sp h h' [oY fE ps,ae 39 r 8 az (ps.map qq),aZ x (o.getD gM),ac u 39 (az cm),ac a2 39 (az y)])/\ps.length-t.1<ii ps-j:=λem {h' Bs} H'=>
      ⟨(j+1,eH),j0,⟨k,dB ps[j].2,ps[j].1,by dsimp only;rw[Y,em],i0,(λE=>by cases E),.inr (qf k),H'.bB [0,1,2,3,4]⟩,i6⟩
     refine aQ (λR=>?_) λR=>?_
     ·refine⟨ps[j].1,(c.box 5 i0).aE _ i0,c.storeAll aj 4 i0 i0 (az ps[j].1) i0 i0 i0 i0 λa3 al=>take ?_ al⟩;have:b=ez:=by cases b with|none=>rfl|some _=>rw[P]at R;cases R
      rw[this];rfl
     ·obtain⟨m',L⟩:∃m',b=dB m':=by cases b with|none=>rw[P]at R;cases R|some m=>exact⟨m,rfl⟩
      rw[L]at w;have w:y.1=m'.seq:=w;refine⟨ps[j].1.1,(c.box 5 i0).cell0 i0,y.1,(c.box 4 i0).cell0 i0,ag (λe3=>?_) λe3=>?_⟩
      ·refine⟨ps[j].1,(c.box 5 i0).aE _ i0,c.storeAll aj 4 i0 i0 (az ps[j].1) i0 i0 i0 i0 λa4 ab=>take ?_ ab⟩;rw[L];unfold gH;(try dsimp only);exact f9 i4
      ·refine⟨(j+1,g),j0,⟨k,b,y,?_,P,hy,M,c.bB [0,1,2,3,4]⟩,i6⟩
       try dsimp only
       rw[Y,L];unfold gH;(try dsimp only);exact(g0 i4).symm
    ·have ao:j=ii ps:=i4
     rw[ao,qN,T]at F;refine⟨(i+1,g),l4,⟨z,b,y,?_,P,hy,?_⟩,i6⟩
     ·try dsimp only
      rw[B,zB,<-H,U];exact F
     ·rcases M with E|E
      ·injection E with q1 q2
       have:=G.bB [2,3,4];rw[q2];rw[q1]at this⊢;exact this
      ·have Q:Sp h h8 [aZ y (b.getD gM),ae 39 r 8 az (ps.map qq),aZ x (o.getD gM),ac u 39 (az cm),ac a2 39 (az y)]:=G.dX 0 i0 λq hq=>hq _ E;exact Q.bB [0,3,4]
def fj(m:aA)(d:aY):bO:=if(bH m d.l).length<=d.room then bH m d.l else(jc m d.l).take d.room
theorem Ya{pw a:eX}{d:aY}{h:f8}(s b:Sl)(x:bo)(m:aA)(i:bW h a 102 (eG pw d s b))(t:dY h s 1 aw d.l)(ok:gy d)(o:dh h x m)(w:cw m):
  an xQ 44 #[xI (dB a),dq x] h λv h'=>∃r:Sl,v=r/\Sp h h' [dC r (fj m d)]:=by
 refine ts Tryz.func44 ?_ (args:=[(dB a),x]);refine(Sp.refl h).boxed λq G f=>?_;have f:Sp h G [ac q 39 (az x)]:=f;refine⟨x,(f.box 0 rfl).aE _ rfl,(rp s b x m (i.af f.af i.lt) (by obtain⟨rs,e⟩:=t;exact⟨rs,fq.up e f.af⟩) ok (o.up f.af) w).mono ?_⟩;rintro _ B ⟨n,rfl,y⟩;have g:Sp h B [ac q 39 (az x),dC n (bH m d.l)]:=f.comp y;have A:=(y.rE).1;have j:=i.af g.af i.lt;refine⟨n,i0,(Du s b j).mono ?_⟩;rintro _ _ ⟨rfl,rfl⟩;refine⟨_,i0,ag (λe=>?_) λe=>?_⟩
 ·have e:(n.len:Int)<=(d.room:Int):=e;refine⟨n,i0,?_⟩;unfold fj;rw[f9 i4];exact g.bB [1]
 ·have e:¬(n.len:Int)<=(d.room:Int):=e;refine⟨x,(g.box 0 rfl).aE _ rfl,(HR s b x m j (by obtain⟨rs,e⟩:=t;exact⟨rs,fq.up e g.af⟩) ok (o.up g.af) w).mono ?_⟩;rintro _ h3 ⟨c,rfl,p⟩;have z:=g.comp p;have k:=p.rE;refine⟨c,i0,(Du s b (i.af z.af i.lt)).mono ?_⟩;rintro _ _ ⟨rfl,rfl⟩;have u:=k.1;have D:(if(d.room:Int)<(c.len:Int)then(d.room:Int)else(c.len:Int))=((min d.room c.len:Nat):Int):=by split<;>omega
  refine⟨_,i0,?_⟩;show(0<=(if(d.room:Int)<(c.len:Int)then(d.room:Int)else(c.len:Int))/\_)/\_;rw[D];refine⟨⟨i4,Int.ofNat_le.2 (q9 (xh _ _) k.2)⟩,⟨c.ptr,min d.room c.len,c.cap⟩,by rw[qk],?_⟩;have H:Sp h _ [dC c (jc m d.l)]:=z.bB [2];have E:=H.agl (min d.room c.len) (by rw[<-u];exact xh _ _);unfold fj;rw[g0 i4];have:(jc m d.l).take d.room=(jc m d.l).take (min d.room c.len):=by
   rw[u];by_cases F:d.room<=ii (jc m d.l)
   ·rw[wi F]
   ·rw[Nat.min_eq_right i4,qN,qg i4]
  rw[this];exact E
end Go.Qw
