/- Lemmas for the proof of the law; no condition. -/
import Derived.Test.YtmobnmonkaacaaaGreatDoorDKF
set_option maxHeartbeats 2000000
set_option linter.unusedVariables false
set_option maxHeartbeats 8000000
set_option linter.unusedSimpArgs false
open Go.Proofs.Tryz renaming prog -> xT
open Go.Value renaming agg -> xO, bool -> xN, int -> xJ, pointer -> xL, slice -> xK, string -> xM
open Go.IntKind renaming bits -> qq, i64 -> xP, signed -> yC, u32 -> xR, u8 -> xQ, wrap -> qd
open List renaming drop -> wS, map_set -> xG, range -> qy, replicate -> qf, take -> yt
open Nat renaming beq -> wo, eq_of_beq_eq_true -> zu, not_lt_zero -> xv
open Int renaming fdiv -> zp
open Go.Builtin renaming append_ -> q6, copy_ -> w6
open Prod renaming fst -> qC, snd -> zg
set_option maxRecDepth 100000
open Option renaming some -> dB, none -> eH
open Bool renaming true -> eL, false -> eR
open Go renaming Addr -> fY
open Go.Qw renaming Heap -> hY
open List renaming length -> m8
open Go.Qw.bU renaming two -> E5, n -> E6, inn -> E7, loop -> E8, join -> E9, tn -> F8, lp -> F9, jn -> G0
namespace Go.Qw
open Go.Proofs
theorem EM{B:ar}{b h:hY}{c d A2:HP}{As:List HP}(H:aa B b h (c::d::A2::As)):aa B b h [c,d,A2]:=
 H.take 0 λi A a=>by
  rw[Nat.zero_add]
  match i,a with
  |0,a=>exact a
  |1,a=>exact a
  |2,a=>exact a
  |k+3,a=>simp at a
theorem KZ(a b:Sl)(A E:aO)(n w:Nat)(h:hY)(ha:eF h a 1 aq A)(hb:eF h b 1 aq E)(hl:m8 A=n)(f8:E.length=n)(hA:aU n A)(hB:aU w E)(gk:1<=n)(hn:n+w<=64)(hr:cz A=n):
  aj xT 193 #[a,b] h λv h'=>∃r:Sl,v=.tuple #[r,xJ xP 0]/\Sp h h' [dE 41 r 1 aq (eU n A E)]:=by
 have cd:E.length=m8 A:=nb
 have ej:=ha.len;have cn:=hb.len;refine ts Tryz.func193 ?_ (F8 (G0 [] [(4,6),(16,36)] (F8 (F8 (F8 (E5 (F8 (E7 (E8 [(7,bJ),(8,bJ),(46,aI)] [(7,10),(46,66)] E6))) (E5 (F8 (E7 (E8 [(10,aI)] [(10,15),(66,182)] (F8 (E5 (E7 (F8 (E5 (E7 (E8 [(11,aI)] [(11,12),(72,82)] E6)) (G0 [] [(82,110)] (F8 (G0 [] [(118,136)] (F8 (E7 (E8 [(138,aI)] [(13,15),(138,182)] (F8 (F8 (E5 (E7 (F8 (F8 (G0 [(154,mR)] [(148,155)] E6)))) E6)))))))))))) E6))))) (F9 [(15,aI)] [(4,6),(15,16),(183,195)])))))))) [(10,(.l [0,1,2,3,4,8,9,10,11,12,5,6,7,13,14,15,16,17])),(20,(.l [0,1,2,3,4,5,6,7,8,10,11,12,13,14,9,15,16,17,18,19])),(26,(.l [0,1,2,3,4,5,6,7,8,9,10,11,12,14,15,16,17,18,19,20,21,22,13,23,24,25,26,27]))];refine aE ?_;refine(lN a A n h ha hA).mono ?_;rintro v h1 ⟨rfl,rfl⟩;refine⟨_,m9,aH (λe=>n5) λ_=>?_⟩;refine(lN b E w h1 hb hB).mono ?_;rintro v y ⟨rfl,rfl⟩;refine⟨_,m9,aH (λe=>n5) λ_=>?_⟩;refine bm (λe=>absurd (by rw[ej,cn,cd]) e) λ_=>?_;refine aZ (λe=>nb) λ_=>?_;refine ha.get 0 m9 nb λr0 c5=>?_;have ap:=c5.len;rw[hA _ (qe _)]at ap;rw[ap];refine(uG a A n y ha hA).mono ?_;rintro v h4 ⟨rfl,R4⟩;rw[hr];refine⟨_,m9,ae (λe=>absurd (show(n:Int)<(n:Int)from e) nb) λ_=>?_⟩;obtain⟨M,hM⟩:=HF (eO A E)
 have dy:m8 M=n:=by rw[hM,lE];exact hl
 have en:aU (n+w) M:=by rw[hM];exact lQ nb hA hB
 have ec:∀k (hk:k<n),(M[k]'nb).take n=A[k]'nb/\(M[k]'nb).drop n=E[k]'nb:=λk hk=>by
  have h1:(A[k]'nb).length=n:=hA _ (qe _);have e:M[k]'nb=A[k]'nb++E[k]'nb:=by subst hM;simp[eO]
  rw[e,List.take_left' h1,List.drop_left' h1];exact⟨m9,m9⟩
 have a4:(aY M n).1=n:=by rw[hM,ug nb hA];exact hr
 obtain⟨f7,e7⟩:=ha;obtain⟨fu,d1⟩:=hb;have H4:=(((Sp.refl y).up R4.ac).nil 41 1 bv).nil 41 1 bv|>.aar
 refine ak (λt:Sl×Sl×Nat×List Sl×List Sl×List (Sl×Row)=>(t.1,t.2.1,(t.2.2.1:Int)))
  (λt h'=>t.2.2.1<=n/\Sp y h' [ai 41 t.1 1 bv t.2.2.2.1,ai 41 t.2.1 1 bv t.2.2.2.2.1,fT t.2.2.2.2.2]/\bZ t.2.2.2.2.2 (yt n) t.2.2.2.1 (M.take t.2.2.1)/\bZ t.2.2.2.2.2 (wS n) t.2.2.2.2.1 (M.take t.2.2.1))
  (λt=>n-t.2.2.1) (⟨eH,0,0⟩,⟨eH,0,0⟩,0,[],[],[]) m9 ⟨n4,H4,bZ.nil _ _,bZ.nil _ _⟩ ?_
 rintro⟨s,t,k,rs,qs,pool⟩ h5 ⟨hk,H5,ip,iq⟩;dsimp only at*;have fi:m8 rs=k:=by rw[ip.1,qx];omega
 have fb:m8 qs=k:=by rw[iq.1,qx];omega
 refine ae (λe=>?_) (λe=>?_)
 .have eo:k<n:=nb
  obtain⟨mt,md⟩:=ec k eo;have lA:(A[k]'nb).length=n:=hA _ (qe _);have lB:(E[k]'nb).length=w:=hB _ (qe _);obtain⟨a8,du,x9,da,d4⟩:=e7.RY (K:=λ_ r=>Rd y r 1 aq (A[k]'nb)) (i:=(k:Int)) k rfl nb λ_ _ _ hs _=>hs;obtain⟨ds,cy,ei,z,c2⟩:=d1.RY (K:=λ_ r=>Rd y r 1 aq (E[k]'nb)) (i:=(k:Int)) k rfl nb λ_ _ _ hs _=>hs;refine⟨a8,du,x9,eE da H5.ac,ds,cy,ei,eE z H5.ac,?_⟩;have H6:=H5.nil 5 1 aq;refine H6.append ag 3 m9 cR ⟨_,_,m9,m9⟩ m9 nq (λ_=>rfl) (Seq.up d4 H6.ac) cH n2 λay h7 H7=>⟨⟨eE z H7.ac,I0⟩,?_⟩
  refine H7.lit ag bv cO m9 [ay] m9 (show 1*1<=2^20 by decide) m9 λgt h8 H8=>⟨⟨eE z H8.ac,I0⟩,?_⟩
  refine H8.append ag 0 m9 cO ⟨_,_,m9,m9⟩ m9 nq (λ_=>rfl) (H8.seq 4 m9 λ_=>rfl) jQ n2 λs' h9 H9=>⟨⟨eE z H9.ac,I0⟩,?_⟩
  have cu:=H9.nil 5 1 aq;refine cu.append ag 5 m9 cR ⟨_,_,m9,m9⟩ m9 nq (λ_=>rfl) (Seq.up c2 cu.ac) cH n2 λa0 g5 dd=>⟨I0,?_⟩
  refine dd.lit ag bv cO m9 [a0] m9 (show 1*1<=2^20 by decide) m9 λf0 a7 q=>⟨I0,?_⟩
  refine q.append ag 1 m9 cO ⟨_,_,m9,m9⟩ m9 nq (λ_=>rfl) (q.seq 6 m9 λ_=>rfl) jQ n2 λD ef d3=>⟨I0,?_⟩
  have a1:=(((d3.freeze 3 m9 λ_=>rfl).freeze 5 m9 λ_=>rfl).pool 2 3 nq m9 m9).pool 2 5 nq m9 m9;refine⟨(s',D,k+1,rs++[ay],qs++[a0],(a0,E[k]'nb)::(ay,A[k]'nb)::pool),n3,⟨n1,EM a1,?_,?_⟩,n1⟩
  .try dsimp only
   rw[aA _ _ (show k<m8 M by omega)];exact(ip.mono λx T=>qp _ (qp _ T)).snoc (by rw[mt];simp)
  .try dsimp only
   rw[aA _ _ (show k<m8 M by omega)];exact(iq.mono λx T=>qp _ (qp _ T)).snoc (by rw[md];simp)
 have e9:k=n:=nb
 subst e9;rw[qh nb]at ip iq;have gd:=(H5.own 0 m9).len;have gl:=(H5.own 1 m9).len;have fn:=(H5.own 1 m9).cap;refine ak (λt:Nat×List Sl×List Sl×List (Sl×Row)=>(t.1:Int))
  (λu h'=>u.1<=k/\Sp y h' [ai 41 s 1 bv u.2.1,ai 41 t 1 bv u.2.2.1,fT u.2.2.2]/\bZ u.2.2.2 (yt k) u.2.1 (aY M u.1).2/\bZ u.2.2.2 (wS k) u.2.2.1 (aY M u.1).2)
  (λu=>k-u.1) (0,rs,qs,pool) m9 ⟨n4,H5,ip,iq⟩ ?_
 rintro⟨c,V,U,m⟩ a7 ⟨hc,q,F,H⟩;dsimp only at*;have Y:=fV en c;obtain⟨I,bd⟩:=HF ((aY M c).2)
 rw[<-bd]at F H Y;have b3:m8 I=k:=by rw[Y.2];exact dy
 have f5:=F.1;have c9:=H.1;refine ae (λe=>?_) (λe=>?_)
 .have L:c<k:=nb
  obtain⟨ix,b1,ca⟩:=JI a4 L;rw[<-bd]at b1 ca;have b6:=kQ b1;have a5:∀j (hj:j<k),(I[j]'nb).length=k+w:=λj hj=>Y.1 _ (qe _);refine ak (λj:Nat=>(j:Int)) (λj h'=>h'=a7/\c<=j/\j<=ix) (λj=>ix-j) c m9 ⟨m9,qj _,b6.1⟩ ?_;rintro j ef ⟨rfl,eu,f2⟩;have bb:j<k:=nb
  have bl:=q.seq 0 m9 λ_=>rfl;refine bl.dR j m9 nb λ_ _ _=>?_;have c1:=q.iu 2 m9 (F.get (show j<m8 I by omega));have el:((I[j]'nb).take k)[c]'(by rw[qx,a5 j bb];omega)=aM (az I j) c:=by rw[zH,be nb,mq (by rw[a5 j bb];omega)]
  refine c1.aW c m9 (by rw[qx,a5 j bb];omega) _ m9 ?_;rw[el];refine aZ (λe0=>?_) (λe0=>?_)
  .have:j≠ix:=λhh=>b6.2.2 (by rw[<-hh];exact nA.1 e0);exact⟨j+1,n7,⟨m9,nb,nb⟩,nb⟩
  have e8:j=ix:=by
   by_cases hh:j<ix
   .exact absurd (by rw[Dh b1 eu hh];rfl) e0
   .omega
  subst e8;refine aE ?_;have ci:=q.seq 1 m9 λ_=>rfl;refine bl.dR c m9 nb λ_ _ _=>?_;refine bl.dR j m9 nb λ_ _ _=>?_;refine ci.dR c m9 nb λ_ _ _=>?_;refine ci.dR j m9 nb λ_ _ _=>?_;refine q.set ag 0 m9 (λ_=>rfl) m9 j m9 nb (V[c]'nb) m9 m9 m9 λgi a1=>⟨I0,?_⟩
  refine a1.set ag 0 m9 (λ_=>rfl) m9 c m9 n2 (V[j]'nb) m9 m9 m9 λf3 ek=>⟨I0,?_⟩
  refine ek.set ag 1 m9 (λ_=>rfl) m9 j m9 nb (U[c]'nb) m9 m9 m9 λg2 d9=>⟨I0,?_⟩
  refine d9.set ag 1 m9 (λ_=>rfl) m9 c m9 n2 (U[j]'nb) m9 m9 m9 λb5 eg=>⟨I0,?_⟩
  obtain⟨m2,X⟩:=HF (fQ I c j)
  have b2:m2=(I.set j (az I c)).set c (az I j):=by rw[X,Cb];rfl
  obtain⟨a6,ab⟩:∃x,x=(V.set j (V[c]'nb)).set c (V[j]'nb):=⟨_,rfl⟩
  obtain⟨bq,ad⟩:∃x,x=(U.set j (U[c]'nb)).set c (U[j]'nb):=⟨_,rfl⟩
  have a3:bZ m (yt k) a6 m2:=by rw[b2,ab,be nb,be nb];exact(F.set j (F.get nb)).set c (F.get nb)
  have bk:bZ m (wS k) bq m2:=by rw[b2,ad,be nb,be nb];exact(H.set j (H.get nb)).set c (H.get nb)
  have B:Sp y b5 [ai 41 s 1 bv a6,ai 41 t 1 bv bq,fT m]:=by rw[ab,ad];exact eg
  have dk:m8 m2=k:=by rw[X,jb];exact b3
  have Z:aU (k+w) m2:=by rw[X];exact ov Y.1
  have f9:=a3.1;have gs:=bk.1;have Q:∀i (hi:i<k),(m2[i]'nb).length=k+w:=λi hi=>Z _ (qe _);have b4:=B.seq 0 m9 λ_=>rfl;have ed:=B.seq 1 m9 λ_=>rfl;refine b4.dR c m9 nb λ_ _ _=>?_;have S:=B.iu 2 m9 (a3.get (show c<m8 m2 by omega));have c6:((m2[c]'nb).take k)[c]'(by rw[qx,Q c L];omega)=aM (az m2 c) c:=by rw[zH,be nb,mq (by rw[Q c L];omega)]
  refine S.aW c m9 (by rw[qx,Q c L];omega) _ m9 ?_;rw[c6];refine(Aw _ b5).mono ?_;rintro v d2 ⟨rfl,rfl⟩;refine⟨_,m9,aE ?_⟩;refine b4.dR c m9 nb λ_ _ _=>?_;refine ed.dR c m9 nb λfs cb _=>?_
  try dsimp only
  refine(mv _ _ _ d2 S (by rw[qx,Q c L];omega)).mono ?_;rintro v es ⟨ra,rfl,b9⟩;refine⟨ra,m9,⟨eE cb b9.ac,I0⟩,?_⟩;have c0:=B.comp b9;refine(mv _ _ _ es (c0.iu 2 m9 (bk.get (show c<m8 m2 by omega))) (by rw[qH,Q c L];omega)).mono ?_;rintro v g1 ⟨rb,rfl,e1⟩;refine⟨rb,m9,I0,?_⟩;have eh:=c0.comp e1;refine eh.set ag 0 m9 (λ_=>rfl) m9 c m9 nb ra m9 m9 m9 λf6 dx=>⟨I0,?_⟩
  refine dx.set ag 1 m9 (λ_=>rfl) m9 c m9 nb rb m9 m9 m9 λd0 eq=>⟨I0,?_⟩
  have d6:=EM ((((eq.freeze 3 m9 λ_=>rfl).freeze 4 m9 λ_=>rfl).pool 2 3 nq m9 m9).pool 2 4 nq m9 m9);obtain⟨d,W⟩:=HF (ga c c m2)
  obtain⟨br,ah⟩:∃x,x=a6.set c ra:=⟨_,rfl⟩
  obtain⟨b0,al⟩:∃x,x=bq.set c rb:=⟨_,rfl⟩
  obtain⟨g,f⟩:∃x,x=(rb,scaleB (Gf.inv (aM (az m2 c) c)) ((m2[c]'nb).drop k))::(ra,scaleB (Gf.inv (aM (az m2 c) c)) ((m2[c]'nb).take k))::m:=⟨_,rfl⟩
  have c8:bZ g (yt k) br d:=by rw[W,ah,ga,f];refine(a3.mono λx T=>qp _ (qp _ T)).set c ?_;rw[Dd,<-be (show c<m8 m2 by omega)];simp
  have dr:bZ g (wS k) b0 d:=by rw[W,al,ga,f];refine(bk.mono λx T=>qp _ (qp _ T)).set c ?_;rw[GY,<-be (show c<m8 m2 by omega)];simp
  have cf:Sp y d0 [ai 41 s 1 bv br,ai 41 t 1 bv b0,fT g]:=by rw[ah,al,f];exact d6
  have f1:m8 d=k:=by rw[W,kR];exact dk
  have am:aU (k+w) d:=by rw[W];exact mL Z nb
  have P:(aY M (c+1)).2=bN c c d k:=by rw[ca,W,X,b3]
  refine ak (λu:Nat×List Sl×List Sl×List (Sl×Row)=>(u.1:Int))
   (λu h'=>u.1<=k/\Sp y h' [ai 41 s 1 bv u.2.1,ai 41 t 1 bv u.2.2.1,fT u.2.2.2]/\bZ u.2.2.2 (yt k) u.2.1 (bN c c d u.1)/\bZ u.2.2.2 (wS k) u.2.2.1 (bN c c d u.1))
   (λu=>k-u.1) (0,br,b0,g) m9 ⟨n4,cf,by rw[ow];exact c8,by rw[ow];exact dr⟩ ?_
  rintro⟨i,a2,a9,R⟩ cq ⟨hi,o,G,J⟩;dsimp only at*;have g6:=kS c c d i;have fz:=G.1;have g3:=J.1;refine ae (λe2=>?_) (λe2=>?_)
  .have f4:i<k:=nb
   have c4:(bN c c d i)[i]'nb=az d i:=by rw[<-be nb,jm,k4 nb]
   have d8:(bN c c d i)[c]'nb=az d c:=by rw[<-be nb,jm,k4 nb]
   have li:(az d i).length=k+w:=bY am;have lc:(az d c).length=k+w:=bY am;have ax:=o.seq 0 m9 λ_=>rfl;have b7:=o.seq 1 m9 λ_=>rfl;have xi:=o.iu 2 m9 (G.get (show i<(bN c c d i).length by omega));have xc:=o.iu 2 m9 (G.get (show c<(bN c c d i).length by omega));have yi:=o.iu 2 m9 (J.get (show i<(bN c c d i).length by omega));have yc:=o.iu 2 m9 (J.get (show c<(bN c c d i).length by omega));rw[c4]at xi yi;rw[d8]at xc yc;refine ax.dR i m9 nb λ_ _ _=>?_;have d5:((az d i).take k)[c]'(by rw[qx,li];omega)=aM (az d i) c:=by rw[zH,mq]
   refine xi.aW c m9 B8 _ m9 ?_;rw[d5];rw[af ((i:Int)+1)];have skip:bN c c d (i+1)=bN c c d i->∃D:Nat×List Sl×List Sl×List (Sl×Row),(i:Int)+1=(D.1:Int)/\(D.1<=k/\Sp y cq [ai 41 s 1 bv D.2.1,ai 41 t 1 bv D.2.2.1,fT D.2.2.2]/\bZ D.2.2.2 (yt k) D.2.1 (bN c c d D.1)/\bZ D.2.2.2 (wS k) D.2.2.1 (bN c c d D.1))/\k-D.1<k-i:=λcs=>
    ⟨(i+1,a2,a9,R),m9,⟨n1,o,by dsimp only;rw[cs];exact G,by dsimp only;rw[cs];exact J⟩,n1⟩
   refine aE ?_;refine bm (λe3=>?_) (λe3=>sn m9 (skip ?_))
   .have O:i≠c:=λhh=>e3 (by rw[hh]);refine bm (λe4=>?_) (λe4=>skip ?_)
    .refine ax.dR c m9 nb λ_ _ _=>?_;refine ax.dR i m9 nb λ_ _ _=>?_;refine b7.dR c m9 nb λfq cr _=>?_;refine b7.dR i m9 nb λfy cp _=>?_;refine(jX _ _ _ _ _ cq xc xi D5 B8).mono ?_;rintro v e5 ⟨ra,rfl,N⟩;refine⟨ra,m9,⟨eE cp N.ac,eE cr N.ac,I0⟩,?_⟩;have c7:=o.comp N;refine(jX _ _ _ _ _ e5 (Seq.up yc N.ac) (Seq.up yi N.ac) D5 (by rw[qH,li];omega)).Hf λrb g7 er=>⟨rb,m9,I0,?_⟩;have d7:=c7.comp er;refine d7.set ag 0 m9 (λ_=>rfl) m9 i m9 nb ra m9 m9 m9 λg0 ew=>⟨I0,?_⟩
     refine ew.set ag 1 m9 (λ_=>rfl) m9 i m9 nb rb m9 m9 m9 λg4 ea=>⟨I0,?_⟩
     have ep:=EM ((((ea.freeze 3 m9 λ_=>rfl).freeze 4 m9 λ_=>rfl).pool 2 3 nq m9 m9).pool 2 4 nq m9 m9);refine⟨(i+1,a2.set i ra,a9.set i rb,_),m9,⟨n1,ep,?_,?_⟩,n1⟩
     .try dsimp only
      rw[kB nb O];refine(G.mono λx T=>qp _ (qp _ T)).set i ?_;rw[IJ];simp
     .try dsimp only
      rw[kB nb O];refine(J.mono λx T=>qp _ (qp _ T)).set i ?_;rw[Mo];simp
    .have hz:aM (az d i) c=0:=nA.1 e4;rw[kB nb O,hz,Cc];apply zn;intro x;rw[qV];split
     .rename_i fa;subst fa;rw[hZ nb,qc nb,c4]
     .rfl
   .have O:i=c:=nb
    subst O;exact uR
  .have eb:i=k:=nb
   subst eb;refine⟨(c+1,a2,a9,R),n3,⟨n1,o,?_,?_⟩,n1⟩
   ·(try dsimp only);rw[P];exact G
   ·(try dsimp only);rw[P];exact J
 have e6:c=k:=nb
 subst e6;refine ak (λ_:Unit=>(c:Int)) (λ_ h'=>h'=a7) (λ_=>0) () m9 m9 ?_;rintro _ fr rfl;refine ae (λe=>nb) λ_=>?_;refine⟨⟨ze _,wC.2 (show c<=t.cap by omega)⟩,?_⟩;have ao:eU c A E=I.map (wS c):=by rw[eU,<-hM,<-bd,qh nb]
 have et:t=⟨t.ptr,c,t.cap⟩:=by
  have:t.len=c:=nb
  obtain⟨p,l,cc⟩:=t;simp only at this⊢;rw[this]
 have HR:=q.rc 1 2 nq (ll:=eU c A E) m9 m9 (by rw[ao,qn];exact c9) (λi r l h1 y=>by
  rw[ao,qM]at y;cases hmi:I[i]? with
  |none=>rw[hmi]at y;cases y
  |some x=>rw[hmi]at y;cases y;exact H.2 i r x h1 hmi)
 rw[qi];refine⟨⟨t.ptr,c,t.cap⟩,m9,?_⟩;rw[<-et];exact HR.take 1 (λi A hi=>by cases i with|zero=>exact hi|succ i=>simp at hi)
theorem PQ(a b:Sl)(d c:Row)(h:hY)(g:Rd h a 1 aq d)(f:Rd h b 1 aq c)(e:m8 d=m8 c)(i:m8 c<=2^30):
  aj xT 271 #[a,b] h λv h'=>∃r:Sl,v=r/\Sp h h' [ai 5 r 1 aq (cN 1 d c)]:=by
 refine ts Tryz.func271 ?_;refine(jX 1 a b d c h g f e i).Hf λr j R=>⟨r,m9,r,m9,R⟩
theorem Fs(p:Pm)(m at_:Sl)(M:aO)(l:aC)(n w:Nat)(h:hY)(g:eF h m 1 aq M)(z:Rd h at_ 1 av l)(f:p.2.2=w)(q:aU w M)(B:m8 M=n)(d:∀x∈l,0<=x/\x<(n:Int))(Q:n<=64:=by omega)(O:w<=64:=by omega)(F:m8 l<=64:=by omega):
  aj xT 198 #[gx p,m,at_] h λv h'=>∃r:Sl,v=r/\Sp h h' [ai 5 r 1 aq (jT w M l)]:=by
 have L:=g.len;have N:=z.len;refine ts Tryz.func198 ?_ (F8 (F8 (F9 [(7,bJ),(15,aI)] [(7,8),(9,10),(15,26)]))) (args:=[p,m,at_]);refine(Sp.refl h).boxed λa R u=>?_;refine⟨p.2.2,(u.box 0 m9).cell m9,?_⟩;refine u.make ag aq cR nq 0 m9 m9 w w f f (qj _) nb λo S _ _ D=>?_;refine ak (λt:Sl×Nat=>(t.1,(t.2:Int))) (λt h'=>t.2<=m8 l/\Sp h h' [an a 24 [xJ xP p.1,xJ xP p.2.1,xJ xP p.2.2],ai 5 t.1 1 aq (jT w M (l.take t.2))]) (λt=>m8 l-t.2) (o,0) m9 ⟨n4,D⟩ ?_;rintro⟨s,k⟩ h3 ⟨J,c⟩;dsimp only at*;refine ae (λe=>?_) (λe=>?_)
 .have b:k<m8 l:=nb
  have P:=d _ (qe b);refine(Seq.up z c.ac).aW k m9 b _ m9 ?_;refine(g.up c.ac).get l[k].toNat nb nb λr K=>?_;have E:=oU q B d k J;have G:(M[l[k].toNat]'nb).length=w:=q _ (qe _);refine(PQ r s _ _ h3 K (c.seq 1 m9 λ_=>rfl) nb nb).Hf λj T I=>?_;have H:=(c.comp I).del 1;refine⟨j,m9,(j,k+1),n3,⟨n1,?_⟩,n1⟩
  try dsimp only
  rw[aA _ _ b,Bw,be nb];exact H
 .rw[qh nb]at c;exact⟨s,m9,c.take 1 λi A y=>by cases i with|zero=>exact y|succ i=>simp at y⟩
def adE(h:hY)(b:fY)(p:Pm)(seed:Int)(M:aO):Prop:=∃m:Sl,bQ h b 225 (sC p seed m)/\eF h m 1 aq M
theorem AZ(b:fY)(p:Pm)(seed id:Int)(M:aO)(n w:Nat)(h:hY)(z:adE h b p seed M)(g:bH p=eL)(q:p.2.2=w)(B:(bD p).toNat=n)(D:aU w M)(o:m8 M=n):
  aj xT 121 #[xL (dB b),xJ xP id] h λv h'=>∃r:Sl,v=r/\Sp h h' [ai 5 r 1 aq (if bR id then jT w M (eG n seed id)else[])]:=by
 obtain⟨m,a,y⟩:=z;have F:=(bI p).1 g;have G:bD p=p.1+p.2.1:=by rw[bD,hZ g]
 refine ts Tryz.func121 ?_;refine(kr id h).mono ?_;rintro v k ⟨rfl,rfl⟩;refine⟨_,m9,aH (λe=>⟨⟨eH,0,0⟩,m9,by rw[e];exact(Sp.refl k).nil 5 1 aq⟩) λhid=>?_⟩;rw[hid,hZ rfl];refine⟨b,m9,p,a.aw _ m9,b,m9,m,a.cell m9,b,m9,p,a.aw _ m9,b,m9,seed,a.cell m9,(BZ p seed id k).mono ?_⟩;rintro v E ⟨c,rfl,f⟩;rw[g,hid,vd,hZ rfl,B]at f;have d:=a.ac f.ac a.lt;refine⟨c,m9,⟨d.cell m9,d.cell0 m9,d.cell m9,d.cell m9,I0⟩,?_⟩;have j:∀x∈eG n seed id,0<=x/\x<(n:Int):=λx s=>kw nb nb s;have u:=mK (n:=n) nb nb seed id;refine(Fs p m c M _ n w E (y.up f.ac) (f.seq 0 m9 λ_=>rfl) q D o j).Hf λr h3 t=>⟨r,m9,I0,r,m9,(f.comp t).take 1 λi A l=>by cases i with|zero=>exact l|succ i=>simp at l⟩
theorem PR(p:Pm)(seed:Int)(data:Sl)(d:Row)(h:hY)(hd:Rd h data 1 aq d)(hc:data.len<=data.cap):
  aj xT 118 #[gx p,xJ xR seed,data] h λv h'=>
   (iW p seed d.length=0->∃(b:fY) (m:Sl),v=.tuple #[xL (dB b),xJ xP 0]/\Sp h h' [dE 41 m 1 aq (kg p seed d),an b 225 (sC p seed m)])/\
   (iW p seed d.length≠0->v=.tuple #[xL eH,xJ xP (iW p seed d.length)]/\Sp h h' []):=by
 have Y:=hd.len;refine ts Tryz.func118 ?_ (F8 (G0 [] [(6,8),(13,26)] (F8 (F8 (F8 (E5 (F8 (E7 (E8 [(9,bJ),(34,aI)] [(9,10),(34,43)] E6))) (F9 [(8,bJ),(9,bJ),(10,aI)] [(8,11),(43,71)]))))))) (args:=[p,(xJ xR (seed:Int)),data]);refine(Sp.refl h).boxed λa h1 H1=>?_;refine aE ?_;refine⟨p,(H1.box 0 m9).aw _ m9,(dV p h1).mono ?_⟩;rintro v h2 ⟨rfl,R2⟩;have y:=H1.comp R2;have U:∀{h3:hY} (x:Int),x≠0->iW p seed d.length=x->Sp h h3 [an a 24 [xJ xP p.1,xJ xP p.2.1,xJ xP p.2.2]]->
   (iW p seed d.length=0->∃(b:fY) (m:Sl),Value.tuple #[xL eH,xJ xP x]=.tuple #[xL (dB b),xJ xP 0]/\Sp h h3 [dE 41 m 1 aq (kg p seed d),an b 225 (sC p seed m)])/\
   (iW p seed d.length≠0->Value.tuple #[xL eH,xJ xP x]=.tuple #[xL eH,xJ xP (iW p seed d.length)]/\Sp h h3 []):=λx hx G H=>by
  refine⟨λe=>absurd (G.symm.trans e) hx,λ_=>⟨by rw[G],.zip H.ac⟩⟩
 refine⟨_,m9,aH (λe=>U 1 nq (by rw[iW,e];rfl) y) λE=>?_⟩;have a5:=(bI p).1 E;obtain⟨K,hK⟩:∃K:Nat,p.1=K:=⟨p.1.toNat,nb⟩
 obtain⟨g,hH⟩:∃H:Nat,p.2.1=H:=⟨p.2.1.toNat,nb⟩
 obtain⟨w,D⟩:∃w:Nat,p.2.2=w:=⟨p.2.2.toNat,nb⟩
 have ao:K*w<=16*24:=zq nb nb;have q:p.1*p.2.2=((K*w:Nat):Int):=by rw[hK,D,zS]
 refine⟨p.1,(y.box 0 m9).cell0 m9,p.2.2,(y.box 0 m9).cell m9,?_⟩
 try dsimp only
 rw[q,af _];refine bm (λe=>U 1 nq (by rw[iW,E,m5 (by rw[q];intro e2;exact e (by rw[Y];exact e2))];rfl) y) λel=>?_;have j:m8 d=K*w:=nb
 refine⟨p,(y.box 0 m9).aw _ m9,(Cz p seed h2).mono ?_⟩;rintro v h3 ⟨rfl,R3⟩;have W:Sp h h3 [an a 24 [xJ xP p.1,xJ xP p.2.1,xJ xP p.2.2]]:=y.comp R3;have f:iW p seed d.length=if fI p seed (fo p)then 0 else 8:=by rw[iW,E,ln (by rw[q,j])];rfl
 refine⟨_,m9,aH (λe=>U 8 nq (by rw[f,e];rfl) W) λhf=>?_⟩;rw[hf,hZ rfl]at f;have B:gw p seed d K g w (K+g):=⟨E,hf,hK,hH,D,m9,nb,nb,nb,nb,nb,nb,j⟩
 refine⟨p,(W.box 0 m9).aw _ m9,(Cw p h3 E).mono ?_⟩;rintro v h5 ⟨ra,rfl,R5⟩;rw[hK,hH,qi,qi]at R5;have H5:=(W.comp R5).sK 41 1 aq;have a4:(bA K g).length=g:=by simp[bA]
 have al:=(R5.oL 0 m9).len;refine⟨ra,m9,?_⟩;refine ak (λt:Sl×Nat=>(t.1,(t.2:Int))) (λt h'=>t.2<=g/\Sp h h' [an a 24 [xJ xP p.1,xJ xP p.2.1,xJ xP p.2.2],dE 41 ra 1 aq (bA K g),dE 41 t.1 1 aq (qf t.2 (aN w))]) (λt=>g-t.2) (⟨eH,0,0⟩,0) m9 ⟨n4,H5⟩ ?_;rintro⟨s,k⟩ h6 ⟨hk,V⟩;dsimp only at*;refine ae (λe=>?_) (λe=>?_)
 .refine⟨p.2.2,(V.box 0 m9).cell m9,?_⟩;refine V.make ag aq cR nq 0 m9 m9 w w D D (qj _) nb λz h7 _ _ H7=>?_;have Z:=H7.freeze 3 m9 λ_=>rfl;refine Z.jM ag 2 3 nq m9 m9 cO n2 λs' h8 H8=>?_;refine⟨(s',k+1),n3,⟨n1,?_⟩,n1⟩
  try dsimp only
  rw[yO];exact H8.del 3
 have ad:k=g:=nb
 subst ad;refine ak (λt:Sl×Sl×Nat=>(t.1,t.2.1,(t.2.2:Int))) (λt h'=>t.2.2<=K/\Sp h h' [an a 24 [xJ xP p.1,xJ xP p.2.1,xJ xP p.2.2],dE 41 t.1 1 aq (bA K k++(qy t.2.2).map λi:Nat=>pO (K+k) seed (i:Int)),dE 41 t.2.1 1 aq (qf k (aN w)++(qy t.2.2).map (Qm d w))]) (λt=>K-t.2.2) (ra,s,0) m9 ⟨n4,by simpa using V⟩ ?_;rintro⟨u,v,i⟩ J ⟨Q,c⟩;dsimp only at*;refine⟨p.1,(c.box 0 m9).cell0 m9,ae (λe2=>?_) λe2=>?_⟩
 .have ah:i<K:=nb
  have m1:(i+1)*w<=K*w:=zk w ah;have m2:i*w<=(i+1)*w:=zk w nb;refine⟨p,(c.box 0 m9).aw _ m9,(Fp p seed i J).mono ?_⟩;rintro v2 a2 ⟨rr,rfl,I⟩;rw[E,show bR (i:Int)=eL by simp[bR];omega,vd,hZ rfl,B.sP]at I;have T:=(c.comp I).freeze 3 m9 λ_=>rfl;refine⟨rr,m9,?_⟩;refine T.jM ag 1 3 nq m9 m9 cO n2 λu' ap F=>?_;have o:=F.del 3;refine⟨p.2.2,(o.box 0 m9).cell m9,p.2.2,(o.box 0 m9).cell m9,?_⟩;rw[af ((i:Int)+1)];have e5:(i:Int)*p.2.2=((i*w:Nat):Int):=by rw[D,zS]
  have e6:((i:Int)+1)*p.2.2=(((i+1)*w:Nat):Int):=by rw[D,zS];rfl
  try dsimp only
  rw[e5,e6,kv _,kv _,qi,qi];refine⟨⟨ze _,wC.2 m2,wC.2 nb⟩,?_⟩;have L:=o.nil 5 1 aq;have a3:=Qn (l:=d) (w:=w) (i:=i) nb;refine L.append (v:=FH data w i) ag 3 m9 cR uy m9 nq (λ_=>rfl) ((Seq.up hd L.ac).piece hc w i) cH n2 λx a1 S=>?_;have M:=S.freeze 3 m9 λ_=>rfl;refine M.jM ag 2 3 nq m9 m9 cO n2 λv' ay ab=>?_;refine⟨(u',v',i+1),m9,⟨n1,?_⟩,n1⟩
  try dsimp only
  rw[zC,qE,qE,<-ql,<-ql];exact ab.del 3
 have X:i=K:=nb
 subst X;have a0:bA i k++((qy i).map λi:Nat=>pO (i+k) seed (i:Int))=bA i k++((qy i).map λi:Nat=>pO (i+k) seed (i:Int)):=rfl;have O:=B.Jy;rw[<-O]at c;refine(KZ u v _ (nG i k w d) (i+k) w J (c.oL 1 m9) (c.oL 2 m9) B.Ml (by rw[uS]) B.IK (Bx B.len) nb nb B.IL).Hf λr am R=>?_;have N:=c.comp R;refine⟨(r,0),m9,p,(N.box 0 m9).aw _ m9,?_⟩;refine N.boxed (t:=225) λb ax P=>?_;refine⟨λ_=>⟨b,r,m9,?_⟩,λe=>absurd f e⟩;rw[<-B.Cj]at P;exact P.take 3 (λi A Q=>by
  cases i with
  |zero=>exact Q
  |succ i=>cases i with
   |zero=>exact Q
   |succ i=>simp at Q)
section
theorem Has.sub{b:aG}{S a:aC}(F:Has b S)(h:∀k∈a,k∈S):Has b a:=⟨F.1,λk c=>F.2 k (h k c)⟩
theorem Has.lay{S:aC}{a:aG}(F:Has a S)(P:List (Int×aT))(w:Pow):Has (layAll P w a).2.2 S:=by
 have b:∀(P:List (Int×aT)) {a:aG} (w:Pow),Has a S->Has (fX P w a).2.2 S:=by
  intro P
  induction P with
  |nil=>intro a w F;exact F
  |cons y P ih=>
   intro a w F;rw[lu];split
   .exact ih _ (F.append w y.1 y.2)
   .exact F.append w y.1 y.2
 have c:∀(l:aC) {a:aG} (w:Pow),Has a S->Has (iY l w a).2.2 S:=by
  intro l
  induction l with
  |nil=>intro a w F;exact F
  |cons y l ih=>
   intro a w F;rw[nf];split
   .exact ih _ (F.sync w y)
   .exact F.sync w y
 unfold layAll
 try dsimp only
 split
 .exact c _ _ (b P w F)
 .exact b P w F
variable {B:ar} {h0 h:hY} {As:List HP} {a pw:fY} {offs:Int} {da:List bx} {w:Pow} {ds:aG}
theorem PS(x:bc)(m:aB)(c:ByteArray)(s:Sl)(b:aT)(hS:St B h0 As λh=>Rd h s 1 aq b)(ii:s.len<=s.cap)(hn:c.size<=2^40)(hm:bF m=eL)(ld:m8 b<=2^20)
  (H:aa B h0 h (aJ bE a pw (aD x) offs da w ds::bo x m::As)):
  aj xT 48 #[xL (dB a),xM c,s] h λv h'=>v=xJ xP (ez m offs w ds c b).1/\
   ∃y,aa B h0 h' (aJ bE a pw (aD y) offs da (ez m offs w ds c b).2.2.1 (ez m offs w ds c b).2.2.2::bo y (ez m offs w ds c b).2.1::As):=by
 refine ts Tryz.func48 ?_ (F8 (F8 (F8 (E5 (E9 [] [(6,7),(35,86)] (E7 (F8 (F8 (F8 (F8 (F8 (F8 (G0 [(47,mR)] [(47,66)] E6))))))))) (F8 (F8 (F8 (F8 (E5 (F8 (E7 (E8 [(11,bJ),(102,aI)] [(6,7),(11,12),(13,23),(102,180)] (F8 (F8 (E5 (E7 (F8 (F8 (E5 (E9 [(15,aI)] [(15,16),(107,120)] (E7 (E8 [(15,aI)] [(15,16),(107,120)] (G0 [] [(107,118)] E6)))) (F8 (F8 (F8 (F8 (F8 (F8 (E7 (E8 [(11,bJ),(20,aI)] [(11,12),(20,23),(143,179)] (F8 (E5 (E7 (F8 (G0 [(22,(.sc .adr))] [(22,23),(158,167)] E6))) E6)))))))))))))) E6)))))) (F8 (F8 (F8 (E5 (E9 [(24,aI)] [(24,25),(186,203)] (E7 (E8 [(24,aI)] [(24,25),(186,203)] (G0 [] [(186,201)] E6)))) (G0 [] [(203,217)] (E5 (F8 (E7 (E8 [(219,aI)] [(26,27),(219,233)] E6))) (F8 (F8 (G0 [(27,aI)] [(27,28),(242,247)] (G0 [(27,aI)] [(27,28),(247,253)] (G0 [] [(253,259)] E6)))))))))))))))))))) [(33,(.y [0,1,2,3,4,5,6] (.l [7,8,9,10]) (.l [9,7,8,10]))),(42,(.y [0,1,2,3,5,7,8,9,10] (.l [4,6,11,12,13,14]) (.y [6] (.l [4,11,12,13,14]) (.l [11,4,12,13,14]))))];have hz:=iA hm;have g0:=iD hm;have f0:∀y∈m.drives,0<=y/\y<64:=gZ hm;obtain⟨g1,g2,hp,g4⟩:=(iC m).1 ((cM m).1 hm).1;have kx:=(bI m.p).1 hp;obtain⟨s1,s2,s3⟩:=ik hp;have hl:=(hS.at [_,_] H).len;have hc:=(aa.cU H).2;have hx:cv h x m:=H.at 1 m9;have i2:(x.2.2.1,x.2.2.2.1,x.2.2.2.2.1)=m.p:=hx.p;have cp:∀{h':hY},bQ h' a 40 (cP (aD x) pw offs da)->bp h' (a.add 2) 0 [xJ xP m.p.1,xJ xP m.p.2.1,xJ xP m.p.2.2]:=λ{h'} hb=>by
  rw[<-i2];exact⟨oo,oo,oo,I0⟩
 refine⟨a,m9,m.p,cp hc,H.alloc ag m9 λa3 h1 H1=>?_⟩;have H1:=H1.ba;refine H1.storeAll ag 0 m9 m9 [xJ xP m.p.1,xJ xP m.p.2.1,xJ xP m.p.2.2] m9 m9 m9 m9 λh2 H2=>?_;have H2:=H2.aF 3 [1,2,0];refine(mH x m (H2.at 1 m9) hz f0 H2).Hf λU h3 R3=>?_;obtain⟨live,J⟩:=HF (bh ds m.drives)
 rw[<-J]at R3;have mc:m8 live<=64:=by rw[J];exact qX (qK _ _) g0
 have W:∀k∈live,0<=k/\k<64:=λk hk=>by rw[J]at hk;exact f0 k (qJ.1 hk).1
 have c6:live.Nodup:=by rw[J];exact Ua hm ds
 have H3:=(H2.bS R3).aF 4 [1,2,3,0];have cy:=(H3.own 3 m9).len;refine⟨U,m9,?_⟩;have a0:∀{h':hY} {Bs:List HP} {e:Int},aa B h0 h' (aJ bE a pw (aD x) offs da w ds::bo x m::an a3 24 [xJ xP m.p.1,xJ xP m.p.2.1,xJ xP m.p.2.2]::ai 3 U 1 av live::As)->ez m offs w ds c b=(e,m,w,ds)->(Value.int .i64 e=xJ xP (ez m offs w ds c b).1/\
   ∃y,aa B h0 h' (aJ bE a pw (aD y) offs da (ez m offs w ds c b).2.2.1 (ez m offs w ds c b).2.2.2::bo y (ez m offs w ds c b).2.1::As)):=λ{h' Bs e} H' he=>by
  rw[he];exact⟨m9,x,H'.aF 4 [0,1]⟩
 have a2:∀{e:Int},e≠0->dI m (gy w offs) ds c b.length=e->ez m offs w ds c b=(e,m,w,ds):=λ{e} h0 he=>by
  unfold ez;rw[he,hZ h0]
 refine bn (λ(_:Unit) h'=>dI m (gy w offs) ds c b.length=0/\aa B h0 h' (aJ bE a pw (aD x) offs da w ds::bo x m::an a3 24 [xJ xP m.p.1,xJ xP m.p.2.1,xJ xP m.p.2.2]::ai 3 U 1 av live::As)) ?_ ?_
 .refine(iw H3).G6 ⟨_,m9,aS (λe=>a0 (Bs:=[]) H3 (a2 nq (by unfold dI;rw[hZ e]))) λe1=>?_⟩;refine(HJ c _ hn).G6 ⟨_,m9,aH (λe=>a0 (Bs:=[]) H3 (a2 nq (by unfold dI;rw[k4 o4,hZ v6]))) λe2=>?_⟩;refine(te x m c (H3.at 1 m9) hz H3).G7 λh4 R4=>?_;have H4:=H3.up R4.ac;refine⟨_,m9,?_⟩;by_cases al:m.objs.any (dH c)=eL
  .rw[hZ al];exact ae (λ_=>a0 (Bs:=[]) H4 (a2 nq (by unfold dI;rw[k4 o4,k4 C5,hZ al]))) λe=>absurd (ze _) e
  rw[k4 al];refine ae (λe=>absurd e nq) λ_=>?_;have i8:x.2.2.2.2.2.2.2.len=m8 m.objs:=ce.len hx.objs;refine bn (λ(t:Bool) h'=>t=decide (m.p.1*m.p.2.2*8<(m8 b:Int)∨12<=m8 m.objs)/\aa B h0 h' (aJ bE a pw (aD x) offs da w ds::bo x m::an a3 24 [xJ xP m.p.1,xJ xP m.p.2.1,xJ xP m.p.2.2]::ai 3 U 1 av live::As)) ?_ ?_
  .refine⟨m.p.1,(H4.box 2 m9).cell0 m9,m.p.2.2,(H4.box 2 m9).cell m9,?_⟩
   try dsimp only
   rw[<-s3,af (cS m.p:Int),af ((cS m.p:Int)*8)];refine ae (λe=>⟨(ln (.inl nb)).symm,H4⟩) λe=>⟨a,m9,x.2.2.2.2.2.2.2,(aa.cU H4).2.cell m9,?_,H4⟩
   rw[decide_eq_decide];omega
  rintro t h7 ⟨rfl,H7⟩;refine aS (λe=>a0 (Bs:=[]) H7 (a2 nq (by unfold dI;rw[k4 o4,k4 C5,k4 al,hZ (m6 e)]))) λe5=>?_;have e5:=of_decide_eq_false e5;have br:(bh ds m.drives=[]∨16777215<m.next∨2147483647<=m.seq)->dI m (gy w offs) ds c b.length=7:=λhh=>by unfold dI;rw[k4 o4,k4 C5,k4 al,k4 e5,hZ hh]
  have O:=(aa.cU H7).2;refine aZ (λe=>a0 (Bs:=[]) H7 (a2 nq (br (.inl (by rw[<-J];exact List.length_eq_zero_iff.1 nb))))) λe6=>?_;refine⟨a,m9,x.2.1,O.cell m9,?_⟩;rw[hx.next];refine ae (λe=>a0 (Bs:=[]) H7 (a2 nq (br (.inr (.inl nb))))) λe7=>?_;refine⟨a,m9,x.1,O.cell0 m9,?_⟩;rw[hx.seq];refine aZ (λe=>a0 (Bs:=[]) H7 (a2 nq (br (.inr (.inr nb))))) λe8=>?_;refine⟨?_,H7⟩;unfold dI;rw[k4 o4,k4 C5,k4 al,k4 e5,k4];rintro(h|h|h)
  .rw[<-J]at h;rw[h]at cy;exact e6 (by rw[cy];rfl)
  .omega
  .omega
 rintro _ h8 ⟨hr,H8⟩;obtain⟨z1,z2,z3,z4,z5⟩:=uA hr;have h5:¬m.p.1*m.p.2.2*8<(m8 b:Int):=λh=>z4 (.inl h);have lp:m8 m.objs<=11:=by have:¬12<=m8 m.objs:=λh=>z4 (.inr h);omega
 have ei:live≠[]:=λh=>z5 (.inl (by rw[<-J];exact h));have fr:m.next<=16777215:=by have:¬16777215<m.next:=λh=>z5 (.inr (.inl h));omega
 have l0:m.seq<=2147483646:=by have:¬2147483647<=m.seq:=λh=>z5 (.inr (.inr h));omega
 have k0:c.size<=12:=by unfold gU at z2;simp at z2;omega
 have c8:=QP hp h5;have dk:∀{e:Int×aB×Pow×aG},(match cX m.p m.next (splitB m.p b).length with
   |none=>(8,m,w,ds)
   |some t=>
    let live:=bh ds m.drives;let l:=dC m m.next t (splitB m.p b) live (splitB m.p b).length;let n:=nR m ⟨c,m.next,m8 b,t⟩;let N:=ck (bG n).length l
    if iz m ds live N=eR then(7,m,w,ds)else
    if(makes m N live w ds).1≠0 then((makes m N live w ds).1,m,(makes m N live w ds).2)else
    let r2:=layAll l (makes m N live w ds).2.1 (makes m N live w ds).2.2
    if r2.1≠0 then(r2.1,m,r2.2)else
    ((layAll (bi n live) r2.2.1 r2.2.2).1,if(layAll (bi n live) r2.2.1 r2.2.2).1=0 then n else m,(layAll (bi n live) r2.2.1 r2.2.2).2))=e->ez m offs w ds c b=e:=λ{e} he=>by
  unfold ez;rw[k4 (by rw[hr];decide)];exact he
 obtain⟨bl,a8⟩:=HF (splitB m.p b)
 have d2:∀r∈bl,m8 r=cS m.p:=by rw[a8];intro r hr;unfold splitB at hr;obtain⟨i,_,rfl⟩:=qI.1 hr;exact JX _ _ _
 rw[<-a8]at c8 dk;refine⟨a,m9,x.2.1,(aa.cU H8).2.cell m9,H8.alloc ag m9 λI h9 H9=>?_⟩;have H9:=H9.ba;refine H9.storeAll ag 0 m9 m9 (bf (c,x.2.1,(s.len:Int),⟨eH,0,0⟩)) m9 m9 m9 m9 λf8 bd=>?_;have bd:aa B h0 f8 (an I 83 (bf (c,m.next,(m8 b:Int),⟨eH,0,0⟩))::aJ bE a pw (aD x) offs da w ds::bo x m::an a3 24 [xJ xP m.p.1,xJ xP m.p.2.1,xJ xP m.p.2.2]::ai 3 U 1 av live::As):=by rw[<-hx.next,<-hl];exact bd
 have bd:=bd.aF 5 [1,2,3,4,0];rw[hx.next];refine(Ih U live 0 f8 (bd.seq 3 m9 λ_=>rfl) nb W).G7 λla gk=>?_;rw[WM];refine⟨dw [],m9,(bd.up gk.ac).alloc ag m9 λa22 li ef=>?_⟩;have ef:=ef.ba;refine ef.storeAll ag 0 m9 m9 (dl (dw [])) m9 (by rw[qn,iF]) (by unfold dl;rw[List.all_map];exact qQ.2 λx _=>rfl) (by rw[qn,iF];rfl) λj0 b1=>?_;have b1:=b1.aF 6 [1,2,3,4,5,0];refine⟨m.p,(b1.box 2 m9).aw _ m9,(Od m.p s b j0 hp (hS.at [_,_,_,_,_,_] b1) ii nb).Hf λq lk el=>?_⟩;rw[<-a8]at el;obtain⟨rs,a4⟩:=aa.Ho (b1.bS el) λ_=>rfl;have a4:=(((a4.Ma 167 2 piv ey).ba).nil 3 1 av).ba;have lo:=(a4.dv 2 m9).1.len;have ll:=(a4.dv 2 m9).2.1;refine⟨q,m9,?_⟩;have a4:=a4.aF 9 [3,4,5,6,7,0,8,2,1];refine ak (λt:Sl×Nat×aC×Sl=>(t.1,(t.2.1:Int))) (λt h'=>t.2.1<=m8 bl/\cX m.p m.next t.2.1=dB t.2.2.1/\aa B h0 h' (aJ bE a pw (aD x) offs da w ds::bo x m::an a3 24 [xJ xP m.p.1,xJ xP m.p.2.1,xJ xP m.p.2.2]::ai 3 U 1 av live::an I 83 (bf (c,m.next,(m8 b:Int),t.2.2.2))::ai 3 t.2.2.2 1 av (t.2.2.1)::an a22 113 (dl (dw (dC m m.next t.2.2.1 bl live t.2.1)))::cB (gf 1 aq) 1 bv q rs bl::dP 167 t.1 2 piv ey (dC m m.next t.2.2.1 bl live t.2.1)::As)) (λt=>m8 bl-t.2.1) (⟨eH,0,0⟩,0,[],⟨eH,0,0⟩) m9 ⟨qW _,m9,a4⟩ ?_;rintro⟨o,i,T,tr⟩ l1 ⟨hi,hT,ad⟩;dsimp only at hi hT ad⊢;have fq:=kH hT;refine ae (λe=>?_) λe=>?_
 rotate_left
 .have dd:i=m8 bl:=nb
  rw[dd]at hT ad;obtain⟨P,hP⟩:=HF (dC m m.next T bl live bl.length)
  rw[<-hP]at ad;obtain⟨pc,ad⟩:=ad.FI 8 rfl λ_=>rfl;obtain⟨E,hE⟩:∃E:Qw.cZ,E=⟨c,m.next,m8 b,T⟩:=⟨_,rfl⟩
  obtain⟨n,b7⟩:=HF (nR m E)
  obtain⟨F,d0⟩:=HF ((bG n).length)
  have et:=nu (m:=n);rw[<-d0]at et;have i3:bF n=eL:=by rw[b7,hE];exact Ns hm hr (by rw[<-a8];exact hT)
  have fz:=iA i3;have j9:m8 T=m8 bl:=kH hT;have gd:m8 P<=8*32:=by rw[hP,mX];exact zq nb nb
  have f2:∀{e:Int×aB×Pow×aG},(
    if iz m ds live (ck F P)=eR then(7,m,w,ds)else
    if(makes m (ck F P) live w ds).1≠0 then((makes m (ck F P) live w ds).1,m,(makes m (ck F P) live w ds).2)else
    if(layAll P (makes m (ck F P) live w ds).2.1 (makes m (ck F P) live w ds).2.2).1≠0 then((layAll P (makes m (ck F P) live w ds).2.1 (makes m (ck F P) live w ds).2.2).1,m,(layAll P (makes m (ck F P) live w ds).2.1 (makes m (ck F P) live w ds).2.2).2)else
    ((layAll (bi n live) (layAll P (makes m (ck F P) live w ds).2.1 (makes m (ck F P) live w ds).2.2).2.1 (layAll P (makes m (ck F P) live w ds).2.1 (makes m (ck F P) live w ds).2.2).2.2).1,if(layAll (bi n live) (layAll P (makes m (ck F P) live w ds).2.1 (makes m (ck F P) live w ds).2.2).2.1 (layAll P (makes m (ck F P) live w ds).2.1 (makes m (ck F P) live w ds).2.2).2.2).1=0 then n else m,(layAll (bi n live) (layAll P (makes m (ck F P) live w ds).2.1 (makes m (ck F P) live w ds).2.2).2.1 (layAll P (makes m (ck F P) live w ds).2.1 (makes m (ck F P) live w ds).2.2).2.2).2))=e->ez m offs w ds c b=e:=λ{e} he=>by
   refine dk ?_;rw[hT];rw[d0,b7,hE,hP,J]at he;exact he
  refine(Ik x m (ad.at 1 m9) hz nb ad).Hf λy k8 ip=>⟨y,m9,(ad.bS ip).alloc ag m9 λL l7 d1=>?_⟩;have d1:=d1.ba;refine d1.storeAll ag 0 m9 m9 (aD y) m9 m9 m9 m9 λi5 c9=>?_;have gs:cv i5 y (iy m):=c9.at 1 m9;refine⟨y.2.1,(c9.box 0 m9).cell m9,?_⟩;have j6:y.2.1=m.next:=gs.next
  try dsimp only
  rw[j6,af (m.next+1)];refine c9.store ag 0 m9 m9 1 [xJ xP (m.next+1)] m9 m9 m9 o1 λcr du=>?_;obtain⟨S,a6⟩:∃S:Sl->bc,S=λo=>(y.1,m.next+1,y.2.2.1,y.2.2.2.1,y.2.2.2.2.1,y.2.2.2.2.2.1,y.2.2.2.2.2.2.1,o):=⟨_,rfl⟩
  obtain⟨M,dy⟩:=HF y.2.2.2.2.2.2.2
  have du:aa B h0 cr (an L 27 (aD (S M))::bo y (iy m)::aJ bE a pw (aD x) offs da w ds::bo x m::an a3 24 [xJ xP m.p.1,xJ xP m.p.2.1,xJ xP m.p.2.2]::ai 3 U 1 av live::an I 83 (bf (c,m.next,(m8 b:Int),tr))::ai 3 tr 1 av (T)::an a22 113 (dl (dw (P)))::cB (gf 1 aq) 1 bv q rs bl::cB ey 2 piv o pc P::As):=by rw[a6,dy];exact du
  obtain⟨Z,am⟩:=aa.WI (du.aF 2 [1,0]);have hF:∀{h':hY} {Bs:List HP},aa B h0 h' (rk y (iy m) Z::Bs)->gE gS 4 bf h' M Z m.objs:=λ{h' Bs} H=>by rw[dy];exact(H.at 0 rfl:lm h' _ y (iy m)/\Fix gS 4 bf h' _ y.2.2.2.2.2.2.2 Z (iy m).objs).2
  have eo:m8 Z=m8 m.objs:=(hF am).2.1;have i8:M.len=m8 Z:=(hF am).1.len;have g7:M.len<=M.cap:=by rw[dy];exact(am.at 0 rfl:lm cr _ y (iy m)/\Fix gS 4 bf cr _ y.2.2.2.2.2.2.2 Z (iy m).objs).1.ocap
  have O:∀{h':hY} {Bs:List HP},aa B h0 h' (rk y (iy m) Z::an L 27 (aD (S M))::Bs)->cellOf h' (L.add 7)=dB (xK M.ptr M.len M.cap):=λH=>(H.box 1 m9).cell (by rw[a6];rfl);refine bn (λ(t:Int) h'=>∃k:Nat,t=k/\k<=m8 m.objs/\(∀e∈m.objs.take k,cW e.name c=eL)/\(∀hk:k<m8 m.objs,cW m.objs[k].name c=eR)/\aa B h0 h' (rk y (iy m) Z::an L 27 (aD (S M))::aJ bE a pw (aD x) offs da w ds::bo x m::an a3 24 [xJ xP m.p.1,xJ xP m.p.2.1,xJ xP m.p.2.2]::ai 3 U 1 av live::an I 83 (bf (c,m.next,(m8 b:Int),tr))::ai 3 tr 1 av (T)::an a22 113 (dl (dw (P)))::cB (gf 1 aq) 1 bv q rs bl::cB ey 2 piv o pc P::As)) ?_ ?_
  .refine ak (λk:Nat=>(k:Int)) (λk h'=>k<=m8 m.objs/\(∀e∈m.objs.take k,cW e.name c=eL)/\h'=cr) (λk=>m8 m.objs-k) 0 m9 ⟨qW _,λe he=>(by simp at he),m9⟩ ?_;rintro k hs ⟨hk,V,rfl⟩
   try dsimp only
   refine aE ⟨M,O am,ae (λe2=>?_) λe2=>⟨k,m9,hk,V,λb3=>absurd b3 nb,am⟩⟩;have b3:k<m8 m.objs:=nb
   obtain⟨ek,ha,zz,hc,rfl⟩:=(hF am).1.cQ (g:=bf) (i:=(k:Int)) k rfl nb (Z[k]'nb) rfl (K:=λt=>t=Z[k]'nb) rfl;have q0:cellOf hs (ek.add ((k:Int).toNat*4))=dB (xM m.objs[k].name):=by rw[<-(Fix.row (hF am) b3).1.1];exact hc.1
   refine⟨M,O am,ek,ha,m.objs[k].name,q0,aS (λe3=>⟨k+1,n7,⟨b3,λe he=>?_,m9⟩,nb⟩) λe3=>⟨k,m9,hk,V,λ_=>e3,am⟩⟩;rw[aA _ _ b3,qw,qB]at he;rcases he with he|rfl
   .exact V e he
   .exact e3
  rintro t mn ⟨k,rfl,hk,V,f9,a1⟩;have c0:n.objs=m.objs.take k++E::m.objs.drop k:=by rw[b7];refine Zf ((cM m).1 hm).2.2.2.2.2.1 (by rw[hE];exact Km z3) hk (by rw[hE];exact V) (by rw[hE];exact f9)
  obtain⟨xe,dx⟩:∃xe:dM,xe=(c,m.next,(m8 b:Int),tr):=⟨_,rfl⟩
  refine bn (λ(_:Unit) h'=>∃r:Sl,aa B h0 h' (an L 27 (aD (S r))::bo (S r) n::aJ bE a pw (aD x) offs da w ds::bo x m::ai 3 U 1 av live::an a22 113 (dl (dw P))::cB ey 2 piv o pc P::As)) ?_ ?_
  .have b0:∀{h':hY},bQ h' I 83 (bf (c,m.next,(m8 b:Int),tr))->bp h' I 0 (bf xe):=λ{h'} hb=>by rw[dx];exact hb.aw _ m9
   have jn:∀{h':hY},cellOf h' (L.add 7)=dB (xK M.ptr M.len M.cap)->bQ h' I 83 (bf (c,m.next,(m8 b:Int),tr))->bK.ok [(L.add 7,xK M.ptr M.len M.cap),(I,xM xe.1),(I.add 1,xJ xP xe.2.1),(I.add 2,xJ xP xe.2.2.1),(I.add 3,xK xe.2.2.2.ptr xe.2.2.2.len xe.2.2.2.cap)] h':=λ{h'} h7 hb=>by
    rw[dx];exact⟨h7,hb.cell0 m9,hb.cell m9,hb.cell m9,hb.cell m9,I0⟩
   refine⟨M,O a1,xe,b0 (a1.box 6 m9),M,O a1,⟨ze _,nb⟩,?_⟩;rw[qi];have hw:k<=m8 Z:=nb
   have fin:∀{h':hY} (v:Sl),aa B h0 h' (ai 83 v 4 bf ([xe]++Z.drop k)::rk y (iy m) Z::an L 27 (aD (S M))::aJ bE a pw (aD x) offs da w ds::bo x m::an a3 24 [xJ xP m.p.1,xJ xP m.p.2.1,xJ xP m.p.2.2]::ai 3 U 1 av live::an I 83 (bf (c,m.next,(m8 b:Int),tr))::ai 3 tr 1 av (T)::an a22 113 (dl (dw (P)))::cB (gf 1 aq) 1 bv q rs bl::cB ey 2 piv o pc P::As)->
     bC xT (q6 #[25,25] 25 #[xK M.ptr k k,v]) (.one (.sc .slc)) h' λv2 h2=>(bK.ok [(L.add 7,xK M.ptr M.len M.cap)] h2)/\au xT (Instr.storeAt 25 (xL (dB (L.add 7))) (xK v2.ptr v2.len v2.cap)) h2 λ_ h3=>(bK.ok [] h3)/\∃r:Sl,aa B h0 h3 (an L 27 (aD (S r))::bo (S r) n::aJ bE a pw (aD x) offs da w ds::bo x m::ai 3 U 1 av live::an a22 113 (dl (dw P))::cB ey 2 piv o pc P::As):=λ{h'} v H=>by
    have gi:=(H.own 0 m9).len;have ht:=(hF (H.aF 2 [1,0])).1.take k hw;rw[qo,List.length_singleton]at gi;refine H.ED (s:=⟨M.ptr,k,k⟩) ag mS ⟨_,_,m9,m9⟩ m9 nq (λ_=>rfl) ⟨ht.len,ht.elem⟩ (qj _) n1 (H.seq 0 m9 λ_=>rfl) n2 λr h2 H2=>?_;have H2:=H2.ba;refine⟨⟨O (H2.aF 4 [2,3]),I0⟩,H2.store ag 3 m9 m9 7 [r] m9 m9 m9 (by rw[a6];simp[Value.cells]) λh3 H3=>⟨I0,r,?_⟩⟩;have fu:(aD (S M)).take 7++([r]:aR)++(aD (S M)).drop (7+1)=aD (S r):=by rw[a6];rfl
    have H4:aa B h0 h3 (ai 83 r 4 bf (Z.take k++([xe]++Z.drop k))::ai 83 v 4 bf ([xe]++Z.drop k)::rk y (iy m) Z::an L 27 (aD (S r))::aJ bE a pw (aD x) offs da w ds::bo x m::an a3 24 [xJ xP m.p.1,xJ xP m.p.2.1,xJ xP m.p.2.2]::ai 3 U 1 av live::an I 83 (bf (c,m.next,(m8 b:Int),tr))::ai 3 tr 1 av (T)::an a22 113 (dl (dw (P)))::cB (gf 1 aq) 1 bv q rs bl::cB ey 2 piv o pc P::As):=by rw[<-fu];exact H3
    have H5:=H4.dY 9 m9 (D:=TV [(xe,E)]) λz hz t ht=>by
     rw[qB.1 ht,dx,hE];exact⟨⟨m9,m9,m9⟩,hz.1.seq (λ_=>rfl) hz.2⟩
    have H6:=H5.aF 13 [2,0,9,3,4,5,7,10,12];have b2:=(H6.at 0 rfl:lm h3 _ y (iy m)/\Fix gS 4 bf h3 _ y.2.2.2.2.2.2.2 Z (iy m).objs).1;refine(aa.WJ (x:=y) (m:=iy m) (x2:=S r) (m2:=n) (by rw[a6,b7];exact⟨b2.seq,m9,b2.p,b2.extra⟩) (by rw[a6]) (by rw[b7];rfl) (by rw[a6]) (by rw[c0];simp[eo]) (λp hp=>?_) H6).aF 2 [1,0];rw[c0,List.zip_append (by simp[eo])]at hp;show p∈Z.zip m.objs∨_;rw[<-List.take_append_drop k (Z.zip m.objs)];rcases qw.1 hp with hp|hp
    .exact .inl (List.mem_append_left _ (by rw[List.zip,List.take_zipWith];exact hp))
    .rw[List.singleton_append,List.zip_cons_cons]at hp;rcases List.mem_cons.1 hp with hp|hp
     .exact .inr (by rw[hp];simp)
     .exact .inl (List.mem_append_right _ (by rw[List.zip,List.drop_zipWith];exact hp))
   have app:∀{h':hY} {v:Sl} {K:Sl->hY->Prop},aa B h0 h' (ai 83 v 4 bf [xe]::rk y (iy m) Z::an L 27 (aD (S M))::aJ bE a pw (aD x) offs da w ds::bo x m::an a3 24 [xJ xP m.p.1,xJ xP m.p.2.1,xJ xP m.p.2.2]::ai 3 U 1 av live::an I 83 (bf (c,m.next,(m8 b:Int),tr))::ai 3 tr 1 av (T)::an a22 113 (dl (dw (P)))::cB (gf 1 aq) 1 bv q rs bl::cB ey 2 piv o pc P::As)->(∀v' ca,aa B h0 ca (ai 83 v' 4 bf ([xe]++Z.drop k)::rk y (iy m) Z::an L 27 (aD (S M))::aJ bE a pw (aD x) offs da w ds::bo x m::an a3 24 [xJ xP m.p.1,xJ xP m.p.2.1,xJ xP m.p.2.2]::ai 3 U 1 av live::an I 83 (bf (c,m.next,(m8 b:Int),tr))::ai 3 tr 1 av (T)::an a22 113 (dl (dw (P)))::cB (gf 1 aq) 1 bv q rs bl::cB ey 2 piv o pc P::As)->K v' ca)->
     bC xT (q6 #[25,25] 25 #[v,.slice (if M.cap=k then M.ptr else M.ptr.map (·.add (k*4))) (M.len-k) (M.cap-k)]) (.one (.sc .slc)) h' K:=λ{h' v K} H hK=>
    H.append ag 0 m9 mS ⟨_,_,m9,m9⟩ m9 nq (λ_=>rfl) ((hF (H.aF 2 [1,0])).1.drop k g7) AL n2 λv' ca H'=>hK v' ca H'
   refine⟨?_,?_⟩
   .refine ig ag mS k m9 m9 nb ⟨jn (O a1) (a1.box 6 m9),?_⟩;refine a1.lit ag bf mS m9 [xe] m9 (show 1*4<=2^20 by decide) n9 λv l9 cq=>?_;have cq:=cq.ba;refine⟨⟨O (cq.aF 3 [1,2]),I0⟩,app cq λv' lc fn=>⟨⟨O (fn.aF 3 [1,2]),I0⟩,fin v' fn⟩⟩
   .refine a1.lit ag bf mS m9 [xe] m9 (show 1*4<=2^20 by decide) n9 λv k5 a5=>?_;have a5:=a5.ba;refine⟨⟨O (a5.aF 3 [1,2]),O (a5.aF 3 [1,2]),I0⟩,?_,?_⟩
    .refine ig ag mS k m9 m9 nb ⟨⟨O (a5.aF 3 [1,2]),I0⟩,?_⟩;exact app a5 λv' l4 fb=>⟨⟨O (fb.aF 3 [1,2]),I0⟩,fin v' fb⟩
    .refine app a5 λv' mp cc=>⟨⟨O (cc.aF 3 [1,2]),O (cc.aF 3 [1,2]),I0⟩,?_⟩
     exact ig ag mS k m9 m9 nb ⟨⟨O (cc.aF 3 [1,2]),I0⟩,fin v' cc⟩
  rintro _ k7 ⟨r,gl⟩;have ea:∀{h':hY} {w':Pow} {ax:aG} {cu:aC},aa B h0 h' (an L 27 (aD (S r))::bo (S r) n::aJ bE a pw (aD x) offs da w' ax::bo x m::ai 3 U 1 av live::an a22 113 (dl cu)::cB ey 2 piv o pc P::As)->aa B h0 h' (aJ bE a pw (aD x) offs da w' ax::bo x m::ai 3 U 1 av live::an a22 113 (dl cu)::cB ey 2 piv o pc P::an L 27 (aD (S r))::bo (S r) n::As):=λH=>H.aF 7 [2,3,4,5,6,0,1];have g9:∀k:Int,((P.filter λy=>decide (y.1=k)).length:Int)<=256:=λk=>by
   have:=qK (λy:Int×aT=>decide (y.1=k)) P;omega
  refine ak (λj:Nat=>(j:Int)) (λj h'=>j<=m8 live/\aa B h0 h' (an L 27 (aD (S r))::bo (S r) n::aJ bE a pw (aD x) offs da w ds::bo x m::ai 3 U 1 av live::an a22 113 (dl (rn (live.take j) (dw P) F))::cB ey 2 piv o pc P::As)) (λj=>m8 live-j) 0 m9 ⟨qW _,gl⟩ ?_;rintro j ho ⟨hj,R⟩
  try dsimp only
  refine ae (λe2=>?_) λe2=>?_
  .have ci:j<m8 live:=nb
   have X:=W _ (qe ci);obtain⟨Y,b5⟩:∃Y:Nat,live[j]=(Y:Int):=⟨live[j].toNat,nb⟩
   obtain⟨G,hG⟩:=HF (rn (live.take j) (dw P) F)
   have eg:m8 G=64:=by rw[hG,Gp,iF]
   rw[<-hG]at R;have k2:G.getD Y 0<=256+9/\0<=G.getD Y 0:=by have h1:=Gq (F:Int) (l:=live.take j) (iF P) (c6.sublist (List.take_sublist _ _)) (λy hy=>W y (List.mem_of_mem_take hy)) (Y:Int) nb nb;rw[<-hG,qi,si P]at h1;have:=g9 Y;rw[h1];split<;>omega
   have ed:rn (live.take (j+1)) (dw P) F=G.set Y (G.getD Y 0+F):=by rw[aA _ _ ci,WP,b5,qi,<-hG]
   refine(R.seq 4 m9 λ_=>rfl).aW j m9 ci live[j] m9 ?_;rw[b5]at X⊢;refine⟨⟨X.1,X.2⟩,G.getD Y 0,AY eg nb (R.box 5 m9),S r,(R.box 0 m9).aw _ m9,(mz (S r) n ho (R.at 1 m9) fz).Hf λpg md fa=>?_⟩;have f7:=(aa.lC fa).1;have er:=R.up fa.ac;refine⟨pg,m9,⟨AY eg nb (er.box 5 m9),I0⟩,⟨X.1,X.2⟩,?_⟩;rw[qi,zG,f7,<-d0,af _];refine er.storeAt ag 5 m9 m9 (off:=Y) m9 m9 m9 (by rw[qn,eg];omega) λb9 im=>⟨I0,?_⟩
   refine⟨j+1,n7,⟨ci,?_⟩,nb⟩;have e4:dl (G.set Y (G.getD Y 0+F))=(dl G).set Y (xJ xP (G.getD Y 0+F)):=by unfold dl;rw[xG]
   rw[ed,e4];exact im
  have hd:j=m8 live:=nb
  rw[hd,qt]at R;obtain⟨NF,eb⟩:=HF (rn live (dw P) F)
  have b9:m8 NF=64:=by rw[eb,Gp,iF]
  rw[<-eb]at R;have eq:∀k∈live,(λk:Int=>NF.getD k.toNat 0) k=ck F P k:=λk hk=>by
   have X:=W k hk;have h1:=Gq (F:Int) (l:=live) (iF P) c6 W k X.1 X.2;obtain⟨Y,rfl⟩:∃Y:Nat,k=(Y:Int):=⟨k.toNat,nb⟩
   try dsimp only
   rw[eb,h1,hZ hk,qi,si P];unfold ck;omega
  have R:=ea R;have tX:∀{h':hY} {w':Pow} {ax:aG} {Bs:List HP},aa B h0 h' (aJ bE a pw (aD x) offs da w' ax::bo x m::ai 3 U 1 av live::Bs)->Rd h' U 1 av live:=λH=>H.seq 2 m9 λ_=>rfl;have out:∀{h':hY} {w':Pow} {ax:aG} {e:Int},aa B h0 h' (aJ bE a pw (aD x) offs da w' ax::bo x m::ai 3 U 1 av live::an a22 113 (dl NF)::cB ey 2 piv o pc P::an L 27 (aD (S r))::bo (S r) n::As)->ez m offs w ds c b=(e,m,w',ax)->(Value.int .i64 e=xJ xP (ez m offs w ds c b).1/\
    ∃y,aa B h0 h' (aJ bE a pw (aD y) offs da (ez m offs w ds c b).2.2.1 (ez m offs w ds c b).2.2.2::bo y (ez m offs w ds c b).2.1::As)):=λ{h' w' ax e} H' he=>by
   rw[he];exact⟨m9,x,H'.aF 7 [0,1]⟩
  refine⟨NF,⟨b9,(R.box 3 m9).aw _ (qt ..)⟩,(Kw x m U live NF b9 (R.at 1 m9) hz (tX R) nb W R).G7 λk6 j3=>?_⟩;have eh:=R.up j3.ac;rw[Il eq];refine⟨_,m9,aH (λg=>out eh (f2 (by rw[hZ g]))) λg=>?_⟩;refine⟨NF,⟨b9,(eh.box 3 m9).aw _ (qt ..)⟩,(Ij x m U live NF b9 (St.and (St.dS 0 m9 λh' hq=>hq) (St.dS (A:=ai 3 U 1 av live) 1 m9 λh' hq=>hq.1.seq (λ_=>rfl) hq.2)) hz nb W eh).mono ?_⟩;rw[Ax eq];rintro _ l3 ⟨rfl,dr⟩;have ao:∀{e:Int×aB×Pow×aG},(
    if(makes m (ck F P) live w ds).1≠0 then((makes m (ck F P) live w ds).1,m,(makes m (ck F P) live w ds).2)else
    if(layAll P (makes m (ck F P) live w ds).2.1 (makes m (ck F P) live w ds).2.2).1≠0 then((layAll P (makes m (ck F P) live w ds).2.1 (makes m (ck F P) live w ds).2.2).1,m,(layAll P (makes m (ck F P) live w ds).2.1 (makes m (ck F P) live w ds).2.2).2)else
    ((layAll (bi n live) (layAll P (makes m (ck F P) live w ds).2.1 (makes m (ck F P) live w ds).2.2).2.1 (layAll P (makes m (ck F P) live w ds).2.1 (makes m (ck F P) live w ds).2.2).2.2).1,if(layAll (bi n live) (layAll P (makes m (ck F P) live w ds).2.1 (makes m (ck F P) live w ds).2.2).2.1 (layAll P (makes m (ck F P) live w ds).2.1 (makes m (ck F P) live w ds).2.2).2.2).1=0 then n else m,(layAll (bi n live) (layAll P (makes m (ck F P) live w ds).2.1 (makes m (ck F P) live w ds).2.2).2.1 (layAll P (makes m (ck F P) live w ds).2.1 (makes m (ck F P) live w ds).2.2).2.2).2))=e->ez m offs w ds c b=e:=λ{e} he=>f2 (by rw[k4 D2];exact he)
  obtain⟨m1,fy⟩:=HF (makes m (ck F P) live w ds)
  rw[<-fy]at dr ao⊢;refine⟨_,m9,?_⟩;by_cases g1:m1.1=0
  rotate_left
  .refine aE (aZ (λe=>absurd e g1) λ_=>aE (aZ (λe=>absurd e g1) λ_=>aE (aZ (λe=>absurd e g1) λ_=>out dr (ao (by rw[hZ g1])))))
  refine aE (aZ (λ_=>?_) λe=>absurd g1 e);have c5:Has m1.2.2 live:=by rw[fy,J];exact Has.makes (Has.live (aa.cU R).1.ls)
  have c2:∀y∈P,y.1∈live/\y.2.length<=64:=λy hy=>by rw[hP]at hy;exact Gh ⟨nb,fr⟩ ei W c8 hy
  refine(Kk o pc P (St.dS (A:=cB ey 2 piv o pc P) 3 m9 λh' hq=>hq) nb (λy hy=>by have:=(c2 y hy).2;omega) (c5.sub λk hk=>by obtain⟨y,hy,rfl⟩:=qI.1 hk;exact(c2 y hy).1) dr).G7 λk9 cb=>?_;obtain⟨m2,f6⟩:=HF (layAll P m1.2.1 m1.2.2)
  rw[<-f6]at cb ao⊢;rw[k4 (by rw[g1];decide)]at ao;refine⟨_,m9,?_⟩;by_cases g2:m2.1=0
  rotate_left
  .refine aE (aZ (λe=>absurd e g2) λ_=>aE (aZ (λe=>absurd e g2) λ_=>out cb (ao (by rw[hZ g2]))))
  refine aE (aZ (λ_=>?_) λe=>absurd g2 e);have d5:Has m2.2.2 live:=by rw[f6];exact c5.lay P _
  refine⟨S r,(cb.box 5 m9).aw _ m9,(Au (S r) n U live (St.and (St.dS (A:=bo (S r) n) 5 m9 λh' hq=>hq) (St.dS (A:=ai 3 U 1 av live) 1 m9 λh' hq=>hq.1.seq (λ_=>rfl) hq.2)) fz nb d5 cb).G7 λmr cf=>?_⟩;obtain⟨m3,j5⟩:=HF (layAll (bi n live) m2.2.1 m2.2.2)
  rw[<-j5]at cf ao⊢;rw[k4 (by rw[g2];decide)]at ao;refine⟨_,m9,?_⟩;by_cases g3:m3.1=0
  rotate_left
  .refine aE (aZ (λe=>absurd e g3) λ_=>out cf (ao (by rw[k4 g3])))
  refine aE (aZ (λ_=>?_) λe=>absurd g3 e);refine⟨S r,(cf.box 5 m9).aw _ m9,a,m9,NX x (S r) cf λln g8=>?_⟩;rw[ao m9,hZ g3];exact⟨m9,S r,g8.aF 7 [0,6]⟩
 have bq:i<m8 bl:=nb
 obtain⟨P,hP⟩:=HF (dC m m.next T bl live i)
 rw[<-hP]at ad;have g5:=ad.dv 7 m9;refine g5.1.aW i m9 nb (rs[i]'nb) m9 ?_;refine bn (λ(t:Int) h'=>((lX m.p m.next i=eH/\t=16)∨∃n:Nat,n<16/\lX m.p m.next i=dB n/\t=n)/\aa B h0 h' (aJ bE a pw (aD x) offs da w ds::bo x m::an a3 24 [xJ xP m.p.1,xJ xP m.p.2.1,xJ xP m.p.2.2]::ai 3 U 1 av live::an I 83 (bf (c,m.next,(m8 b:Int),tr))::ai 3 tr 1 av (T)::an a22 113 (dl (dw (P)))::cB (gf 1 aq) 1 bv q rs bl::dP 167 o 2 piv ey (P)::As)) ?_ ?_
 .refine ak (λk:Nat=>(k:Int)) (λk h'=>k<=16/\(∀j,j<k->wd m.p m.next i j=eR)/\aa B h0 h' (aJ bE a pw (aD x) offs da w ds::bo x m::an a3 24 [xJ xP m.p.1,xJ xP m.p.2.1,xJ xP m.p.2.2]::ai 3 U 1 av live::an I 83 (bf (c,m.next,(m8 b:Int),tr))::ai 3 tr 1 av (T)::an a22 113 (dl (dw (P)))::cB (gf 1 aq) 1 bv q rs bl::dP 167 o 2 piv ey (P)::As)) (λk=>16-k) 0 m9 ⟨qW _,λj hj=>absurd hj (xv _),ad⟩ ?_;rintro k i1 ⟨hk,V,ec⟩
  try dsimp only
  refine aE (ae (λe2=>?_) λe2=>?_)
  rotate_left
  .have f1:k=16:=nb
   exact⟨I0,I0,.inl ⟨WO (by rw[f1]at V;exact V),nb⟩,ec⟩
  have a9:=ec.box 2 m9;refine⟨m.p,a9.aw _ m9,(rH m.next i k i1).G6 ?_⟩;refine⟨_,m9,⟨a9.cell0 m9,a9.cell m9,a9.cell m9,I0⟩,(Cz m.p (fx m.next i k) _).G7 λk3 j4=>?_⟩;have ew:=ec.up j4.ac;refine⟨_,m9,I0,aH (λe3=>⟨k+1,n7,⟨nb,λj hj=>?_,ew⟩,nb⟩) λe3=>⟨.inr ⟨k,nb,abq nb V e3,m9⟩,ew⟩⟩;by_cases ih:j=k
  .rw[ih];exact e3
  .exact V j nb
 rintro t l5 ⟨ht,d7⟩;rcases ht with⟨hno,rfl⟩|⟨n,hn16,hsm,rfl⟩
 .refine aZ (λ_=>a0 (Bs:=[]) (d7.aF 9 [0,1,2,3]) (dk ?_)) λe=>absurd m9 e;have:cX m.p m.next bl.length=eH:=WN (i:=i+1) (by unfold cX;rw[hT,Option.bind_some,hno];rfl) _ bq;rw[this]
 refine aZ (λe=>nb) λ_=>?_;refine⟨tr,(d7.box 4 m9).cell m9,?_⟩;refine d7.push ag 5 m9 ge m9 nq (λ_=>rfl) dt (n:Int) m9 nq nb λay lf j2=>?_;refine j2.store ag 4 m9 m9 3 [ay] m9 m9 m9 n4 λi9 d6=>?_;have jj:cX m.p m.next (i+1)=dB (T++[(n:Int)]):=by unfold cX;rw[hT,Option.bind_some,hsm];rfl
 refine(rH m.next i n i9).G6 ?_;obtain⟨seed,ap⟩:=HF (fx m.next i n)
 rw[<-ap];refine⟨seed,m9,m.p,(d6.box 2 m9).aw _ m9,?_⟩;have d4:fI m.p seed (fo m.p)=eL:=by rw[ap];exact(Dy hsm).2.1
 obtain⟨K,Hh,w',nn,BK⟩:=ZM (seed:=seed) (d:=bl[i]) hp d4 (by rw[d2 _ (qe bq),s3]);have c7:=Fix.row (d6.dv 7 m9) bq;refine(PR m.p seed (rs[i]'nb) bl[i] _ c7.1 c7.2).mono ?_;rintro _ j1 ⟨Q0,_⟩;obtain⟨bk,mm,rfl,g6⟩:=Q0 BK.iW;have e0:=((d6.comp g6).front).aF 11 [2,3,4,5,6,7,8,9,10,0,1];refine⟨(dB bk,0),m9,(KY m.next i U live j1 (e0.seq 3 m9 λ_=>rfl) nb).Hf λb4 le h6=>?_⟩;have f5:=(e0.bS h6).aF 12 [1,2,3,4,5,6,7,8,9,10,11,0];obtain⟨f,a7⟩:=HF (js m.next i live)
 rw[<-a7]at f5;refine⟨b4,m9,?_⟩;obtain⟨ah,b6⟩:∃ah:Nat,ah=(m.p.1+m.extra).toNat:=⟨_,rfl⟩
 have cn:ah<=32:=nb
 have i0:(T++[(n:Int)]).getD i 0=(n:Int):=by rw[qg,qk nb,fq,zd];rfl
 have gt:bl.getD i []=bl[i]:=by rw[qg,qc bq];rfl
 obtain⟨Q,hQ⟩:=HF (nM m m.next (T++[(n:Int)]) bl live i)
 have hu:Q=(qy ah).map λid:Nat=>mW m m.next i seed bl[i] f id:=by rw[hQ];unfold nM;rw[i0,gt,<-ap,<-a7,<-b6]
 have hg:m8 Q=ah:=by rw[hQ,BN,<-b6]
 have gd:m8 P<=8*32:=by rw[hP,mX,<-b6];exact zq nb cn
 have it:dC m m.next (T++[(n:Int)]) bl live (i+1)=P++Q:=by rw[ms,KW m m.next (n:Int) bl live fq,<-hP,hQ]
 refine ak (λt:Sl×Nat=>(t.1,(t.2:Int))) (λt h'=>t.2<=ah/\aa B h0 h' (aJ bE a pw (aD x) offs da w ds::bo x m::an a3 24 [xJ xP m.p.1,xJ xP m.p.2.1,xJ xP m.p.2.2]::ai 3 U 1 av live::an I 83 (bf (c,m.next,(m8 b:Int),ay))::ai 3 ay 1 av (T++[(n:Int)])::an a22 113 (dl (dw (P++Q.take t.2)))::cB (gf 1 aq) 1 bv q rs bl::dP 167 t.1 2 piv ey (P++Q.take t.2)::dE 41 mm 1 aq (kg m.p seed bl[i])::an bk 225 (sC m.p seed mm)::ai 3 b4 1 av f::As)) (λt=>ah-t.2) (o,0) m9 ⟨qW _,by simpa using f5⟩ ?_;rintro⟨o2,id⟩ ix ⟨hid,ab⟩;dsimp only at hid ab⊢;have f3:=(aa.cU ab).2;refine⟨m.p.1,(ab.box 2 m9).cell0 m9,a,m9,x.2.2.2.2.2.1,f3.cell m9,?_⟩;have en:qd xP (m.p.1+x.2.2.2.2.2.1)=(ah:Int):=by rw[hx.extra,af _];omega
 try dsimp only
 rw[en];refine ae (λe3=>?_) λe3=>?_
 rotate_left
 .have dd:id=ah:=nb
  rw[dd,<-hg,qt]at ab;refine⟨(o2,i+1,T++[(n:Int)],ay),n3,⟨bq,jj,?_⟩,n1⟩
  try dsimp only
  rw[it];exact ab.aF 12 [0,1,2,3,4,5,6,7,8]
 have e9:id<ah:=nb
 refine(Ub b4 f id ix (ab.seq 11 m9 λ_=>rfl)).G6 ⟨_,m9,?_⟩;have a9:=ab.box 2 m9;have fs:adE _ bk m.p seed (kg m.p seed bl[i]):=⟨mm,ab.box 10 m9,ab.oL 9 m9⟩
 have c4:BM m.p seed bl[i] id=if bR id then jT w' (kg m.p seed bl[i]) (eG nn seed id)else[]:=by unfold BM;rw[BK.sP,show m.p.2.2.toNat=w' by have:=BK.s;omega]
 have held:∀{h':hY},bQ h' a3 24 [xJ xP m.p.1,xJ xP m.p.2.1,xJ xP m.p.2.2]->bK.ok [(a3,xJ xP m.p.1),(a3.add 1,xJ xP m.p.2.1),(a3.add 2,xJ xP m.p.2.2)] h':=λ{h'} hb=>⟨hb.cell0 m9,hb.cell m9,hb.cell m9,I0⟩
 refine bn (λ(d3:fY) h'=>∃r:Sl,aa B h0 h' (an d3 128 (bB (m.next,(i:Int),(id:Int),m.p.1,m.p.2.1,m.p.2.2,seed,r))::ai 5 r 1 aq (BM m.p seed bl[i] id)::aJ bE a pw (aD x) offs da w ds::bo x m::an a3 24 [xJ xP m.p.1,xJ xP m.p.2.1,xJ xP m.p.2.2]::ai 3 U 1 av live::an I 83 (bf (c,m.next,(m8 b:Int),ay))::ai 3 ay 1 av (T++[(n:Int)])::an a22 113 (dl (dw (P++Q.take id)))::cB (gf 1 aq) 1 bv q rs bl::dP 167 o2 2 piv ey (P++Q.take id)::dE 41 mm 1 aq (kg m.p seed bl[i])::an bk 225 (sC m.p seed mm)::ai 3 b4 1 av f::As)) ?_ ?_
 .refine⟨m.p,a9.aw _ m9,?_,?_⟩
  .refine(AZ bk m.p seed id _ nn w' _ fs hp BK.s BK.sP BK.AG.2 BK.AG.1).Hf λr mo ej=>?_;rw[<-c4]at ej;have eu:=ab.bS ej;refine⟨r,m9,held (eu.box 3 m9),eu.alloc ag m9 λl2 l6 cd=>?_⟩;have cd:=cd.ba;refine⟨held (cd.box 4 m9),?_⟩;exact cd.storeAll ag 0 m9 m9 (bB (m.next,(i:Int),(id:Int),m.p.1,m.p.2.1,m.p.2.2,seed,r)) m9 m9 m9 m9 λlw iq=>⟨I0,r,iq⟩
  .refine ab.ub ag m9 λk4 lb k1 bb=>?_;have bb:=bb.ba;refine⟨held (bb.box 3 m9),?_⟩;refine(AZ bk m.p seed id _ nn w' _ ⟨mm,bb.box 11 m9,bb.oL 10 m9⟩ hp BK.s BK.sP BK.AG.2 BK.AG.1).Hf λr lz f4=>?_;rw[<-c4]at f4;have es:=(bb.bS f4).aF 2 [1,0];refine⟨r,m9,held (es.box 4 m9),?_⟩;exact es.storeAll ag 0 m9 m9 (bB (m.next,(i:Int),(id:Int),m.p.1,m.p.2.1,m.p.2.2,seed,r)) m9 m9 m9 m9 λml jp=>⟨I0,r,jp⟩
 rintro d3 i6 ⟨r,d9⟩;have d8:=Fh m.next i n;rw[<-ap]at d8;refine⟨(m.next,(i:Int),(id:Int),m.p.1,m.p.2.1,m.p.2.2,seed,r),(d9.box 0 m9).aw _ m9,?_⟩;refine(uE (m.next,(i:Int),(id:Int),m.p.1,m.p.2.1,m.p.2.2,seed,r) (SZ m m.next i seed bl[i] id) i6 ⟨⟨m9,m9,m9,m9,m9,d8.1,d8.2⟩,d9.seq 1 m9 λ_=>rfl⟩).Hf λu mx i7=>?_;have j8:=(d9.bS i7).dY 0 m9 (D:=EA ey (nL f id,u) (mW m m.next i seed bl[i] f id)) λz hz=>⟨m9,hz.1.seq (λ_=>rfl) hz.2⟩
 have c1:Q[id]'nb=mW m m.next i seed bl[i] f id:=by simp[hu]
 refine⟨u,m9,?_⟩;refine aa.En ag j8 11 0 nq (a:=(nL f id,u)) m9 m9 aao m9 nq (λ_=>rfl) tC (parts:=#[(0,xO #[xJ xP (nL f id),u])]) n9 nq n2 λo3 i4 cs=>?_;have hv:=Gh (m:=m) (tries:=T++[(n:Int)]) (bl:=bl) ⟨nb,fr⟩ ei W c8 (y:=mW m m.next i seed bl[i] f id) (by
  unfold dC;refine wM.2 ⟨i,qY.2 bq,?_⟩;rw[<-hQ,<-c1];exact qe _)
 have X:=W _ hv.1;have ep:(mW m m.next i seed bl[i] f id).1=nL f id:=rfl;rw[ep]at X;obtain⟨Y,b5⟩:∃Y:Nat,nL f id=(Y:Int):=⟨(nL f id).toNat,nb⟩
 rw[b5]at X⊢;have fi:P++Q.take (id+1)=(P++Q.take id)++[mW m m.next i seed bl[i] f id]:=by rw[aA Q id,c1,<-ql]
 have hf:dw (P++Q.take (id+1))=(dw (P++Q.take id)).set Y ((dw (P++Q.take id)).getD Y 0+1):=by rw[fi];exact TZ _ (by rw[ep,b5]) nb
 have ks:(dw (P++Q.take id)).getD Y 0<=8*32+32:=by
  rw[si _];have h1:=qK (λy:Int×aT=>decide (y.1=(Y:Int))) (P++Q.take id);have h2:(P++Q.take id).length<=8*32+32:=by rw[qo,qx];omega
  omega
 have ka:0<=(dw (P++Q.take id)).getD Y 0:=by rw[si _];omega
 have cs:aa B h0 i4 (emp::an d3 128 (bB (m.next,(i:Int),(id:Int),m.p.1,m.p.2.1,m.p.2.2,seed,r))::ai 5 r 1 aq (BM m.p seed bl[i] id)::aJ bE a pw (aD x) offs da w ds::bo x m::an a3 24 [xJ xP m.p.1,xJ xP m.p.2.1,xJ xP m.p.2.2]::ai 3 U 1 av live::an I 83 (bf (c,m.next,(m8 b:Int),ay))::ai 3 ay 1 av (T++[(n:Int)])::an a22 113 (dl (dw (P++Q.take id)))::cB (gf 1 aq) 1 bv q rs bl::dP 167 o3 2 piv ey (P++Q.take (id+1))::dE 41 mm 1 aq (kg m.p seed bl[i])::an bk 225 (sC m.p seed mm)::ai 3 b4 1 av f::As):=by rw[fi];exact cs
 refine⟨⟨X.1,X.2⟩,(dw (P++Q.take id)).getD Y 0,AY (iF _) nb (cs.box 9 m9),⟨X.1,X.2⟩,?_⟩;rw[qi,zG,af _];refine cs.storeAt ag 9 m9 m9 (off:=Y) m9 m9 m9 (by rw[qn,iF];omega) λl8 j7=>?_;refine⟨(o3,id+1),n3,⟨e9,?_⟩,n1⟩
 try dsimp only
 have e4:dl (dw (P++Q.take (id+1)))=(dl (dw (P++Q.take id))).set Y (xJ xP ((dw (P++Q.take id)).getD Y 0+1)):=by rw[hf];unfold dl;rw[xG]
 rw[e4];exact j7.aF 15 [3,4,5,6,7,8,9,10,11,12,13,14]
end
theorem Zh{m:aO}{i:Nat}(h:i<m8 m):az m i=m[i]:=be h
theorem Oe(a:Sl)(l:Row)(h:hY)(q:Rd h a 1 aq l)(t:m8 l<=2^30):aj xT 270 #[a] h λv h'=>v=xJ xP (if ic l<m8 l then(ic l:Int)else-1)/\h'=h:=by
 refine ts Tryz.func270 ?_ (F8 (F9 [(6,aI)] [(2,4),(6,16)]));have s:=q.len;refine ak (λi:Nat=>(i:Int)) (λi h'=>h'=h/\i<=m8 l/\∀j (d:j<m8 l),j<i->l[j]=0) (λi=>m8 l-i) 0 m9 ⟨m9,nb,λj _ d=>nb⟩ ?_;rintro i u ⟨rfl,w,c⟩;refine ae (λe=>?_) (λe=>?_)
 .have b:i<m8 l:=nb
  refine q.aW i m9 b _ m9 ?_;refine bm (λo=>?_) (λo=>?_)
  .have k:l[i]≠0:=λr=>o (by rw[r];rfl);have p:ic l=i:=by rw[ic,List.findIdx_eq b];exact⟨C6,λj d=>by simp[c j nb d]⟩
   rw[p,hZ b];exact⟨m9,m9⟩
  .refine⟨i+1,n7,⟨m9,nb,λj d m=>?_⟩,nb⟩;rcases q8.1 m with h3|rfl
   .exact c j d h3
   .exact nA.1 o
 .have g:¬ic l<m8 l:=by rw[ic,List.findIdx_lt_length];rintro⟨x,k,f⟩;obtain⟨j,d,rfl⟩:=qD k;rw[c j d nb]at f;simp at f
  rw[k4 g];exact⟨m9,m9⟩
theorem Jn(a b:Sl)(A B:aO)(m n w:Nat)(h:hY)(ha:eF h a 1 aq A)(hb:eF h b 1 aq B)(hl:m8 A=m)(g3:m8 B=m)(L:1<=m)(Q:m<=2^20)(hA:aU n A)(hB:aU w B)(g8:1<=n)(hn:n+w<=64):
  aj xT 193 #[a,b] h λv h'=>(cz A≠n/\v=.tuple #[xK eH 0 0,xJ xP 9]/\Sp h h' [])∨(cz A=n/\jk n A B/\∃r:Sl,v=.tuple #[r,xJ xP 0]/\Sp h h' [dE 41 r 1 aq (eU n A B)])∨(cz A=n/\¬jk n A B/\v=.tuple #[xK eH 0 0,xJ xP 10]/\Sp h h' []):=by
 have cu:m8 B=m8 A:=nb
 have eu:=ha.len;have c1:=hb.len;refine ts Tryz.func193 ?_ (F8 (G0 [] [(4,6),(16,36)] (F8 (F8 (F8 (E5 (F8 (E7 (E8 [(7,bJ),(8,bJ),(46,aI)] [(7,10),(46,66)] E6))) (E5 (F8 (E7 (E8 [(10,aI)] [(10,15),(66,182)] (F8 (E5 (E7 (F8 (E5 (E7 (E8 [(11,aI)] [(11,12),(72,82)] E6)) (G0 [] [(82,110)] (F8 (G0 [] [(118,136)] (F8 (E7 (E8 [(138,aI)] [(13,15),(138,182)] (F8 (F8 (E5 (E7 (F8 (F8 (G0 [(154,mR)] [(148,155)] E6)))) E6)))))))))))) E6))))) (F9 [(15,aI)] [(4,6),(15,16),(183,195)])))))))) [(10,(.l [0,1,2,3,4,8,9,10,11,12,5,6,7,13,14,15,16,17])),(20,(.l [0,1,2,3,4,5,6,7,8,10,11,12,13,14,9,15,16,17,18,19])),(26,(.l [0,1,2,3,4,5,6,7,8,9,10,11,12,14,15,16,17,18,19,20,21,22,13,23,24,25,26,27]))];refine aE ?_;refine(lN a A n h ha hA).mono ?_;rintro v J ⟨rfl,rfl⟩;refine⟨_,m9,aH (λe=>n5) λ_=>?_⟩;refine(lN b B w J hb hB).mono ?_;rintro v y ⟨rfl,rfl⟩;refine⟨_,m9,aH (λe=>n5) λ_=>?_⟩;refine bm (λe=>absurd (by rw[eu,c1,cu]) e) λ_=>?_;refine aZ (λe=>nb) λ_=>?_;refine ha.get 0 m9 nb λr0 dr=>?_;have a2:=dr.len;rw[hA _ (qe _)]at a2;rw[a2];refine(uG a A n y ha hA).mono ?_;rintro v h4 ⟨rfl,R4⟩;have f4:=Dc hA;refine⟨_,m9,ae (λe=>.inl ⟨λT=>?_,m9,.zip R4.ac⟩) λe0=>?_⟩
 .have e':(cz A:Int)<(n:Int):=e;omega
 have hr:cz A=n:=by have e':¬(cz A:Int)<(n:Int):=e0;omega
 have g7:n<=m:=by have:=mN A hA;omega
 obtain⟨M,hM⟩:=HF (eO A B)
 have d9:m8 M=m:=by rw[hM,lE];exact hl
 have e6:aU (n+w) M:=by rw[hM];exact lQ nb hA hB
 have eo:∀k (hk:k<m),(M[k]'nb).take n=A[k]'nb/\(M[k]'nb).drop n=B[k]'nb:=λk hk=>by
  have J:(A[k]'nb).length=n:=hA _ (qe _);have e:M[k]'nb=A[k]'nb++B[k]'nb:=by subst hM;simp[eO]
  rw[e,List.take_left' J,List.drop_left' J];exact⟨m9,m9⟩
 have bk:(aY M n).1=n:=by rw[hM,ug nb hA];exact hr
 obtain⟨g2,fy⟩:=ha;obtain⟨f9,eb⟩:=hb;have H4:=(((Sp.refl y).up R4.ac).nil 41 1 bv).nil 41 1 bv|>.aar
 refine ak (λt:Sl×Sl×Nat×List Sl×List Sl×List (Sl×Row)=>(t.1,t.2.1,(t.2.2.1:Int)))
  (λt h'=>t.2.2.1<=m/\Sp y h' [ai 41 t.1 1 bv t.2.2.2.1,ai 41 t.2.1 1 bv t.2.2.2.2.1,fT t.2.2.2.2.2]/\bZ t.2.2.2.2.2 (yt n) t.2.2.2.1 (M.take t.2.2.1)/\bZ t.2.2.2.2.2 (wS n) t.2.2.2.2.1 (M.take t.2.2.1))
  (λt=>m-t.2.2.1) (⟨eH,0,0⟩,⟨eH,0,0⟩,0,[],[],[]) m9 ⟨n4,H4,bZ.nil _ _,bZ.nil _ _⟩ ?_
 rintro⟨s,t,k,rs,qs,pool⟩ h5 ⟨hk,H5,ip,iq⟩;dsimp only at*;have f2:m8 rs=k:=by rw[ip.1,qx];omega
 have f1:m8 qs=k:=by rw[iq.1,qx];omega
 refine ae (λe=>?_) (λe=>?_)
 .have e8:k<m:=nb
  obtain⟨mt,md⟩:=eo k e8;have lA:(A[k]'nb).length=n:=hA _ (qe _);have lB:(B[k]'nb).length=w:=hB _ (qe _);obtain⟨a8,d7,x9,d1,ef⟩:=fy.RY (K:=λ_ r=>Rd y r 1 aq (A[k]'nb)) (i:=(k:Int)) k rfl nb λ_ _ _ hs _=>hs;obtain⟨d6,c8,et,E,dd⟩:=eb.RY (K:=λ_ r=>Rd y r 1 aq (B[k]'nb)) (i:=(k:Int)) k rfl nb λ_ _ _ hs _=>hs;refine⟨a8,d7,x9,eE d1 H5.ac,d6,c8,et,eE E H5.ac,?_⟩;have H6:=H5.nil 5 1 aq;refine H6.append ag 3 m9 cR ⟨_,_,m9,m9⟩ m9 nq (λ_=>rfl) (Seq.up ef H6.ac) cH n2 λa4 h7 H7=>⟨⟨eE E H7.ac,I0⟩,?_⟩
  refine H7.lit ag bv cO m9 [a4] m9 (show 1*1<=2^20 by decide) m9 λhf h8 H8=>⟨⟨eE E H8.ac,I0⟩,?_⟩
  refine H8.append ag 0 m9 cO ⟨_,_,m9,m9⟩ m9 nq (λ_=>rfl) (H8.seq 4 m9 λ_=>rfl) jQ n2 λs' h9 H9=>⟨⟨eE E H9.ac,I0⟩,?_⟩
  have c7:=H9.nil 5 1 aq;refine c7.append ag 5 m9 cR ⟨_,_,m9,m9⟩ m9 nq (λ_=>rfl) (Seq.up dd c7.ac) cH n2 λa5 hu d3=>⟨I0,?_⟩
  refine d3.lit ag bv cO m9 [a5] m9 (show 1*1<=2^20 by decide) m9 λgk br g=>⟨I0,?_⟩
  refine g.append ag 1 m9 cO ⟨_,_,m9,m9⟩ m9 nq (λ_=>rfl) (g.seq 6 m9 λ_=>rfl) jQ n2 λG eq ed=>⟨I0,?_⟩
  have a6:=(((ed.freeze 3 m9 λ_=>rfl).freeze 5 m9 λ_=>rfl).pool 2 3 nq m9 m9).pool 2 5 nq m9 m9;refine⟨(s',G,k+1,rs++[a4],qs++[a5],(a5,B[k]'nb)::(a4,A[k]'nb)::pool),n3,⟨n1,EM a6,?_,?_⟩,n1⟩
  .try dsimp only
   rw[aA _ _ (show k<m8 M by omega)];exact(ip.mono λx O=>qp _ (qp _ O)).snoc (by rw[mt];simp)
  .try dsimp only
   rw[aA _ _ (show k<m8 M by omega)];exact(iq.mono λx O=>qp _ (qp _ O)).snoc (by rw[md];simp)
 have fz:k=m:=nb
 subst fz;rw[qh nb]at ip iq;have g4:=(H5.own 0 m9).len;have g9:=(H5.own 1 m9).len;have f5:=(H5.own 1 m9).cap;refine ak (λt:Nat×List Sl×List Sl×List (Sl×Row)=>(t.1:Int))
  (λu h'=>u.1<=n/\Sp y h' [ai 41 s 1 bv u.2.1,ai 41 t 1 bv u.2.2.1,fT u.2.2.2]/\bZ u.2.2.2 (yt n) u.2.1 (aY M u.1).2/\bZ u.2.2.2 (wS n) u.2.2.1 (aY M u.1).2)
  (λu=>n-u.1) (0,rs,qs,pool) m9 ⟨n4,H5,ip,iq⟩ ?_
 rintro⟨c,ad,ab,q⟩ br ⟨hc,g,H,D⟩;dsimp only at*;have P:=fV e6 c;obtain⟨d,L⟩:=HF ((aY M c).2)
 rw[<-L]at H D P;have cd:m8 d=k:=by rw[P.2];exact d9
 have g0:=H.1;have f7:=D.1;refine ae (λe=>?_) (λe=>?_)
 .have e5:c<n:=nb
  obtain⟨ix,ca,cr⟩:=JI bk e5;rw[<-L]at ca cr;have cn:=kQ ca;have bl:∀j (hj:j<k),(d[j]'nb).length=n+w:=λj hj=>P.1 _ (qe _);refine ak (λj:Nat=>(j:Int)) (λj h'=>h'=br/\c<=j/\j<=ix) (λj=>ix-j) c m9 ⟨m9,qj _,cn.1⟩ ?_;rintro j eq ⟨rfl,fi,gs⟩;have b1:j<k:=nb
  have b4:=g.seq 0 m9 λ_=>rfl;refine b4.dR j m9 nb λ_ _ _=>?_;have ah:=g.iu 2 m9 (H.get (show j<m8 d by omega));have e1:((d[j]'nb).take n)[c]'(by rw[qx,bl j b1];omega)=aM (az d j) c:=by rw[zH,be nb,mq (by rw[bl j b1];omega)]
  refine ah.aW c m9 (by rw[qx,bl j b1];omega) _ m9 ?_;rw[e1];refine aZ (λe0=>?_) (λe0=>?_)
  .have:j≠ix:=λT=>cn.2.2 (by rw[<-T];exact nA.1 e0);exact⟨j+1,n7,⟨m9,nb,nb⟩,nb⟩
  have b7:j=ix:=by
   by_cases T:j<ix
   .exact absurd (by rw[Dh ca fi T];rfl) e0
   .omega
  subst b7;refine aE ?_;have c0:=g.seq 1 m9 λ_=>rfl;refine b4.dR c m9 nb λ_ _ _=>?_;refine b4.dR j m9 nb λ_ _ _=>?_;refine c0.dR c m9 nb λ_ _ _=>?_;refine c0.dR j m9 nb λ_ _ _=>?_;refine g.set ag 0 m9 (λ_=>rfl) m9 j m9 nb (ad[c]'nb) m9 m9 m9 λg6 a6=>⟨I0,?_⟩
  refine a6.set ag 0 m9 (λ_=>rfl) m9 c m9 n2 (ad[j]'nb) m9 m9 m9 λgt ew=>⟨I0,?_⟩
  refine ew.set ag 1 m9 (λ_=>rfl) m9 j m9 nb (ab[c]'nb) m9 m9 m9 λhp ek=>⟨I0,?_⟩
  refine ek.set ag 1 m9 (λ_=>rfl) m9 c m9 n2 (ab[j]'nb) m9 m9 m9 λci er=>⟨I0,?_⟩
  obtain⟨m2,Q⟩:=HF (fQ d c j)
  have cc:m2=(d.set j (az d c)).set c (az d j):=by rw[Q,Cb];rfl
  obtain⟨bq,ao⟩:∃x,x=(ad.set j (ad[c]'nb)).set c (ad[j]'nb):=⟨_,rfl⟩
  obtain⟨b5,ap⟩:∃x,x=(ab.set j (ab[c]'nb)).set c (ab[j]'nb):=⟨_,rfl⟩
  have a9:bZ q (yt n) bq m2:=by rw[cc,ao,be nb,be nb];exact(H.set j (H.get nb)).set c (H.get nb)
  have b3:bZ q (wS n) b5 m2:=by rw[cc,ap,be nb,be nb];exact(D.set j (D.get nb)).set c (D.get nb)
  have F:Sp y ci [ai 41 s 1 bv bq,ai 41 t 1 bv b5,fT q]:=by rw[ao,ap];exact er
  have d4:m8 m2=k:=by rw[Q,jb];exact cd
  have am:aU (n+w) m2:=by rw[Q];exact ov P.1
  have g5:=a9.1;have he:=b3.1;have W:∀i (hi:i<k),(m2[i]'nb).length=n+w:=λi hi=>am _ (qe _);have cf:=F.seq 0 m9 λ_=>rfl;have ep:=F.seq 1 m9 λ_=>rfl;refine cf.dR c m9 nb λ_ _ _=>?_;have Y:=F.iu 2 m9 (a9.get (show c<m8 m2 by omega));have du:((m2[c]'nb).take n)[c]'(by rw[qx,W c nb];omega)=aM (az m2 c) c:=by rw[zH,be nb,mq (by rw[W c nb];omega)]
  refine Y.aW c m9 (by rw[qx,W c nb];omega) _ m9 ?_;rw[du];refine(Aw _ ci).mono ?_;rintro v ec ⟨rfl,rfl⟩;refine⟨_,m9,aE ?_⟩;refine cf.dR c m9 nb λ_ _ _=>?_;refine ep.dR c m9 nb λf8 cs _=>?_
  try dsimp only
  refine(mv _ _ _ ec Y (by rw[qx,W c nb];omega)).mono ?_;rintro v fb ⟨ra,rfl,cq⟩;refine⟨ra,m9,⟨eE cs cq.ac,I0⟩,?_⟩;have c9:=F.comp cq;refine(mv _ _ _ fb (c9.iu 2 m9 (b3.get (show c<m8 m2 by omega))) (by rw[qH,W c nb];omega)).mono ?_;rintro v ho ⟨rb,rfl,fq⟩;refine⟨rb,m9,I0,?_⟩;have es:=c9.comp fq;refine es.set ag 0 m9 (λ_=>rfl) m9 c m9 nb ra m9 m9 m9 λg1 d8=>⟨I0,?_⟩
  refine d8.set ag 1 m9 (λ_=>rfl) m9 c m9 nb rb m9 m9 m9 λea e9=>⟨I0,?_⟩
  have eg:=EM ((((e9.freeze 3 m9 λ_=>rfl).freeze 4 m9 λ_=>rfl).pool 2 3 nq m9 m9).pool 2 4 nq m9 m9);obtain⟨f,al⟩:=HF (ga c c m2)
  obtain⟨b6,ax⟩:∃x,x=bq.set c ra:=⟨_,rfl⟩
  obtain⟨b9,ay⟩:∃x,x=b5.set c rb:=⟨_,rfl⟩
  obtain⟨p,o⟩:∃x,x=(rb,scaleB (Gf.inv (aM (az m2 c) c)) ((m2[c]'nb).drop n))::(ra,scaleB (Gf.inv (aM (az m2 c) c)) ((m2[c]'nb).take n))::q:=⟨_,rfl⟩
  have dy:bZ p (yt n) b6 f:=by rw[al,ax,ga,o];refine(a9.mono λx O=>qp _ (qp _ O)).set c ?_;rw[Dd,<-be (show c<m8 m2 by omega)];simp
  have d5:bZ p (wS n) b9 f:=by rw[al,ay,ga,o];refine(b3.mono λx O=>qp _ (qp _ O)).set c ?_;rw[GY,<-be (show c<m8 m2 by omega)];simp
  have cy:Sp y ea [ai 41 s 1 bv b6,ai 41 t 1 bv b9,fT p]:=by rw[ax,ay,o];exact eg
  have gl:m8 f=k:=by rw[al,kR];exact d4
  have a0:aU (n+w) f:=by rw[al];exact mL am nb
  have U:(aY M (c+1)).2=bN c c f k:=by rw[cr,al,Q,cd]
  refine ak (λu:Nat×List Sl×List Sl×List (Sl×Row)=>(u.1:Int))
   (λu h'=>u.1<=k/\Sp y h' [ai 41 s 1 bv u.2.1,ai 41 t 1 bv u.2.2.1,fT u.2.2.2]/\bZ u.2.2.2 (yt n) u.2.1 (bN c c f u.1)/\bZ u.2.2.2 (wS n) u.2.2.1 (bN c c f u.1))
   (λu=>k-u.1) (0,b6,b9,p) m9 ⟨n4,cy,by rw[ow];exact dy,by rw[ow];exact d5⟩ ?_
  rintro⟨i,a7,b0,X⟩ c4 ⟨hi,z,I,N⟩;dsimp only at*;have hv:=kS c c f i;have gi:=I.1;have hq:=N.1;refine ae (λe2=>?_) (λe2=>?_)
  .have ej:i<k:=nb
   have dk:(bN c c f i)[i]'nb=az f i:=by rw[<-be nb,jm,k4 nb]
   have ei:(bN c c f i)[c]'nb=az f c:=by rw[<-be nb,jm,k4 nb]
   have li:(az f i).length=n+w:=bY a0;have lc:(az f c).length=n+w:=bY a0;have a3:=z.seq 0 m9 λ_=>rfl;have cp:=z.seq 1 m9 λ_=>rfl;have xi:=z.iu 2 m9 (I.get (show i<(bN c c f i).length by omega));have xc:=z.iu 2 m9 (I.get (show c<(bN c c f i).length by omega));have yi:=z.iu 2 m9 (N.get (show i<(bN c c f i).length by omega));have yc:=z.iu 2 m9 (N.get (show c<(bN c c f i).length by omega));rw[dk]at xi yi;rw[ei]at xc yc;refine a3.dR i m9 nb λ_ _ _=>?_;have b2:((az f i).take n)[c]'(by rw[qx,li];omega)=aM (az f i) c:=by rw[zH,mq]
   refine xi.aW c m9 B8 _ m9 ?_;rw[b2];rw[af ((i:Int)+1)];have skip:bN c c f (i+1)=bN c c f i->∃G:Nat×List Sl×List Sl×List (Sl×Row),(i:Int)+1=(G.1:Int)/\(G.1<=k/\Sp y c4 [ai 41 s 1 bv G.2.1,ai 41 t 1 bv G.2.2.1,fT G.2.2.2]/\bZ G.2.2.2 (yt n) G.2.1 (bN c c f G.1)/\bZ G.2.2.2 (wS n) G.2.2.1 (bN c c f G.1))/\k-G.1<k-i:=λc6=>
    ⟨(i+1,a7,b0,X),m9,⟨n1,z,by dsimp only;rw[c6];exact I,by dsimp only;rw[c6];exact N⟩,n1⟩
   refine aE ?_;refine bm (λe3=>?_) (λe3=>sn m9 (skip ?_))
   .have S:i≠c:=λT=>e3 (by rw[T]);refine bm (λe4=>?_) (λe4=>skip ?_)
    .refine a3.dR c m9 nb λ_ _ _=>?_;refine a3.dR i m9 nb λ_ _ _=>?_;refine cp.dR c m9 nb λf6 c5 _=>?_;refine cp.dR i m9 nb λgd c2 _=>?_;refine(jX _ _ _ _ _ c4 xc xi D5 B8).mono ?_;rintro v fr ⟨ra,rfl,R⟩;refine⟨ra,m9,⟨eE c2 R.ac,eE c5 R.ac,I0⟩,?_⟩;have dx:=z.comp R;refine(jX _ _ _ _ _ fr (Seq.up yc R.ac) (Seq.up yi R.ac) D5 (by rw[qH,li];omega)).Hf λrb hw fa=>⟨rb,m9,I0,?_⟩;have eh:=dx.comp fa;refine eh.set ag 0 m9 (λ_=>rfl) m9 i m9 nb ra m9 m9 m9 λhg fn=>⟨I0,?_⟩
     refine fn.set ag 1 m9 (λ_=>rfl) m9 i m9 nb rb m9 m9 m9 λht el=>⟨I0,?_⟩
     have d2:=EM ((((el.freeze 3 m9 λ_=>rfl).freeze 4 m9 λ_=>rfl).pool 2 3 nq m9 m9).pool 2 4 nq m9 m9);refine⟨(i+1,a7.set i ra,b0.set i rb,_),m9,⟨n1,d2,?_,?_⟩,n1⟩
     .try dsimp only
      rw[kB nb S];refine(I.mono λx O=>qp _ (qp _ O)).set i ?_;rw[IJ];simp
     .try dsimp only
      rw[kB nb S];refine(N.mono λx O=>qp _ (qp _ O)).set i ?_;rw[Mo];simp
    .have hz:aM (az f i) c=0:=nA.1 e4;rw[kB nb S,hz,Cc];apply zn;intro x;rw[qV];split
     .rename_i f0;subst f0;rw[hZ nb,qc nb,dk]
     .rfl
   .have S:i=c:=nb
    subst S;exact uR
  .have en:i=k:=nb
   subst en;refine⟨(c+1,a7,b0,X),n3,⟨n1,z,?_,?_⟩,n1⟩
   ·(try dsimp only);rw[U];exact I
   ·(try dsimp only);rw[U];exact N
 have fs:c=n:=nb
 subst fs;have da:=FP (a:=A) (b:=B) nb hA hB hr;rw[<-hM,<-L]at da;have Z:jk c A B↔∀i (hi:i<m8 d),c<=i->(d[i].drop c)=aN (d[i].drop c).length:=by
  unfold jk;rw[<-hM,<-L];constructor
  .intro hc i hi hn;have hz:d[i]=aN d[i].length:=hc _ (List.mem_iff_getElem?.2 ⟨i-c,by rw[List.getElem?_drop,show c+(i-c)=i by omega,qc hi]⟩)
   conv=>lhs;rw[hz]
   simp[aN]
  .intro hc x O;obtain⟨i,hi,rfl⟩:=qD O;simp only[qH]at hi;rw[List.getElem_drop];have hd:=hc (c+i) nb nb;have bb:(d[c+i]'nb).length=c+w:=P.1 _ (qe _);refine gB (n:=c+w) bb (by simp[aN,bb]) λj hj=>?_;rw[cL];by_cases fu:j<c
   .have:=da.2.2 j fu (c+i) nb;rw[Zh (show c+i<m8 d by omega),k4 nb]at this;exact this
   .have this:aM ((d[c+i]'nb).drop c) (j-c)=aM (aN ((d[c+i]'nb).drop c).length) (j-c):=congrArg (λr=>aM r (j-c)) hd;rw[FO,cL,show c+(j-c)=j by omega]at this;exact this
 refine ak (λi:Nat=>(i:Int)) (λi h'=>h'=br/\c<=i/\i<=k/\∀j (hj:j<m8 d),c<=j->j<i->d[j].drop c=aN (d[j].drop c).length) (λi=>k-i) c m9 ⟨m9,qj _,nb,λj _ _ _=>nb⟩ ?_;rintro i d0 ⟨rfl,b2,ej,V⟩;refine ae (λe=>?_) (λe=>?_)
 .have hm:i<k:=by have e':(i:Int)<(t.len:Int):=e;omega
  refine(g.seq 1 m9 λ_=>rfl).dR i m9 nb λ_ _ _=>?_;have ah:=g.iu 2 m9 (D.get (show i<m8 d by omega));have bb:(d[i]'nb).length=c+w:=P.1 _ (qe _);refine(Oe _ _ d0 ah n2).G6 ⟨_,m9,ae (λe2=>?_) λe2=>?_⟩
  .right;right;have cb:ic ((d[i]'nb).drop c)<((d[i]'nb).drop c).length:=by
    by_cases T:ic ((d[i]'nb).drop c)<((d[i]'nb).drop c).length
    .exact T
    .rw[k4 T]at e2;exact absurd e2 nq
   refine⟨hr,λds=>absurd cb (xU.2 (Z.1 ds i nb b2)),m9,.zip g.ac⟩
  .have cb:¬ic ((d[i]'nb).drop c)<((d[i]'nb).drop c).length:=λT=>by
    rw[hZ T]at e2;exact e2 (ze _)
   refine⟨i+1,n7,⟨m9,nb,nb,λj hj J y=>?_⟩,nb⟩;by_cases b7:j=i
   .subst b7;exact xU.1 cb
   .exact V j hj J nb
 have bd:jk c A B:=Z.2 λj hj J=>V j hj J (by
  have e':¬(i:Int)<(t.len:Int):=e;omega)
 refine⟨⟨ze _,wC.2 (show c<=t.cap by omega)⟩,?_⟩;have a1:eU c A B=(d.take c).map (wS c):=by rw[eU,<-hM,<-L]
 have HC:=g.cut 1 m9 (λ_=>rfl) c nb;have HR:=HC.rc 1 2 nq (ll:=eU c A B) m9 m9 (by rw[a1];simp;omega) (λi r l J y=>by
  rw[a1,qM]at y;rw[List.getElem?_take]at J y;split at J
  .rename_i e7;rw[hZ e7]at y;cases hmi:d[i]? with
   |none=>rw[hmi]at y;cases y
   |some x=>rw[hmi]at y;cases y;exact D.2 i r x J hmi
  .cases J)
 rw[qi];refine .inr (.inl ⟨hr,bd,⟨t.ptr,c,t.cap⟩,m9,?_⟩);exact HR.bs [1]
theorem Jo(p:Pm)(seed:Int)(l:Sl)(a:List (Int×Row))(h:hY)(hl:fm BW h l a)(bd:m8 a<=2^18)(ay:∀x∈a,m8 x.2<=2^20):
  aj xT 126 #[gx p,xJ xR seed,l] h λv h'=>∃r:Sl,v=.tuple #[r,xJ xP (jg p seed a).2]/\Sp h h' [ai 5 r 1 aq (jg p seed a).1]:=by
 refine ts Tryz.func126 ?_ (F8 (F8 (F8 (F8 (E5 (F8 (E7 (E8 [(9,bJ),(10,aI)] [(9,11),(20,32)] E6))) (E5 (F8 (E7 (E8 [(8,bJ),(9,bJ),(34,aI)] [(6,10),(12,13),(34,62)] (F8 (F8 (E5 (E7 (F8 (G0 [] [(6,8),(38,50)] E6))) E6)))))) (F8 (F8 (F8 (F9 [(15,bJ),(16,aI)] [(15,17),(74,89)])))))))))) [(14,(.l [0,1,2,5,6,7,3,4,8,9,10,11,12]))] (args:=[p,(xJ xR (seed:Int)),l]);refine(Sp.refl h).boxed λR h1 H1=>?_;have A:∀{h':hY} {As:List HP} (e:Int),Sp h h' As->jg p seed a=([],e)->∃r:Sl,(.tuple #[xK eH 0 0,xJ xP e]:Value)=.tuple #[r,xJ xP (jg p seed a).2]/\Sp h h' [ai 5 r 1 aq (jg p seed a).1]:=λ{h' As} e H' he=>by
  rw[he];exact⟨⟨eH,0,0⟩,m9,(Sp.zip H'.ac).nil 5 1 aq⟩
 refine⟨p,(H1.box 0 m9).aw _ m9,(dV p h1).G7 λh2 R2=>?_⟩;have H2:=H1.up R2.ac;refine⟨_,m9,aH (λe=>?_) λd=>?_⟩
 .exact A 1 H2 (by unfold jg;rw[e];rfl)
 have a3:=(bI p).1 d;have bb:=pP d;obtain⟨w,V⟩:=HF p.2.2.toNat
 let pc:aR:=[xJ xP p.1,xJ xP p.2.1,xJ xP p.2.2]
 have al:Sp h h2 [MA ⟨eH,0,0⟩ [],an R 24 [xJ xP p.1,xJ xP p.2.1,xJ xP p.2.2]]:=(H2.sK 41 1 aq).ba;refine ak (λt:Nat×Sl=>(t.2,(t.1:Int))) (λt h'=>t.1<=p.2.1.toNat/\Sp h h' [MA t.2 (qf t.1 (aN w)),an R 24 [xJ xP p.1,xJ xP p.2.1,xJ xP p.2.2]]) (λt=>p.2.1.toNat-t.1) (0,⟨eH,0,0⟩) m9 ⟨nb,al⟩ ?_;rintro⟨i,b⟩ h3 ⟨hi,H3⟩;dsimp only at*;refine⟨p.2.1,(H3.box 1 m9).cell m9,ae (λe=>?_) λe=>?_⟩
 .refine⟨p.2.2,(H3.box 1 m9).cell m9,?_⟩;refine H3.make ag aq cR nq 0 m9 m9 w w nb nb (qj _) nb λz h4 _ _ F=>?_;refine(F.freeze 2 m9 λ_=>rfl).jM ag 0 2 nq m9 m9 cO n2 λb' h5 D=>?_;refine⟨(i+1,b'),n3,⟨n1,?_⟩,n1⟩
  try dsimp only
  rw[yO];exact D.bs [0,1]
 have s:i=p.2.1.toNat:=nb
 subst s;obtain⟨J,q1,q2,q3⟩:=ce.kZ hl;have a5:=ce.len hl;have ax:Sp h h3 [MA b (qf p.2.1.toNat (aN w)++(a.take 0).map zg),ai 3 ⟨eH,0,0⟩ 1 av ((a.take 0).map qC),an R 24 [xJ xP p.1,xJ xP p.2.1,xJ xP p.2.2]]:=by have:=(H3.nil 3 1 av).bs [0,2,1];simpa using this
 refine ak (λt:Nat×Sl×Sl=>(t.2.1,t.2.2,(t.1:Int))) (λt h'=>t.1<=m8 a/\(a.take t.1).all (jD p)=eL/\Sp h h' [MA t.2.2 (qf p.2.1.toNat (aN w)++(a.take t.1).map zg),ai 3 t.2.1 1 av ((a.take t.1).map qC),an R 24 [xJ xP p.1,xJ xP p.2.1,xJ xP p.2.2]]) (λt=>m8 a-t.1) (0,⟨eH,0,0⟩,b) m9 ⟨nb,n4,ax⟩ ?_;rintro⟨i,o,b2⟩ h4 ⟨a9,f,F⟩;dsimp only at*;refine ae (λe2=>?_) (λe2=>?_)
 .have q:i<m8 a:=nb
  obtain⟨y1,y2⟩:=q3 i nb q;have ad:=y2.len;have a2:=ay _ (qe q);refine(Seq.up q1 F.ac).cQ (g:=yv) i m9 nb (J[i]'nb) m9 ?_;refine F.alloc ag m9 λbl h5 D=>?_;refine D.storeAll ag 3 m9 m9 (yv (J[i]'nb)) m9 m9 m9 m9 λh6 K=>?_;have B:=K.box 3 m9;have N:jD p a[i]=eR->jg p seed a=([],1):=λhf=>by
   have:a.all (jD p)=eR:=List.all_eq_false.2 ⟨_,qe q,by simp[hf]⟩;unfold jg;rw[d,this];rfl
  refine aE ⟨(J[i]'nb).1,B.cell0 m9,(kr _ h6).G6 ?_⟩;refine⟨_,m9,aH (λe3=>?_) λe3=>?_⟩
  .exact A 1 K (N (by unfold jD;rw[<-y1,e3];rfl))
  refine⟨(J[i]'nb).2,B.cell m9,p.2.2,(K.box 2 m9).cell m9,bm (λe4=>?_) λe4=>?_⟩
  .refine A 1 K (N ?_);unfold jD;rw[m5 (by rw[ad]at e4;exact e4)];simp
  have am:jD p a[i]=eL:=by unfold jD;rw[<-y1,e3,ln (by rw[ad]at e4;exact e4)];rfl
  refine⟨(J[i]'nb).1,B.cell0 m9,(J[i]'nb).2,B.cell m9,?_⟩;refine K.ko ag av ge m9 [(J[i]'nb).1] m9 (show 1*1<=2^20 by decide) m9 ⟨B.cell m9,I0⟩ ?_;refine K.push ag 1 m9 ge m9 nq (λ_=>rfl) dt (J[i]'nb).1 m9 nq n2 λo' h8 M=>⟨⟨(M.box 3 m9).cell m9,I0⟩,?_⟩
  have Q:=M.nil 5 1 aq;refine Q.append ag 4 m9 cR uy m9 nq (λ_=>rfl) (Seq.up y2 Q.ac) cH n2 λz ap G=>⟨I0,?_⟩
  have E:=G.freeze 4 m9 λ_=>rfl;refine E.ko (L:=[]) ag bv cO m9 [z] m9 (show 1*1<=2^20 by decide) m9 I0 ?_;refine E.jM ag 0 4 nq m9 m9 cO n2 λb' a6 ab=>⟨I0,?_⟩
  refine⟨(i+1,o',b'),n3,⟨n1,?_,?_⟩,n1⟩
  ·(try dsimp only);rw[aA _ _ q,List.all_append,f];simp[am]
  .try dsimp only
   rw[aA _ _ q,qE,qE,<-ql];rw[y1,List.nil_append]at ab;exact ab.bs [0,1,2]
 have s:i=m8 a:=nb
 subst s;rw[qt]at F f;have Y:∀x∈a,EC p x:=λx H=>(WA d).1 (qQ.1 f x H);have U:qf p.2.1.toNat (aN w)++a.map zg=mQ p a:=by unfold mQ;rw[V]
 rw[U]at F;refine⟨p,(F.box 2 m9).aw _ m9,(AV p seed o _ h4 (F.seq 1 m9 λ_=>rfl) n2).Hf λm h5 R5=>?_⟩;have D:=F.comp R5;refine⟨m,m9,?_⟩;have Z:aU w (mQ p a):=λx H=>by
  rcases qw.1 H with H|H
  .rw[(List.mem_replicate.1 H).2,V];simp[aN]
  .obtain⟨y,hy,rfl⟩:=qI.1 H;rw[V];exact(Y y hy).len
 have W:(eM p seed (a.map qC)).length=(mQ p a).length:=by rw[<-Sx (n:=(bD p).toNat) (seed:=seed) d m9 Y,<-Sy (n:=(bD p).toNat) (seed:=seed) (p:=p) (l:=a) rfl];exact tu
 have a7:(mQ p a).length=p.2.1.toNat+m8 a:=by unfold mQ;simp
 refine(Jn m b2 _ (mQ p a) (mQ p a).length (bD p).toNat w h5 (D.oL 3 m9) (D.oL 0 m9) W m9 nb nb (oy p seed _) Z nb nb).mono ?_;have k:fI p seed (a.map qC)=decide (cz (eM p seed (a.map qC))=(bD p).toNat):=by unfold fI Bv;rw[d,Bool.true_and,Bool.eq_iff_iff];simp;omega
 rintro _ h6 (⟨hr,rfl,R6⟩|⟨hr,hc,x,rfl,R6⟩|⟨hr,hc,rfl,R6⟩)
 .refine⟨(⟨eH,0,0⟩,9),m9,bm (λ_=>A 9 (D.up R6.ac) ?_) λe=>absurd e nq⟩;unfold jg;rw[d,f,k,m5 hr];rfl
 rotate_left
 .refine⟨(⟨eH,0,0⟩,10),m9,bm (λ_=>A 10 (D.up R6.ac) ?_) λe=>absurd e nq⟩;unfold jg;rw[d,f,k,ln hr,k4 hc];rfl
 refine⟨(x,0),m9,bm (λe=>absurd m9 e) λ_=>?_⟩;obtain⟨X,hX⟩:=HF (eU (bD p).toNat (eM p seed (a.map qC)) (mQ p a))
 have ah:jg p seed a=(nB p seed X p.1.toNat,0):=by unfold jg;rw[d,f,k,ln hr,hZ hc,hX];rfl
 obtain⟨S,O⟩:=pQ W (oy p seed _) Z hr;rw[<-hX]at R6 S O;have K:Sp h h6 [MA x X,an R 24 [xJ xP p.1,xJ xP p.2.1,xJ xP p.2.2]]:=(D.comp R6).bs [4,2];rw[ah];have I:∀j:Nat,(jT w X (eG (bD p).toNat seed (j:Int))).length=w:=λj=>Qx O S λx H=>kw nb nb H;have P:∀i,(nB p seed X i).length=i*w:=λi=>by
  induction i with
  |zero=>simp[nB]
  |succ i ih=>rw[xV,qo,ih,<-V,I,Nat.succ_mul]
 have H7:Sp h h6 [ai 5 ⟨eH,0,0⟩ 1 aq (nB p seed X 0),MA x X,an R 24 [xJ xP p.1,xJ xP p.2.1,xJ xP p.2.2]]:=by simpa[nB]using(K.nil 5 1 aq).ba
 refine ak (λt:Nat×Sl=>(t.2,(t.1:Int))) (λt h'=>t.1<=p.1.toNat/\Sp h h' [ai 5 t.2 1 aq (nB p seed X t.1),MA x X,an R 24 [xJ xP p.1,xJ xP p.2.1,xJ xP p.2.2]]) (λt=>p.1.toNat-t.1) (0,⟨eH,0,0⟩) m9 ⟨nb,H7⟩ ?_;rintro⟨i,u⟩ h8 ⟨a4,M⟩;dsimp only at*;refine⟨p.1,(M.box 2 m9).cell0 m9,ae (λe=>?_) λe=>?_⟩
 .have q:i<p.1.toNat:=nb
  refine⟨p,(M.box 2 m9).aw _ m9,p,(M.box 2 m9).aw _ m9,(BZ p seed (i:Int) h8).Hf λc h9 R9=>?_⟩;have a0:(bH p&&bR (i:Int))=eL:=by rw[d];unfold bR;simp;omega
  rw[a0,hZ rfl]at R9;have Q:=M.comp R9;have T:=Q.box 2 m9;refine⟨c,m9,⟨T.cell0 m9,T.cell m9,T.cell m9,I0⟩,?_⟩;have a8:=mK (n:=(bD p).toNat) nb nb seed (i:Int);refine(Fs p x c X _ (bD p).toNat w h9 (Q.oL 1 m9) (Q.seq 3 m9 λ_=>rfl) nb O S λy hy=>kw nb nb hy).Hf λz ap ao=>?_;have G:=Q.comp ao;refine⟨z,m9,I0,?_⟩;refine G.append ag 0 m9 cR uy m9 nq (λ_=>rfl) (G.seq 4 m9 λ_=>rfl) cH (by rw[P,I];have:i*w<=16*24:=zq nb nb;omega) λu' bk E=>⟨I0,?_⟩
  refine⟨(i+1,u'),n3,⟨n1,?_⟩,n1⟩
  try dsimp only
  rw[xV,<-V];exact E.bs [0,1,2]
 .have s:i=p.1.toNat:=nb
  subst s;exact⟨u,m9,M.bs [0]⟩
variable {B:ar} {h0 h:hY} {As:List HP} {a:fY} {offs:Int} {da:List bx} {w:Pow} {ds:aG}
section
variable {pw:fY}
theorem Uc{m:aB}{e:aG}{c:aC}{o b:Int}:∀y∈dW m e c o b,m8 y.2<=2^20:=λy a=>by
 obtain⟨k,_,a⟩:=wM.1 a;unfold mY at a;cases hd:bX e k with
 |none=>rw[hd]at a;cases a
 |some d=>
  rw[hd]at a;obtain⟨r,h,rfl⟩:=qI.1 a;obtain⟨_,_,_,f⟩:=BQ (qJ.1 h).1;obtain⟨_,_,_,g,i⟩:=(jS r).1 (HO f);have h3:=(bI r.p).1 g
  try dsimp only
  omega
theorem WQ(x:bc)(m:aB)(c:ByteArray)(S:bF m=eL)(H:aa B h0 h (aJ bE a pw (aD x) offs da w ds::bo x m::As)):
  aj xT 49 #[xL (dB a),xM c] h λv h'=>∃r:Sl,v=.tuple #[r,xJ xP (iH m offs w ds c).2]/\Sp h h' [EA (iR 1 aq) r (iH m offs w ds c).1]:=by
 refine ts Tryz.func49 ?_ (F8 (F8 (F8 (F8 (F8 (F8 (F8 (E5 (F8 (E7 (E8 [(8,bJ),(37,aI)] [(4,6),(8,12),(37,70)] (F8 (F8 (E5 (E7 (F8 (G0 [(10,bJ),(11,aI)] [(10,12),(40,63)] E6))) E6)))))) E6)))))))) [(13,(.l [0,1,2,3,4,5,6,7,8,9,10,11,12,14,15,16,17,13,18,19,20,21,22,23,24]))];have hz:=iA S;have U:=iD S;have N:∀y∈m.drives,0<=y/\y<64:=gZ S;have a2:(bh ds m.drives).length<=64:=qX (qK _ _) U;have f:∀{h':hY} (e:Int),Sp h h' []->iH m offs w ds c=([],e)->∃r:Sl,(.tuple #[xK eH 0 0,xJ xP e]:Value)=.tuple #[r,xJ xP (iH m offs w ds c).2]/\Sp h h' [EA (iR 1 aq) r (iH m offs w ds c).1]:=λe R he=>by
  rw[he];exact⟨⟨eH,0,0⟩,m9,(R.nil 5 1 aq).Eo 0 m9 λ_=>rfl⟩
 refine(iw H).mono ?_;rintro _ h1 ⟨rfl,rfl⟩;refine⟨_,m9,aS (λe=>f 14 (Sp.refl _) (by unfold iH;rw[hZ e])) λe1=>?_⟩;refine(te x m c (H.at 1 m9) hz H).G7 λh2 R2=>?_;have H2:=H.up R2.ac;have hi:=WK (dH c) m.objs;generalize (if m.objs.any (dH c)=eL then((m.objs.findIdx (dH c):Nat):Int)else-1)=i at hi;refine⟨i,m9,?_⟩;rcases EL hi with⟨hneg,hf⟩|⟨n,hn,rfl,hf⟩
 .exact ae (λ_=>f 5 R2 (by unfold iH;rw[k4 o4,hf])) λe=>absurd hneg e
 refine ae (λe=>absurd e (Int.not_lt.2 (ze n))) λ_=>?_;obtain⟨E,hE⟩:=HF (m.objs[n])
 have ax:E∈m.objs:=B4
 have ep:iH m offs w ds c=rf m ds E:=by unfold iH;rw[k4 o4,hf,hE]
 rw[ep]at f⊢;refine(mH x m (H2.at 1 m9) hz N H2).Hf λlv h3 R3=>?_;have H3:=H2.up R3.ac;refine⟨lv,rfl,(NZ x m lv (bh ds m.drives) (H3.at 1 rfl) hz (R3.seq 0 rfl λ_=>rfl) nb (λk P=>N k (qJ.1 P).1) (λk P=>by obtain⟨_,d,hd,_⟩:=pZ P;exact⟨d,hd⟩) H3).G7 λh4 R4=>?_⟩;have H4:=H3.up R4.ac;have A:=(R2.up R3.ac).up R4.ac;refine⟨_,m9,aH (λe=>f 11 A (by unfold rf;exact hZ e)) λe3=>?_⟩;have e3:BX m ds=eL:=e3;have X:=(iT m E).1 (((cM m).1 S).2.2.2.2.1 E ax);have a6:E.tries.length<=8:=by have:=ma X.2.2.1.2;omega
 have ap:=((iC m).1 ((cM m).1 S).1).2.2.1;have ad:=(aa.cU H4).2;have a0:cv h1 x m:=H.at 1 m9;obtain⟨ys,F⟩:=ce.fix a0.objs;have a7:=F.2.1;have q:=Fix.row F hn;obtain⟨xe,Y⟩:=HF (ys[n]'nb)
 rw[<-hE,<-Y]at q;refine⟨a,m9,x.2.2.2.2.2.2.2,ad.cell m9,(Seq.up F.1 A.ac).cQ (g:=bf) n m9 nb xe (by rw[Y]) ?_⟩;refine(Sp.refl h4).alloc ag m9 λa9 h5 Q5=>?_;refine Q5.storeAll ag 0 m9 m9 (bf xe) m9 m9 m9 m9 λh6 Q6=>?_;have R6:=A.comp Q6;have T:Rd h1 xe.2.2.2 1 av E.tries:=q.2;have a1:=T.len;have eo:xe.2.1=E.object:=q.1.2.1;have el:xe.2.2.1=E.length:=q.1.2.2;have R6:=R6.kf 41 5 1 aq;refine⟨xe.2.2.2,(Q6.box 0 m9).cell m9,?_⟩;refine ak (λt:Sl×Nat=>(t.1,(t.2:Int))) (λt h'=>t.2<=E.tries.length/\(∀j,j<t.2->(kM m ds E.object E.tries j).2=0)/\Sp h1 h' [cj t.1 ((qy t.2).map λj=>(kM m ds E.object E.tries j).1),an a9 83 (bf xe)]) (λt=>E.tries.length-t.2) (⟨eH,0,0⟩,0) m9 ⟨n4,λj I=>absurd I (xv _),R6⟩ ?_;rintro⟨o,k⟩ h7 ⟨P,L,u⟩;dsimp only at P L u⊢;have W:=H.up u.ac;have O:=(aa.cU W).2;have Q:cv h7 x m:=W.at 1 m9;have cp:∀{h':hY},bQ h' a 40 (cP (aD x) pw offs da)->bp h' (a.add 2) 0 [xJ xP m.p.1,xJ xP m.p.2.1,xJ xP m.p.2.2]:=λ{h'} hb=>by
  rw[<-Q.p];exact⟨oo,oo,oo,I0⟩
 refine ae (λe=>?_) λe=>?_
 .have M:k<E.tries.length:=by have e':(k:Int)<(xe.2.2.2.len:Int):=e;omega
  have s:=u.box 1 m9;refine aE ⟨a,m9,m.p,cp O,xe.2.1,s.cell m9,xe.2.2.2,s.cell m9,?_⟩;refine(Seq.up T u.ac).aW k m9 M E.tries[k] m9 ?_;refine⟨xe.2.1,s.cell m9,(rH xe.2.1 k E.tries[k] h7).G6 ?_⟩;obtain⟨c1,c2,c3,_⟩:=cp O;refine⟨_,m9,⟨s.cell m9,s.cell m9,c1,c2,c3,I0⟩,?_⟩;rw[eo];refine(Cy x m E.object k Q hz U N W).mono ?_;rintro _ h9 ⟨r,ss,rfl,R9⟩;have K:=u.up R9.ac;have H9:=W.up R9.ac;obtain⟨d1,d2,d3,_⟩:=cp (aa.cU H9).2;have G:Fix ey 2 piv h9 (λb=>b<h9.size) r ss (dW m ds (bh ds m.drives) E.object k):=R9.at 0 m9;have al:fm BW h9 r (dW m ds (bh ds m.drives) E.object k):=⟨ss,G.1,G.2.1,G.2.2⟩
  have a5:=Cd m E.object k (WL W) (bh ds m.drives);refine⟨r,m9,⟨(K.box 1 m9).cell m9,d1,d2,d3,I0⟩,(Jo m.p (fx E.object k E.tries[k]) r _ h9 al nb Uc).Hf λam a3 J=>?_⟩;have eb:jg m.p (fx E.object k E.tries[k]) (dW m ds (bh ds m.drives) E.object k)=kM m ds E.object E.tries k:=by unfold kM;rw[rQ 0 M]
  rw[eb]at J⊢;have z:=K.up J.ac;refine⟨(am,(kM m ds E.object E.tries k).2),m9,⟨(z.box 1 m9).cell m9,I0⟩,bm (λe4=>f 11 (.zip z.ac) ?_) λe4=>?_⟩
  .unfold rf;rw[k4 C4,k4];intro Z;exact e4 (m6 (qQ.1 Z k (qY.2 M)))
  .have ao:=(K.comp J).aF 3 [0,2,1];refine aa.nQ ag ao cO n2 λo' a8 ah=>?_;refine⟨(o',k+1),n3,⟨n1,λj I=>?_,?_⟩,n1⟩
   .rcases q8.1 I with I|rfl
    .exact L j I
    .simpa using e4
   .try dsimp only
    rw[zC,qE];exact ah
 .have ay:k=E.tries.length:=by have e':¬(k:Int)<(xe.2.2.2.len:Int):=e;omega
  subst ay;refine⟨a,m9,m.p,cp O,xe.2.2.1,(u.box 1 m9).cell m9,?_⟩;rw[el];have D:E.length<=2^20:=by obtain⟨⟨k1,k2⟩,_,z1,z2⟩:=(bI m.p).1 ap;have:m.p.1*m.p.2.2<=16*24:=wg k2 z2 nb nb;have:=X.2.2.1.2;omega
  refine(TY m.p o _ E.length h7 (u.Ch λ_=>rfl) D n2).mono ?_;rintro _ a4 ⟨V,b,rfl,ab⟩;have eg:rf m ds E=(iM m.p ((qy E.tries.length).map λk=>(kM m ds E.object E.tries k).1) E.length,0):=by unfold rf;rw[k4 C4,hZ (qQ.2 λj I=>ln (L j (qY.1 I)))]
  rw[eg];exact⟨(V,b),m9,I0,V,m9,((u.comp ab).bs [2])⟩
end
def gN(a pw:fY)(c:List bx)(b:Int)(w:Pow)(d:aG)(m:aB):HP:=HP.ex λx:bc=>(aJ bE a pw (aD x) b c w d).sep (bo x m)
variable {m:aB} {d:bu}
section
variable {pw:fY}
theorem jl(H:aa B h0 h (gN a pw da offs w ds m::As)):∃x,aa B h0 h (aJ bE a pw (aD x) offs da w ds::bo x m::As):=by obtain⟨x,H⟩:=H.Bq;exact⟨x,H.CW.nF⟩
theorem na{x:bc}(H:aa B h0 h (aJ bE a pw (aD x) offs da w ds::bo x m::As)):aa B h0 h (gN a pw da offs w ds m::As):=
 aa.CV (F:=λx:bc=>(aJ bE a pw (aD x) offs da w ds).sep (bo x m)) x H.nF.kA
theorem PT(i at_ f:Int)(hm:0<=f/\f<2^32)(H:aa B h0 h (ir pw a d::As)):
  aj xT 58 #[xL (dB a),xJ xP i,xJ xP at_,xJ xR f] h λv h'=>v=xN (lL d i at_ f)/\aa B h0 h' (ir pw a (d.mF i at_ f)::As):=by
 refine ts Tryz.func58 ?_ (F8 (G0 [] [(8,9),(11,34)] (F8 (F9 [(10,aI)] [(10,11),(42,63)]))));obtain⟨ok,s,bl,P⟩:=aa.kb (id H);have ad:=(aa.lC (P.aF 2 [1,0])).1;have Q:=P.box 0 m9;have A:lL d i at_ f=eR->(Value.bool eR=xN (lL d i at_ f)/\aa B h0 h (ir pw a (d.mF i at_ f)::As)):=λe=>by
  unfold bu.mF;rw[e];exact⟨m9,H⟩
 have r:¬((0<=i/\i<(m8 d.l:Int))/\(0<=at_/\at_<=60)/\f≠0)->lL d i at_ f=eR:=λh=>m5 h;refine aE (ae (λe=>A (r nb)) λe1=>⟨a,m9,s,Q.cell m9,ae (λe=>A (r nb)) λe2=>ae (λe=>A (r nb)) λe3=>ae (λe=>A (r nb)) λe4=>aZ (λe=>A (r nb)) λe5=>?_⟩);have hi:0<=i/\i<(m8 d.l:Int):=nb
 have u:lL d i at_ f=eL:=ln ⟨hi,⟨nb,nb⟩,e5⟩;obtain⟨n,rfl⟩:∃n:Nat,i=n:=⟨i.toNat,nb⟩
 obtain⟨p,rfl⟩:∃p:Nat,at_=p:=⟨at_.toNat,nb⟩
 have O:n<m8 d.l:=nb
 have F:d.l[n].length=64:=ok.cell _ (qe O);obtain⟨c,R⟩:=HF (d.l[n])
 refine⟨a,m9,s,Q.cell m9,?_⟩;obtain⟨rs,H2⟩:=aa.Ho (P.aF 2 [1,0]) λ_=>rfl;have W:=H2.dv 0 m9;have ah:=W.2.1;have K:=Fix.row W O;refine W.1.ly n m9 nb ?_;refine(P.nil 5 1 aq).ba.append ag 0 m9 cR ⟨_,_,m9,m9⟩ m9 nq (λ_=>rfl) K.1 cH n2 λm h2 V=>?_;have V:aa B h0 h2 (ai 5 m 1 aq (dj c p f 0)::an a 174 (dF pw d s bl)::cj s d.l::cj bl d.laid::As):=by show aa B h0 h2 (ai 5 m 1 aq c::_);rw[R];exact V
 refine ak (λk:Nat=>(k:Int)) (λk h'=>k<=4/\aa B h0 h' (ai 5 m 1 aq (dj c p f k)::an a 174 (dF pw d s bl)::cj s d.l::cj bl d.laid::As)) (λk=>4-k) 0 m9 ⟨nb,V⟩ ?_;rintro k h3 ⟨hk,N⟩
 try dsimp only
 refine ae (λe=>?_) λe=>?_
 .have L:k<4:=nb
  have ab:(dj c p f k).length=64:=by rw[se,R];exact F
  obtain⟨z,hz⟩:=HF ((dj c p f k)[p+k]'nb)
  have S:qd xP ((p:Int)+(k:Int))=((p+k:Nat):Int):=o0
  rw[S];refine(N.seq 0 m9 λ_=>rfl).aW (p+k) m9 nb (z.toNat:Int) (by rw[hz];rfl) ?_;refine⟨o0,?_⟩;have J:min (qd xP ((8:Int)*(k:Int))).toNat (qq xR)=8*k:=by rw[af _];show min ((8:Int)*k).toNat 32=8*k;omega
  rw[J,cg (zp f (2^(8*k)))];have Y:=mi z (b8 (zp f (2^(8*k))));rw[Y];refine N.set ag 0 m9 (λ_=>rfl) m9 (p+k) m9 nb (z^^^BS f k) m9 m9 m9 λh5 T=>⟨I0,?_⟩
  refine⟨k+1,n7,⟨nb,?_⟩,nb⟩;have y:dj c p f (k+1)=(dj c p f k).set (p+k) (z^^^BS f k):=by show(dj c p f k).set (p+k) ((dj c p f k).getD (p+k) 0^^^BS f k)=_;rw[rQ 0,hz]
  rw[y];exact T
 .have L:k=4:=nb
  subst L;obtain⟨g,q,T⟩:=(N.aF 3 [2,0,1]).Bt;have M:(bt 5 1 aq g d.l).length=m8 d.l:=gD q;refine⟨a,m9,s,(N.box 1 m9).cell m9,?_⟩;refine T.set ag 0 m9 (λ_=>rfl) m9 n m9 nb m m9 m9 m9 λh5 U=>⟨by rw[u],?_⟩
  have E:d.mF (n:Int) (p:Int) f={d with l:=d.l.set n (dj c p f 4)}:=by unfold bu.mF;rw[u,hZ m9,qi,rQ [] O,<-R];rfl
  rw[E];have U:aa B h0 h5 (ai 41 s 1 bv (g.set n m)::(bt 5 1 aq g d.l++(ai 5 m 1 aq (dj c p f 4)::an a 174 (dF pw d s bl)::cj bl d.laid::As))):=U;have I:(ai 41 s 1 bv (g.set n m)::(bt 5 1 aq g d.l++(ai 5 m 1 aq (dj c p f 4)::an a 174 (dF pw d s bl)::cj bl d.laid::As)))[n+1]?=dB (ai 5 (g[n]'nb) 1 aq d.l[n]):=by rw[qO,List.getElem?_append_left nb,eN q n O]
  have G:(ai 41 s 1 bv (g.set n m)::(bt 5 1 aq g d.l++(ai 5 m 1 aq (dj c p f 4)::an a 174 (dF pw d s bl)::cj bl d.laid::As)))[m8 d.l+1]?=dB (ai 5 m 1 aq (dj c p f 4)):=by rw[qO,qk nb,M,zd];rfl
  have X:=U.merge (n+1) (m8 d.l+1) nb I G (D:=ai 5 m 1 aq (dj c p f 4)) λq1 q2 _ _ p2=>(ai 5 m 1 aq (dj c p f 4)).mono p2 λ_ Q=>.inr Q;have o:(g.set n m).length=(d.l.set n (dj c p f 4)).length:=by rw[qP,qP];exact q
  have w:bt 5 1 aq (g.set n m) (d.l.set n (dj c p f 4))=(bt 5 1 aq g d.l).set n (ai 5 m 1 aq (dj c p f 4)):=by
   apply zn;intro j;by_cases Z:j<m8 d.l
   .rw[eN o j (by rw[qP];exact Z)];by_cases t:n=j
    .subst t;rw[List.getElem?_set_self nb,wU,wU]
    .rw[List.getElem?_set_ne t,eN q j Z,vz t,vz t]
   .rw[zf (by rw[gD o,qP];omega),zf D1]
  rw[wZ,List.set_append_left _ _ nb,wZ,List.set_append_right _ _ D1]at X;rw[qP,M,zd,<-w]at X;have H8:=aa.CZ o X;refine aa.iO (s:=s) (b:=bl) ⟨by show d.wait<=_;rw[qP];exact ok.wait,by show(d.l.set n _).length<=_;rw[qP];exact ok.len,ok.room,λx Y=>?_,ok.laid,ok.cellL⟩ (H8.aF 4 [2,0,3]);rcases List.mem_or_eq_of_mem_set Y with h|rfl
  .exact ok.cell x h
  .rw[se,R];exact F
theorem Ud{c:Kit}{m:aR}{k:Int}{b:fY}(e:bX ds k=dB d)(i:cT da k=dB b)(H:aa B h0 h (aJ c a pw m offs da w ds::As)):
  ∃n:Nat,k=n/\da[n]?=dB (dB b)/\(∀l,iP ds k l=ds.set n (dB l))/\aa B h0 h (kh c.tD (c.f pw) b d::ee c.tP pw w::EH c a pw m offs da ds n::As):=by
 obtain⟨n,rfl,s⟩:=kJ e;have r:ds[n]?=dB (dB d):=by
  unfold bX at e;rw[hZ nb,qi]at e;cases hX:ds[n]? with
  |none=>rw[hX]at e;cases e
  |some o=>rw[hX]at e;exact congrArg dB e
 obtain⟨p,g,q⟩:=Qw.aa.fD H r;have j:p=b:=by unfold cT at i;rw[hZ nb,qi,g]at i;injection i
 subst j;exact⟨n,m9,g,λl=>by simp only[iP,qi],q⟩
theorem WR{k:Int}{b:fY}(i at_ c:Int)(e:0<=c/\c<2^32)(g:bX ds k=dB d)(j:cT da k=dB b)(H:aa B h0 h (gN a pw da offs w ds m::As)):
  aj xT 58 #[xL (dB b),xJ xP i,xJ xP at_,xJ xR c] h λv h'=>v=xN (lL d i at_ c)/\aa B h0 h' (gN a pw da offs w (iP ds k (d.mF i at_ c)) m::As):=by
 obtain⟨x,H⟩:=jl H;obtain⟨n,rfl,l,p,o⟩:=Ud g j H;refine(PT i at_ c e o).mono ?_;rintro _ h' ⟨rfl,f⟩;rw[p];exact⟨m9,na (Qw.aa.kW (k:=bE) (n:=n) l f)⟩
theorem WS{k:Int}{b:fY}(e:bX ds k=dB d)(f:cT da k=dB b)(H:aa B h0 h (gN a pw da offs w ds m::As)):
  aj xT 56 #[xL (dB b)] h λv h'=>v=.tuple #[]/\aa B h0 h' (gN a pw da offs w (iP ds k d.IA) m::As):=by
 obtain⟨x,H⟩:=jl H;obtain⟨n,rfl,g,j,i⟩:=Ud e f H;refine(TS i).mono ?_;rintro _ h' ⟨rfl,c⟩;rw[j];exact⟨m9,na (Qw.aa.kW (k:=bE) (n:=n) g c)⟩
theorem WT{k:Int}{b:fY}(e:bX ds k=dB d)(f:cT da k=dB b)(H:aa B h0 h (fv a pw da offs w ds m::As)):
  aj xT 55 #[xL (dB b)] h λv h'=>v=.tuple #[]/\aa B h0 h' (fv a pw da offs w (iP ds k d.IA) m::As):=by
 obtain⟨x,H⟩:=fP H;obtain⟨n,rfl,g,j,i⟩:=Ud e f H;refine(Tj i).mono ?_;rintro _ h' ⟨rfl,c⟩;rw[j];exact⟨m9,mb (Qw.aa.kW (k:=bP) (n:=n) g c)⟩
theorem La(h:hY):aj xT 55 #[xL eH] h λv h'=>v=.tuple #[]/\h'=h:=by refine ts Tryz.func55 ?_;exact aS (λe=>n5) λ_=>⟨m9,m9⟩
theorem Rh(n:Int)(c:n<2^62)(H:aa B h0 h (gN a pw da offs w ds m::As)):aj xT 17 #[xL (dB pw),xJ xP n] h λv h'=>v=.tuple #[]/\aa B h0 h' (gN a pw da offs (w.arm n) ds m::As):=by obtain⟨x,H⟩:=jl H;obtain⟨ok,d⟩:=H.gM;refine(WG n c (d.aF 2 [1,0])).mono ?_;rintro _ h' ⟨rfl,b⟩;exact⟨m9,na ((b.aF 2 [1,0]).je ok)⟩
theorem abr{k:Int}(e:0<=k/\k<64)(H:aa B h0 h (gN a pw da offs w ds m::As)):cellOf h ((a.add 10).add (k.toNat*1))=dB (.pointer (cT da k))/\(bX ds k=eH->cT da k=eH)/\(∀d,bX ds k=dB d->∃b,cT da k=dB b):=by
 obtain⟨x,H⟩:=jl H;obtain⟨n,rfl⟩:∃n:Nat,k=(n:Int):=⟨k.toNat,nb⟩
 refine⟨by rw[qi];exact Ii H n,λh=>Rc h H,λd h=>?_⟩;obtain⟨b,_,_,_,c,_⟩:=AX h H;exact⟨b,c⟩
theorem EN(H:aa B h0 h (gN a pw da offs w ds m::As)):cellOf h (a.add 8)=dB (xL (dB pw)):=by obtain⟨x,H⟩:=jl H;obtain⟨ok,b⟩:=aa.cU H;exact b.cell (ut ok.l8)
theorem abs(c:ByteArray)(s:Sl)(b:aT)(j:St B h0 As λh=>Rd h s 1 aq b)(e:s.len<=s.cap)(g:c.size<=2^40)(f:bF m=eL)(d:m8 b<=2^20)(H:aa B h0 h (gN a pw da offs w ds m::As)):
  aj xT 48 #[xL (dB a),xM c,s] h λv h'=>v=xJ xP (ez m offs w ds c b).1/\
   aa B h0 h' (gN a pw da offs (ez m offs w ds c b).2.2.1 (ez m offs w ds c b).2.2.2 (ez m offs w ds c b).2.1::As):=by
 obtain⟨x,H⟩:=jl H;refine(PS x m c s b j e g f d H).mono ?_;rintro _ h' ⟨rfl,y,i⟩;exact⟨m9,na i⟩
theorem Ue(b:ByteArray)(c:bF m=eL)(H:aa B h0 h (gN a pw da offs w ds m::As)):
  aj xT 50 #[xL (dB a),xM b] h λv h'=>v=xJ xP (cA m offs w ds b).1/\
   aa B h0 h' (gN a pw da offs (cA m offs w ds b).2.2.1 (cA m offs w ds b).2.2.2 (cA m offs w ds b).2.1::As):=by
 obtain⟨x,H⟩:=jl H;refine(Oa b x m c H).mono ?_;rintro _ h' ⟨rfl,y,d⟩;exact⟨m9,na d⟩
theorem abt(b:ByteArray)(c:bF m=eL)(H:aa B h0 h (gN a pw da offs w ds m::As)):
  aj xT 49 #[xL (dB a),xM b] h λv h'=>∃r:Sl,v=.tuple #[r,xJ xP (iH m offs w ds b).2]/\Sp h h' [EA (iR 1 aq) r (iH m offs w ds b).1]:=by
 obtain⟨x,H⟩:=jl H;exact WQ x m b c H
theorem Zi(b:bF m=eL)(H:aa B h0 h (gN a pw da offs w ds m::As)):
  aj xT 52 #[xL (dB a)] h λv h'=>∃r:Sl,v=r/\Sp h h' [ai 9 r 1 pz (kN m offs w)]:=by
 obtain⟨x,H⟩:=jl H;exact TU x m b H
theorem Zj(b:ByteArray)(c:bF m=eL)(H:aa B h0 h (gN a pw da offs w ds m::As)):
  aj xT 53 #[xL (dB a),xM b] h λv h'=>∃t:Sl,v=.tuple #[xO #[xJ xP (gj m offs w ds b).1.1,xJ xP (gj m offs w ds b).1.2.1,xJ xP (gj m offs w ds b).1.2.2,t],xJ xP (gj m offs w ds b).2]/\Sp h h' [ai 3 t 1 av (kd m offs w b)]:=by
 obtain⟨x,H⟩:=jl H;exact TX x m b c H
theorem Ky(b:ByteArray)(f:bF m=eL)(H:aa B h0 h (fv a pw da offs w ds m::As)):
  aj xT 32 #[xL (dB a),xM b] h λv h'=>∃t:Sl,v=.tuple #[xO #[xJ xP (gj m offs w ds b).1.1,xJ xP (gj m offs w ds b).1.2.1,xJ xP (gj m offs w ds b).1.2.2,t],xJ xP (gj m offs w ds b).2]/\Sp h h' [ai 3 t 1 av (kd m offs w b)]:=by
 have e:=(Wb H).2;obtain⟨x,g⟩:=fP H;exact TW x b f (λk d c=>qX (e k d c).1 (e k d c).2.1) g
theorem Of(b:ByteArray)(f:bF m=eL)(H:aa B h0 h (fv a pw da offs w ds m::As)):
  aj xT 31 #[xL (dB a),xM b] h λv h'=>∃r:Sl,v=.tuple #[r,xJ xP (iH m offs w ds b).2]/\Sp h h' [EA (iR 1 aq) r (iH m offs w ds b).1]:=by
 have e:=(Wb H).2;obtain⟨x,g⟩:=fP H;exact YW x b f (λk d c=>qX (e k d c).1 (e k d c).2.1) g
theorem WU{f c:fY}{d:List bx}(e:bF m=eL)(H:aa B h0 h (fv a pw da offs w ds m::gN f c d offs w ds m::As)):
  aj xT 20 #[xL (dB a),xL (dB f)] h λv h'=>v=xN eL/\Sp h h' []:=by
 obtain⟨x,H⟩:=fP H;obtain⟨x2,H⟩:=jl (H.aF 3 [2,0,1]);have b:=H.aF 4 [2,0,3,1];exact PI x x2 m (b.at 2 m9) (b.at 3 m9) (iA e) (gZ e) m9 b
end
def uJ(b:Mv):Prop:=(∃n:Int,(0<=n/\n<60)/\b=⟨12,⟨#[]⟩,[],0,n,0,0,[],[]⟩)∨
 ∃(n:Int) (a us:aC),(0<=n/\n<12)/\b=⟨13,⟨#[]⟩,[],0,n,0,0,a,us⟩/\(m8 a=9/\us.length=9)/\(∀x∈a,-1<=x/\x<=7)/\∀x∈us,-1<=x/\x<=65
theorem Kz{P:Int->Prop}{l:aC}{x:Int}(h:∀y∈l,P y)(b:P x):∀y∈l++[x],P y:=λy a=>by
 rcases qw.1 a with a|a
 .exact h y a
 .rw[qB.1 a];exact b
theorem PU(k a b:Int)(h:hY):aj xT 44 #[xJ xP k,xJ xP a,xJ xP b] h λv h'=>∃(x:sH) (m:Mv),v=Fo x/\uJ m/\Sp h h' [EA jE x m]:=by
 refine ts Tryz.func44 ?_ (F8 (F8 (F8 (F8 (G0 [] [(19,27)] (E5 (F8 (E7 (E8 [(9,aI)] [(9,10),(27,53)] (F8 (E5 (E7 (G0 [] [(31,42)] E6)) E6))))) E6))))));refine(Sp.refl h).alloc ag m9 λz Z S=>?_;refine(bT k 3 Z).mono ?_;rintro _ h2 ⟨rfl,rfl⟩;refine⟨_,m9,ae (λ_=>?_) λ_=>?_⟩
 .refine(bT a 60 h2).mono ?_;rintro _ h3 ⟨rfl,rfl⟩;refine⟨_,m9,?_⟩;have K:0<=a%60/\a%60<60:=nb
  refine S.storeAll ag 0 m9 m9 (gY (12,⟨#[]⟩,⟨eH,0,0⟩,0,a%60,0,0,⟨eH,0,0⟩,⟨eH,0,0⟩)) m9 m9 m9 m9 λP u=>?_;refine⟨(12,⟨#[]⟩,⟨eH,0,0⟩,0,a%60,0,0,⟨eH,0,0⟩,⟨eH,0,0⟩),(u.box 0 m9).aw _ m9,_,⟨12,⟨#[]⟩,[],0,a%60,0,0,[],[]⟩,m9,.inl ⟨_,K,m9⟩,?_⟩;exact u.dY 0 m9 λq _=>⟨⟨m9,m9,m9,m9,m9,m9,qj _⟩,⟨m9,λi x p=>(by simp at p)⟩,⟨m9,λi x p=>(by simp at p)⟩,m9,λi x p=>(by simp at p)⟩
 obtain⟨f,d⟩:∃f:Int->Sl->Sl->sH,f=λn k t=>(13,⟨#[]⟩,⟨eH,0,0⟩,0,n,0,0,k,t):=⟨_,rfl⟩
 refine S.alloc ag m9 λa5 h3 H3=>?_;refine H3.storeAll ag 1 m9 m9 (gY (13,⟨#[]⟩,⟨eH,0,0⟩,0,0,0,0,⟨eH,0,0⟩,⟨eH,0,0⟩)) m9 m9 m9 m9 λP u=>?_;have u:Sp h P [an z 44 Ku,an a5 44 (gY (f 0 ⟨eH,0,0⟩ ⟨eH,0,0⟩))]:=by rw[d];exact u
 refine bn (λ_ h'=>∃n:Int,(0<=n/\n<12)/\Sp h h' [an z 44 Ku,an a5 44 (gY (f n ⟨eH,0,0⟩ ⟨eH,0,0⟩)),ai 3 ⟨eH,0,0⟩ 1 av [],ai 3 ⟨eH,0,0⟩ 1 av []]) ?_ ?_
 .refine(bT a 5 P).mono ?_;rintro _ Q ⟨rfl,rfl⟩;refine⟨_,m9,aZ (λ_=>?_) λ_=>⟨0,nb,(u.nil 3 1 av).nil 3 1 av⟩⟩;refine(bT b 12 Q).mono ?_;rintro _ T ⟨rfl,rfl⟩;have K:0<=b%12/\b%12<12:=nb
  refine⟨_,m9,?_⟩;refine u.storeAt ag 1 m9 m9 (off:=4) m9 m9 m9 (show 4<9 by decide) λJ j=>⟨b%12,K,?_⟩
  have j:Sp h J [an z 44 Ku,an a5 44 (gY (f (b%12) ⟨eH,0,0⟩ ⟨eH,0,0⟩))]:=by rw[d]at j⊢;exact j
  exact(j.nil 3 1 av).nil 3 1 av
 rintro _ Q ⟨n,Y,H5⟩;refine ak (λt:Sl×Sl×aC×aC=>((m8 t.2.2.1:Nat):Int)) (λt h'=>m8 t.2.2.1<=9/\t.2.2.2.length=m8 t.2.2.1/\(∀x∈t.2.2.1,-1<=x/\x<=7)/\(∀x∈t.2.2.2,-1<=x/\x<=65)/\Sp h h' [an z 44 Ku,an a5 44 (gY (f n t.1 t.2.1)),ai 3 t.1 1 av t.2.2.1,ai 3 t.2.1 1 av t.2.2.2]) (λt=>9-m8 t.2.2.1) (⟨eH,0,0⟩,⟨eH,0,0⟩,[],[]) m9 ⟨n4,m9,n4,n4,H5⟩ ?_;rintro⟨D,w,o,us⟩ T ⟨U,L,F,I,y⟩;dsimp only at U L F I y⊢;refine ae (λe=>?_) λe=>?_
 .have M:∀{h':hY} {g c:Sl},bQ h' a5 44 (gY (f n c g))->cellOf h' (a5.add 8)=dB (xK g.ptr g.len g.cap):=λB=>by rw[d]at B;exact B.cell m9
  have G:∀{h':hY} {g c:Sl},bQ h' a5 44 (gY (f n c g))->cellOf h' (a5.add 7)=dB (xK c.ptr c.len c.cap):=λB=>by rw[d]at B;exact B.cell m9
  refine aE ⟨D,G (y.box 1 m9),nb,?_⟩;refine(bT _ 9 T).G6 ?_;obtain⟨q,hq⟩:=HF ((zp a (2^min ((m8 o:Nat):Int).toNat (qq xP)))%9)
  rw[<-hq];have q0:0<=q/\q<9:=nb
  refine⟨q,m9,⟨G (y.box 1 m9),I0⟩,?_⟩;rw[af (q-1)];refine y.lit ag av ge m9 [q-1] m9 (show 1<=2^20 by decide) m9 λv J j=>⟨⟨G (j.box 1 m9),I0⟩,?_⟩
  refine j.append ag 2 m9 ge ⟨_,_,m9,m9⟩ m9 nq (λ_=>rfl) (j.seq 4 m9 λ_=>rfl) dt n2 λc h8 E=>⟨I0,?_⟩
  refine E.storeAt ag 1 m9 m9 (off:=7) m9 m9 m9 (show 7<9 by decide) λR A=>⟨I0,?_⟩
  have A:Sp h R [an z 44 Ku,an a5 44 (gY (f n c w)),ai 3 c 1 av (o++[q-1]),ai 3 w 1 av us]:=by rw[d]at A⊢;exact aa.bs A [0,1,2,3]
  refine⟨w,M (A.box 1 m9),nb,?_⟩;refine(bT _ 67 R).G6 ?_;obtain⟨r,hr⟩:=HF ((zp b (2^min ((m8 o:Nat):Int).toNat (qq xP)))%67)
  rw[<-hr];have r0:0<=r/\r<67:=nb
  refine⟨r,m9,⟨M (A.box 1 m9),I0⟩,?_⟩;rw[af (r-1)];refine A.lit ag av ge m9 [r-1] m9 (show 1<=2^20 by decide) m9 λv X s=>⟨⟨M (s.box 1 m9),I0⟩,?_⟩
  refine s.append ag 3 m9 ge ⟨_,_,m9,m9⟩ m9 nq (λ_=>rfl) (s.seq 4 m9 λ_=>rfl) dt n2 λN ab O=>⟨I0,?_⟩
  refine O.storeAt ag 1 m9 m9 (off:=8) m9 m9 m9 (show 8<9 by decide) λH l=>⟨I0,?_⟩
  rw[af (((m8 o:Nat):Int)+1)];have l:Sp h H [an z 44 Ku,an a5 44 (gY (f n c N)),ai 3 c 1 av (o++[q-1]),ai 3 N 1 av (us++[r-1])]:=by rw[d]at l⊢;exact aa.bs l [0,1,2,3]
  exact⟨(c,N,o++[q-1],us++[r-1]),n4,⟨n2,n2,Kz F ⟨nb,nb⟩,Kz I ⟨nb,nb⟩,l⟩,n2⟩
 .refine⟨f n D w,(y.box 1 m9).aw _ m9,?_⟩;refine y.storeAll ag 0 m9 m9 (gY (f n D w)) m9 m9 m9 m9 λJ j=>?_;refine⟨f n D w,(j.box 0 m9).aw _ m9,f n D w,⟨13,⟨#[]⟩,[],0,n,0,0,o,us⟩,m9,.inr ⟨n,o,us,Y,m9,⟨nb,nb⟩,F,I⟩,?_⟩;have E:=(((j.freeze 2 m9 λ_=>rfl).freeze 3 m9 λ_=>rfl).aF 4 [2,3]).kA;refine E.dY 0 m9 λq ⟨q1,q2,_,V,W,z1,z2⟩=>?_;rw[d];exact⟨⟨m9,m9,m9,m9,m9,m9,qj _⟩,⟨m9,λi x p=>(by simp at p)⟩,z2.mono W,z1.mono V⟩
theorem PW(p:Pm)(s:Sl)(l:aC)(b:Nat)(a:Bool)(h:hY)(Y:bH p=eL)(g:Rd h s 1 av l)(hm:b<=100):
  aj xT 9 #[gx p,s,xJ xP b,xN a] h λv h'=>∃(r:Sl) (L:List Mv),v=r/\(∀m∈L,km p m∨(a=eL/\uJ m))/\L.length<=b/\Sp h h' [dP 44 r 9 gY jE L]:=by
 refine ts Tryz.func9 ?_ (F8 (F8 (E5 (E9 [(9,bJ)] [(9,72)] (F8 (E7 (E8 [(9,bJ),(10,aI)] [(9,72)] (G0 [] [(11,22)] (E5 (E7 (E5 (E9 [(9,bJ)] [(9,10),(24,52)] (G0 [(32,mR)] [(24,33)] E6)) E6)) E6)))))) E6))) (args:=[p,s,(b:Int),a]);have ad:=g.len;refine(Sp.refl h).boxed λA h1 W=>?_;have fin:∀{h':hY} (r:Sl) (L:List Mv),(∀m∈L,km p m∨(a=eL/\uJ m))->m8 L<=b->Sp h h' [an A 24 [xJ xP p.1,xJ xP p.2.1,xJ xP p.2.2],dP 44 r 9 gY jE L]->∃(I:Sl) (L:List Mv),(Value.slice r.ptr r.len r.cap)=xK I.ptr I.len I.cap/\(∀m∈L,km p m∨(a=eL/\uJ m))/\L.length<=b/\Sp h h' [dP 44 I 9 gY jE L]:=λr L E U T=>⟨r,L,m9,E,U,T.bs [1]⟩
 refine aE ?_;refine ak (λt:Sl×List Mv=>(t.1,((3*m8 t.2:Nat):Int))) (λt h'=>(∀m∈t.2,km p m∨(a=eL/\uJ m))/\t.2.length<=b/\Sp h h' [an A 24 [xJ xP p.1,xJ xP p.2.1,xJ xP p.2.2],dP 44 t.1 9 gY jE t.2]) (λt=>b-m8 t.2) (⟨eH,0,0⟩,[]) m9 ⟨n4,n4,W.Ma 44 9 gY jE⟩ ?_;rintro⟨o,L⟩ h2 ⟨i,P,q⟩;dsimp only at i P q⊢;obtain⟨k,M⟩:=HF (m8 L)
 rw[<-M]at P⊢;obtain⟨el,ec⟩:=q.aeo 1 rfl;refine aE ?_;rw[af (((3*k:Nat):Int)+2)];refine ae (λe1=>?_) λ_=>fin o L i nb q;refine ae (λe2=>?_) λ_=>fin o L i nb q;have ah:3*k+2<m8 l:=nb
 have X:k<b:=nb
 have J:=g.up q.ac;obtain⟨z,B,E,_,_⟩:=g.elem (3*k) l[3*k] (qc nb);have c:∀{h':hY},Rd h' s 1 av l->cellOf h' ((⟨z,B,eH⟩:fY).add (((3*k:Nat):Int).toNat*1))=dB (xJ xP l[3*k]):=λ{h'} hr=>by
  obtain⟨b',N,D,_,u3⟩:=hr.elem (3*k) l[3*k] (qc nb);rw[E]at D;injection D with D
  injection D with D u2
  subst D;subst u2;rw[qi,add_eq];have F:=u3.1;rw[add_eq,Nat.add_zero]at F;exact F
 have put:∀{h3:hY} {x:sH} {m:Mv},(km p m∨(a=eL/\uJ m))->Sp h h3 [an A 24 [xJ xP p.1,xJ xP p.2.1,xJ xP p.2.2],dP 44 o 9 gY jE L,EA jE x m]->
   bC xT (Instr.buildSlice 34 1 #[(0,Fo x)]) (.one (.sc .slc)) h3 λv4 F=>bK.ok [((⟨z,B,eH⟩:fY).add (((3*k:Nat):Int).toNat*1),xJ xP l[3*k])] F/\bC xT (q6 #[34,34] 34 #[o,v4]) (.one (.sc .slc)) F λv5 y=>bK.ok [((⟨z,B,eH⟩:fY).add (((3*k:Nat):Int).toNat*1),xJ xP l[3*k])] y/\
    ∃u:Sl×List Mv,((⟨v5.ptr,v5.len,v5.cap⟩:Sl),qd xP (((3*k:Nat):Int)+3))=(u.1,((3*m8 u.2:Nat):Int))/\((∀m∈u.2,km p m∨(a=eL/\uJ m))/\u.2.length<=b/\Sp h y [an A 24 [xJ xP p.1,xJ xP p.2.1,xJ xP p.2.2],dP 44 u.1 9 gY jE u.2])/\b-m8 u.2<b-k:=λ{h3 x m} f w=>by
  refine w.ko ag gY eMv m9 [x] m9 (show 1*9<=2^20 by decide) n9 ⟨c (g.up w.ac),I0⟩ ?_;refine w.En ag 1 2 nq m9 m9 eMv m9 nq (λ_=>rfl) adw n9 nq nb λN y j=>?_;refine⟨⟨c (g.up j.ac),I0⟩,(N,L++[m]),?_,⟨λZ K=>?_,qb,j.bs [0,1]⟩,qb⟩
  .try dsimp only
   rw[af (((3*k:Nat):Int)+3),qo,<-M];rfl
  .rcases qw.1 K with h|h
   .exact i Z h
   .rw[qB.1 h];exact f
 have Q:∀{G:hY} (S:Sp h G [an A 24 [xJ xP p.1,xJ xP p.2.1,xJ xP p.2.2],dP 44 o 9 gY jE L]),Rd G s 1 av l:=λH=>g.up H.ac;refine aE (bn (λ(t:Bool) h'=>(t=eL->a=eL)/\Sp h h' [an A 24 [xJ xP p.1,xJ xP p.2.1,xJ xP p.2.2],dP 44 o 9 gY jE L]) ?_ ?_)
 .refine aS (λef=>?_) λ_=>⟨λe=>n5,q⟩
  refine⟨⟨z,B,eH⟩,⟨E,nb,nb⟩,l[3*k],c J,(bT _ 5 h2).G6 ?_⟩;exact⟨_,m9,λ_=>ef,q⟩
 rintro t y ⟨V,j⟩;have d:=g.up j.ac;refine aS (λet=>?_) λ_=>?_
 .refine⟨⟨z,B,eH⟩,⟨E,nb,nb⟩,l[3*k],c d,nq,?_⟩;rw[af (((3*k:Nat):Int)+1)];refine d.aW (3*k+1) nb nb l[3*k+1] m9 ?_;refine d.aW (3*k+2) nb nb l[3*k+2] m9 ?_;refine(PU _ _ _ y).mono ?_;rintro _ h6 ⟨x,m,rfl,f,R6⟩;have O:=j.comp R6;exact⟨x,m9,⟨c (g.up O.ac),I0⟩,put (.inr ⟨V et,f⟩) O⟩
 .try dsimp only
  refine⟨p,(j.box 0 m9).aw _ m9,⟨z,B,eH⟩,⟨E,nb,nb⟩,l[3*k],c d,nq,?_⟩;rw[af (((3*k:Nat):Int)+1)];refine d.aW (3*k+1) nb nb l[3*k+1] m9 ?_;refine d.aW (3*k+2) nb nb l[3*k+2] m9 ?_;refine(WF p _ _ _ y Y).mono ?_;rintro _ h3 ⟨x,m,rfl,f,R⟩;have w:=j.comp R;exact⟨x,m9,⟨c (g.up w.ac),I0⟩,put (.inl f) w⟩
section
variable {pw:fY}
end
theorem Og{p q:ar}(a b:Sl)(c d:List ByteArray)(h:hY)(r:Qw.Seq h p a 1 pz c)(m:Qw.Seq h q b 1 pz d)(t:m8 c<=2^30):
  aj xT 51 #[a,b] h λv h'=>(c=d->v=xN eL)/\h'=h:=by
 refine ts Tryz.func51 ?_ (F8 (F8 (F9 [(13,aI)] [(4,6),(13,26)])));have k:=r.len;have l:=m.len;refine bm (λe=>⟨λf=>absurd (by rw[k,l,f]) e,m9⟩) λe=>?_;refine ak (λi:Nat=>(i:Int)) (λi h'=>i<=m8 c/\h'=h) (λi=>m8 c-i) 0 m9 ⟨nb,m9⟩ ?_;rintro i w ⟨x,rfl⟩;refine ae (λo=>?_) λo=>⟨λ_=>rfl,m9⟩
 have g:i<m8 c:=by have u:(i:Int)<(a.len:Int):=o;omega
 have j:i<m8 d:=nb
 refine r.aW i m9 g c[i] m9 ?_;refine m.aW i m9 j d[i] m9 ?_;refine aH (λf=>⟨λs=>?_,m9⟩) λf=>⟨i+1,n7,⟨nb,m9⟩,nb⟩
 subst s;simp at f
section
variable {pw:fY}
end
structure adF (b:Mv):Prop where
 put:b.kind=1->b.name.size<=2^40/\b.data.length<=2^20
 slot:b.kind=9∨b.kind=11->0<=b.slot/\b.slot<64
 arm:b.kind=12->b.n<2^62
 mask:b.kind=11->0<=b.mask/\b.mask<2^32
theorem Uf{m:aB}(a:bF m=eL)(b:Int)(w:Pow)(d:aG)(n:aB):bF (cm m b w d n).2.1=eL:=by
 unfold cm;split
 .exact a
 split
 .exact a
 rename_i c;have c:bF n=eL:=by
  cases h:bF n with
  |true=>rfl
  |false=>rw[h]at c;exact absurd m9 c
 try dsimp only
 split
 .exact a
 split
 .exact a
 try dsimp only
 split
 .exact c
 .exact a
theorem Ug{m:aB}(c:bF m=eL)(a:Int)(w:Pow)(d:aG)(b:ByteArray):bF (cA m a w d b).2.1=eL:=by
 unfold cA;split
 .exact c
 split
 .exact c
 split
 .exact c
 .exact Uf c _ _ _ _
theorem abu{m:aB}(d:bF m=eL)(a:Int)(w:Pow)(f:aG)(c:ByteArray)(b:aT):bF (ez m a w f c b).2.1=eL:=by
 unfold ez;split
 .exact d
 rename_i e;have e:dI m (gy w a) f c b.length=0:=o7
 cases ht:cX m.p m.next (splitB m.p b).length with
 |none=>exact d
 |some t=>
  try dsimp only
  split
  .exact d
  split
  .exact d
  split
  .exact d
  try dsimp only
  split
  .exact Ns d e ht
  .exact d
theorem Oh{w:Pow}(h:w.calm)(d:bu)(l:dT):(d.rewrite w l).2.1=w:=by
 unfold bu.rewrite;rw[rZ h]
 repeat' split
 all_goals rfl
theorem pA{w:Pow}(h:w.calm)(m:aB)(N:Int->Int):∀(l:aC) (ds:aG),(makes m N l w ds).2.1=w
 |[],_=>rfl
 |k::l,ds=>by
  have a:(fK m w ds k (N k)).2.1=w:=by
   unfold fK;cases bX ds k with
   |none=>rfl
   |some d=>
    try dsimp only
    unfold eS;split
    .rfl
    split
    .rfl
    split
    .rfl
    exact Oh h _ _
  unfold makes;split
  .rw[a];exact pA h m N l _
  .exact a
theorem Zk{w:Pow}(h:w.calm)(m:aB)(a:Int)(d:aG)(c:ByteArray)(b:aT):(ez m a w d c b).2.2.1=w:=by
 unfold ez;split
 .rfl
 cases cX m.p m.next (splitB m.p b).length with
 |none=>rfl
 |some t=>
  try dsimp only
  split
  .rfl
  split
  .exact pA h _ _ _ _
  rw[pA h];split
  .exact uB h _ _
  .try dsimp only
   rw[uB h];exact uB h _ _
theorem PX{w:Pow}(h:w.calm)(m:aB)(a:Int)(b:aG)(n:aB):(cm m a w b n).2.2.1=w:=by
 unfold cm;split
 .rfl
 split
 .rfl
 try dsimp only
 split
 .rfl
 split
 .exact pA h _ _ _ _
 rw[pA h];exact uB h _ _
theorem PY{w:Pow}(h:w.calm)(m:aB)(a:Int)(c:aG)(b:ByteArray):(cA m a w c b).2.2.1=w:=by
 unfold cA;split
 .rfl
 split
 .rfl
 split
 .rfl
 .exact PX h _ _ _ _
theorem abv{m:aB}(f:bF m=eL)(b:Int)(w:Pow)(g:aG)(a:ByteArray):(iH m b w g a).1.length<=2^20:=by
 unfold iH;split
 .exact qW _
 cases hf:m.objs.find? (dH a)with
 |none=>exact qW _
 |some E=>
  have c:=zP hf;have e:=(iT m E).1 (((cM m).1 f).2.2.2.2.1 E c);have h:=((iC m).1 ((cM m).1 f).1).2.2.1;have d:E.length<=2^20:=by obtain⟨⟨l,i⟩,_,k,j⟩:=(bI m.p).1 h;have:m.p.1*m.p.2.2<=16*24:=wg i j nb nb;have:=e.2.2.1.2;omega
  show(rf m g E).1.length<=_;unfold rf;split
  .exact qW _
  split
  .try dsimp only
   unfold iM;split
   .rw[qx];omega
   .exact qW _
  .exact qW _
theorem WV{m:aB}(d:bF m=eL)(b:Int)(w:Pow)(a:ByteArray):(kd m b w a).length<=8:=by
 unfold kd;split
 .exact qW _
 cases hf:m.objs.find? (dH a)with
 |none=>exact qW _
 |some E=>
  have c:=(iT m E).1 (((cM m).1 d).2.2.2.2.1 E (zP hf));have:=ma c.2.2.1.2
  try dsimp only
  omega
section
theorem PZ(x:UInt8):qd xQ ((x.toNat:Int)+1)=((x+1).toNat:Int):=by have:=x.toNat_lt;rw[UInt8.toNat_add];unfold qd;simp[qq,yC]
theorem Lb(s:Int×Int×Int)(t u:Sl)(l:aC)(h:hY)(d:Rd h t 1 av l)(i:Rd h u 1 av l)(j:m8 l<=2^30):
  aj xT 54 #[xO #[xJ xP s.1,xJ xP s.2.1,xJ xP s.2.2,t],xO #[xJ xP s.1,xJ xP s.2.1,xJ xP s.2.2,u]] h λv h'=>v=xN eL/\Sp h h' []:=by
 refine ts Tryz.func54 ?_ (args:=[(s.1,s.2.1,s.2.2,t),(s.1,s.2.1,s.2.2,u)]);refine(Sp.refl h).boxed λm k g=>g.boxed λa2 f a=>?_;have b:=a.box 0 m9;have c:=a.box 1 m9;refine⟨s.1,b.cell0 m9,s.1,c.cell0 m9,aZ (λ_=>?_) λe=>absurd m9 e⟩;refine⟨s.2.1,b.cell m9,s.2.1,c.cell m9,aZ (λ_=>?_) λe=>absurd m9 e⟩;refine⟨s.2.2,b.cell m9,s.2.2,c.cell m9,aZ (λ_=>?_) λe=>absurd m9 e⟩;refine⟨t,b.cell m9,u,c.cell m9,(nV t u l l f (Seq.up d a.ac) (Seq.up i a.ac)).G6 ?_⟩;exact⟨_,m9,by rw[ln rfl],.zip a.ac⟩
variable {B:ar} {h0 h:hY} {As:List HP} {a pw a2 pw2:fY} {offs:Int} {da da2:List bx} {w:Pow} {ds:aG} {m:aB}
theorem Qa(x:sH)(b:Mv)(X:St B h0 As λh=>fm jE h x b)(Y:adF b)(i:bF m=eL)(H:aa B h0 h (fv a pw da offs w ds m::gN a2 pw2 da2 offs w ds m::As)):
  aj xT 10 #[xL (dB a),xL (dB a2),Fo x] h λv h'=>v=xN eL/\∃(w':Pow) (J:aG) (m':aB),bF m'=eL/\(b.kind≠12->w.calm->w'=w)/\aa B h0 h' (fv a pw da offs w' J m'::gN a2 pw2 da2 offs w' J m'::As):=by
 refine ts Tryz.func10 ?_ (F8 (E5 (F8 (E7 (F8 (E5 (F8 (F8 (F8 (F9 [(41,aI)] [(10,11),(41,51)])))) (F8 (F8 (F8 (F8 (F8 (F8 (F8 (F8 (F8 (F8 (F8 (F8 (F8 (E5 (G0 [] [(183,188)] E6) E6)))))))))))))))))) E6)) [(17,(.l [0,1,2,4,5,6,3,7,8,9])),(25,(.l [0,1,2,4,5,6,7,8,9,10,3,11,12])),(30,(.l [0,1,2,4,5,6,7,8,9,10,3,11,12])),(33,(.l [0,2,3,1,4]))] (args:=[(dB a),(dB a2),x]);obtain⟨⟨L,e2,e4,e5,e6,e7,U⟩,ed,_⟩:=X.at [_,_] H;refine H.boxed λa1 h1 c=>?_;have c:=c.ba.aF 3 [1,2,0];have j:=c.box 2 m9;have ah:Rd h1 x.2.2.1 1 aq b.data:=(X.at [_,_,_] c).2.1;refine⟨x.1,j.cell0 m9,aZ (λk1=>?_) λ_=>?_⟩
 .obtain⟨I,R⟩:=Y.put (L▸k1);rw[<-e2]at I;refine⟨x.2.2.1,j.cell m9,(Ie x.2.2.1 b.data h1 ah nb).Hf λS F y=>?_⟩;have g:=(c.bS y).aF 4 [1,2,0,3];refine⟨S,m9,x.2.1,(g.box 3 m9).cell m9,?_⟩;refine(QQ x.2.1 S b.data (St.dS (A:=ai 5 S 1 aq b.data) 1 m9 λh' D=>D.1.seq (λ_=>rfl) D.2) (g.own 2 m9).cap I i R g).G7 λh3 f=>?_;obtain⟨P,s⟩:=HF (ez m offs w ds x.2.1 b.data)
  rw[<-s]at f⊢;have ad:Rd h3 x.2.2.1 1 aq b.data:=(X.at [_,_,_,_] f).2.1;refine⟨P.1,m9,x.2.2.1,(f.box 3 m9).cell m9,(lU S x.2.2.1 b.data b.data h3 (f.seq 2 m9 λ_=>rfl) ad nb).G6 ?_⟩;refine⟨_,m9,?_⟩;have ap:=(f.own 2 m9).len;refine ak (λk:Nat=>(k:Int)) (λk h'=>k<=m8 b.data/\∃l:aT,m8 l=m8 b.data/\aa B h0 h' (fv a pw da offs P.2.2.1 P.2.2.2 P.2.1::gN a2 pw2 da2 offs w ds m::ai 5 S 1 aq l::an a1 44 (gY x)::As)) (λk=>m8 b.data-k) 0 m9 ⟨qW _,b.data,m9,f⟩ ?_;rintro k h5 ⟨W,l,hl,p⟩
  try dsimp only
  refine ae (λe=>?_) λe=>?_
  .have T:k<m8 l:=nb
   refine(p.seq 2 m9 λ_=>rfl).aW k m9 T (l[k].toNat:Int) m9 ?_;refine p.set ag 2 m9 (λ_=>rfl) m9 k m9 T (l[k]+1) (by rw[PZ];rfl) m9 m9 λh6 O=>?_;exact⟨k+1,n7,⟨nb,l.set k (l[k]+1),by rw[qP];exact hl,O⟩,nb⟩
  refine⟨x.2.1,(p.box 3 m9).cell m9,x.2.2.1,(p.box 3 m9).cell m9,?_⟩;have p:=p.aF 4 [1,0,3];refine(abs x.2.1 x.2.2.1 b.data (St.cons (St.cons λBs h' hh=>(X Bs h' hh).2.1)) U I i R p).G7 λh7 G=>?_;rw[<-s]at G⊢;refine⟨P.1,m9,aZ (λ_=>⟨by rw[ln rfl],P.2.2.1,P.2.2.2,P.2.1,by rw[s];exact abu i _ _ _ _ _,λ_ hc=>by rw[s];exact Zk hc _ _ _ _ _,G.aF 3 [1,0]⟩) λe=>absurd m9 e⟩
 refine aZ (λk2=>?_) λ_=>?_
 .refine⟨x.2.1,j.cell m9,(Of x.2.1 i c).Hf λr F y=>?_⟩;have g:=c.bS y;refine⟨(r,(iH m offs w ds x.2.1).2),m9,x.2.1,(g.box 3 m9).cell m9,(abt x.2.1 i (g.aF 4 [2,0,1,3])).Hf λN h3 Z=>?_⟩;have f:=g.bS Z;have hl:=abv i offs w ds x.2.1;refine⟨(N,(iH m offs w ds x.2.1).2),m9,aZ (λ_=>?_) λe=>absurd m9 e⟩;refine(lU r N _ _ h3 (f.at 1 m9) (f.at 0 m9) nb).G6 ⟨_,m9,by rw[ln rfl],w,ds,m,i,λ_ _=>rfl,f.aF 5 [2,3]⟩
 refine aZ (λk3=>?_) λ_=>?_
 .refine⟨x.2.1,j.cell m9,x.2.1,j.cell m9,(HX x.2.1 i c).G7 λF g=>?_⟩;obtain⟨P,s⟩:=HF (cA m offs w ds x.2.1)
  rw[<-s]at g⊢;refine⟨P.1,m9,⟨(g.box 2 m9).cell m9,I0⟩,(Ue x.2.1 i (g.aF 3 [1,0,2])).G7 λh3 f=>?_⟩;rw[<-s]at f⊢;exact⟨P.1,m9,I0,by rw[beq_self_eq_true],P.2.2.1,P.2.2.2,P.2.1,by rw[s];exact Ug i _ _ _ _,λ_ hc=>by rw[s];exact PY hc _ _ _ _,f.aF 3 [1,0]⟩
 refine aZ (λk4=>?_) λ_=>?_
 .refine(NO i c).Hf λr F y=>?_;have g:=c.bS y;refine⟨r,m9,(Zi i (g.aF 4 [2,0,1,3])).Hf λN h3 Z=>?_⟩;have f:=g.bS Z;have ab:(kN m offs w).length<=2^30:=by
   have al:=((cM m).1 i).2.2.2.1;unfold kN;split
   .exact qW _
   .rw[qn];omega
  refine⟨N,m9,(Og r N _ _ h3 (f.seq 1 m9 λ_=>rfl) (f.seq 0 m9 λ_=>rfl) ab).mono ?_⟩;rintro _ _ ⟨hv,rfl⟩;have hv:=hv m9;subst hv;exact⟨eL,m9,m9,w,ds,m,i,λ_ _=>rfl,f.aF 5 [2,3]⟩
 refine aZ (λk5=>?_) λ_=>?_
 .refine⟨x.2.1,j.cell m9,(Ky x.2.1 i c).Hf λt F y=>?_⟩;have g:=c.bS y;obtain⟨E,hE⟩:=HF (gj m offs w ds x.2.1)
  rw[<-hE];refine⟨((E.1.1,E.1.2.1,E.1.2.2,t),E.2),m9,g.alloc ag m9 λao h3 f=>?_⟩;have f:=f.ba;refine f.storeAll ag 0 m9 m9 (lM E.1 t) m9 m9 m9 m9 λh4 H4=>?_;refine⟨x.2.1,(H4.box 4 m9).cell m9,(Zj x.2.1 i (H4.aF 5 [3,0,1,2,4])).Hf λu h5 R5=>?_⟩;have p:=H4.bS R5;rw[<-hE];refine⟨((E.1.1,E.1.2.1,E.1.2.2,u),E.2),m9,p.alloc ag m9 λam h6 O=>?_⟩;have O:=O.ba;refine O.storeAll ag 0 m9 m9 (lM E.1 u) m9 m9 m9 m9 λh7 G=>?_;have hl:=WV i offs w x.2.1;refine aZ (λ_=>?_) λe=>absurd m9 e;refine⟨(E.1.1,E.1.2.1,E.1.2.2,t),(G.box 2 m9).aw _ m9,(E.1.1,E.1.2.1,E.1.2.2,u),(G.box 0 m9).aw _ m9,?_⟩;refine(Lb E.1 t u _ h7 (G.seq 3 m9 λ_=>rfl) (G.seq 1 m9 λ_=>rfl) nb).G7 λh8 R8=>⟨eL,m9,m9,w,ds,m,i,λ_ _=>rfl,(G.up R8.ac).aF 7 [4,5]⟩
 have rp:∀{h':hY},aa B h0 h' (fv a pw da offs w ds m::gN a2 pw2 da2 offs w ds m::an a1 44 (gY x)::As)->(x.1=9∨x.1=11)->(0<=x.2.2.2.1/\x.2.2.2.1<64)/\cellOf h' ((a2.add 10).add (x.2.2.2.1.toNat*1))=dB (.pointer (cT da2 x.2.2.2.1))/\(bX ds x.2.2.2.1=eH->cT da2 x.2.2.2.1=eH)/\(∀d,bX ds x.2.2.2.1=dB d->∃b,cT da2 x.2.2.2.1=dB b):=λH W=>by
  have z:0<=x.2.2.2.1/\x.2.2.2.1<64:=by rw[e4];exact Y.slot (by rw[<-L];exact W)
  exact⟨z,abr z (H.aF 3 [1,0,2])⟩
 refine aZ (λk9=>?_) λ_=>?_
 .obtain⟨z,M,c2,c3⟩:=rp c (.inl k9);refine⟨x.2.2.2.1,j.cell m9,x.2.2.2.1,j.cell m9,a2,m9,⟨z.1,z.2⟩,cT da2 x.2.2.2.1,M,(sa x.2.2.2.1 c).G6 ?_⟩;refine⟨_,m9,⟨M,j.cell m9,I0⟩,?_⟩;cases hd:bX ds x.2.2.2.1 with
  |none=>
   rw[Kn hd c,c2 hd];refine(La _).G6 ⟨(),m9,aS (λe=>n5) λ_=>⟨m9,w,ds,m,i,λ_ _=>rfl,c.aF 3 [0,1]⟩⟩
  |some d=>
   obtain⟨q,D⟩:=QR hd c;obtain⟨q2,o⟩:=c3 d hd;rw[D,o];refine(WT hd D c).G7 λF g=>⟨(),m9,aS (λ_=>?_) λe=>n5⟩;refine(WS hd o (g.aF 3 [1,0,2])).G7 λh3 f=>⟨(),m9,m9,w,_,m,i,λ_ _=>rfl,f.aF 3 [1,0]⟩
 refine aZ (λV=>?_) λ_=>?_
 .obtain⟨z,M,c2,c3⟩:=rp c (.inr V);have Q:0<=x.2.2.2.2.2.2.1/\x.2.2.2.2.2.2.1<2^32:=by rw[e7];exact Y.mask (by rw[<-L];exact V)
  refine⟨x.2.2.2.1,j.cell m9,x.2.2.2.1,j.cell m9,a2,m9,⟨z.1,z.2⟩,cT da2 x.2.2.2.1,M,(sa x.2.2.2.1 c).G6 ?_⟩;refine⟨_,m9,⟨M,j.cell m9,I0⟩,x.2.2.2.2.1,j.cell m9,x.2.2.2.2.2.1,j.cell m9,x.2.2.2.2.2.2.1,j.cell m9,?_⟩;cases hd:bX ds x.2.2.2.1 with
  |none=>
   rw[Kn hd c,c2 hd];refine(KL _ _ _ _).G7 λF y=>⟨eR,m9,aS (λe=>n5) λ_=>⟨m9,w,ds,m,i,λ_ _=>rfl,(c.up y.ac).aF 3 [0,1]⟩⟩
  |some d=>
   obtain⟨q,D⟩:=QR hd c;obtain⟨q2,o⟩:=c3 d hd;rw[D,o];refine(Wd x.2.2.2.2.1 x.2.2.2.2.2.1 x.2.2.2.2.2.2.1 Q hd D c).G7 λF g=>?_;have b2:=g.box 2 m9;refine⟨_,m9,aS (λ_=>?_) λe=>n5⟩;refine⟨x.2.2.2.2.1,b2.cell m9,x.2.2.2.2.2.1,b2.cell m9,x.2.2.2.2.2.2.1,b2.cell m9,?_⟩;refine(WR x.2.2.2.2.1 x.2.2.2.2.2.1 x.2.2.2.2.2.2.1 Q hd o (g.aF 3 [1,0,2])).G7 λh3 f=>⟨_,m9,by rw[beq_self_eq_true],w,_,m,i,λ_ _=>rfl,f.aF 3 [1,0]⟩
 refine aZ (λK=>?_) λ_=>⟨m9,w,ds,m,i,λ_ _=>rfl,c.aF 3 [0,1]⟩
 have hn:x.2.2.2.2.1<2^62:=by rw[e5];exact Y.arm (by rw[<-L];exact K)
 refine aE ⟨x.2.2.2.2.1,j.cell m9,(oI c).G6 ?_⟩;refine⟨_,m9,⟨j.cell m9,I0⟩,(QY x.2.2.2.2.1 hn c).G7 λF g=>?_⟩;refine⟨(),m9,I0,a2,m9,dB pw2,EN (g.aF 3 [1,0,2]),x.2.2.2.2.1,(g.box 2 m9).cell m9,?_⟩;refine(Rh x.2.2.2.2.1 hn (g.aF 3 [1,0,2])).G7 λh3 f=>⟨(),m9,I0,m9,_,ds,m,i,λW _=>absurd (by rw[<-L];exact K) W,f.aF 3 [1,0]⟩
end
variable {b:fY} {mc:aR}
section
variable {pw:fY}
abbrev xX(l:aC):aG:=(dc (dD l) (sE l) Pow.new (jY l)).2.2
abbrev Ce(l:aC):aB:=cw (dD l) (sE l) (jY l)
theorem WW(s:Sl)(l:aC)(h:hY)(F:Rd h s 1 av l):aj xT 8 #[s] h λv h'=>
  (iX (dD l) (sE l) (jY l)≠0->v=.tuple #[xL eH,xL eH]/\Sp h h' [])/\
  (iX (dD l) (sE l) (jY l)=0->∃(a a2 pw pw2:fY) (x x2:bc) (da da2:List bx),v=.tuple #[xL (dB a),xL (dB a2)]/\
   Sp h h' [aJ bP a pw (aD x) 0 da Pow.new (xX l),bo x (Ce l),aJ bE a2 pw2 (aD x2) 0 da2 Pow.new (xX l),bo x2 (Ce l)]):=by
 refine ts Tryz.func8 ?_;refine(PJ s l h F).Hf λr H G=>⟨(dD l,sE l,r),m9,?_⟩;have y:=Gm l;have B:=Jk l;refine G.alloc ag m9 λa2 I q=>?_;refine q.storeAll ag 1 m9 m9 [xJ xP (dD l).1,xJ xP (dD l).2.1,xJ xP (dD l).2.2] m9 m9 m9 m9 λh3 j=>?_;have j:Sp h h3 [ai 3 r 1 av (jY l),an a2 24 [xJ xP (dD l).1,xJ xP (dD l).2.1,xJ xP (dD l).2.2]]:=j;refine(JP h3).Hf λpw K A=>?_;have z:=j.bS A;refine⟨_,m9,z.boxed λpw2 u i=>?_⟩;have i:Sp h u [fL pw2 Pow.new,ee 107 pw Pow.new,ai 3 r 1 av (jY l),an a2 24 [xJ xP (dD l).1,xJ xP (dD l).2.1,xJ xP (dD l).2.2]]:=aa.kV (l:=0) (w:=Pow.new) (λk e=>n5) i.ba;refine⟨dD l,(i.box 3 m9).aw _ m9,?_⟩;refine(Fg (dD l) (sE l) r (jY l) (As:=[fL pw2 Pow.new,ai 3 r 1 av (jY l),an a2 24 [xJ xP (dD l).1,xJ xP (dD l).2.1,xJ xP (dD l).2.2]]) (St.dS 1 m9 λh' b=>b.1.seq (λ_=>rfl) b.2) nb (i.aF 2 [1,0])).mono ?_;rintro _ J ⟨D,n⟩;by_cases g:iX (dD l) (sE l) (jY l)=0
 .obtain⟨d,o,_⟩:=Pp nb g;rw[o]at n;obtain⟨a,x,da,rfl,f⟩:=n d;refine⟨(dB a,0),m9,dD l,(f.box 4 m9).aw _ m9,?_⟩;refine(DX (dD l) (sE l) r (jY l) (As:=[aJ bP a pw (aD x) Pow.new.offs da Pow.new (xX l),bo x (Ce l),ai 3 r 1 av (jY l),an a2 24 [xJ xP (dD l).1,xJ xP (dD l).2.1,xJ xP (dD l).2.2]]) (St.dS 2 m9 λh' b=>b.1.seq (λ_=>rfl) b.2) nb (f.aF 3 [2,0,1])).mono ?_;rintro _ E ⟨_,p⟩;rw[o]at p;obtain⟨c,x2,da2,rfl,m⟩:=p d;refine⟨(dB c,0),m9,λh=>absurd g h,λ_=>⟨a,c,pw,pw2,x,x2,da,da2,m9,?_⟩⟩;exact(show aa _ _ _ [aJ bE c pw2 (aD x2) 0 da2 Pow.new (xX l),bo x2 (Ce l),aJ bP a pw (aD x) 0 da Pow.new (xX l),bo x (Ce l),ai 3 r 1 av (jY l),an a2 24 [xJ xP (dD l).1,xJ xP (dD l).2.1,xJ xP (dD l).2.2]]from m).bs [2,3,0,1]
 .have d:(dc (dD l) (sE l) Pow.new (jY l)).1≠0:=by rw[ta,k4 g];exact g
  obtain⟨rfl,f⟩:=D d;refine⟨(eH,_),m9,dD l,(f.box 2 m9).aw _ m9,?_⟩;refine(DX (dD l) (sE l) r (jY l) (As:=[ai 3 r 1 av (jY l),an a2 24 [xJ xP (dD l).1,xJ xP (dD l).2.1,xJ xP (dD l).2.2]]) (St.dS 0 m9 λh' b=>b.1.seq (λ_=>rfl) b.2) nb f).mono ?_;rintro _ E ⟨t,_⟩;obtain⟨rfl,m⟩:=t d;exact⟨(eH,_),m9,λ_=>⟨m9,.zip m.ac⟩,λh=>absurd h g⟩
end
theorem km.sm{p:Pm}{b:Mv}(d:bH p=eL)(h:km p b):adF b:=by
 obtain⟨⟨k,f⟩,_,i,g⟩:=(bI p).1 d;have c:p.1*p.2.2<=16*24:=wg f g nb nb;refine⟨λa=>?_,λa=>?_,λa=>?_,λa=>?_⟩
 .obtain⟨e,j⟩:=Qw.km.put h a;have:=Zb _ e;exact⟨nb,nb⟩
 .unfold km at h;rcases h with h|h|h|h|h|h|h|h|h<;>omega
 .unfold km at h;rcases h with h|h|h|h|h|h|h|h|h<;>omega
 .unfold km at h;rcases h with h|h|h|h|h|h|h|h|h<;>omega
variable {a2 pw2:fY} {da2:List bx}
section
variable {pw:fY}
end
variable {t t2 e eb k:Nat} {z:aR} {by_:Nat} {α:Type} {p:ar} {v:Sl} {f:α->aR} {l l2:List α} {pre post:aR}
section
variable {C:Ctx} {ty:Nat}
theorem bQ.Gr(A:C.Ok)(u:bO C.toAA t e k z by_)(m:∀x,(f x).length=k)(j:bQ h a eb (pre++l.flatMap f++post))(w:Seq h p v k f l2)(g:m8 l2=m8 l)(d:∀x,∀c∈f x,c.oneCell'=eL){n s D:Nat}(y:n=m8 pre)(G:m8 l<=s){K:Int->hY->Prop}
  (B:∀h',bQ h' a eb (pre++l2.flatMap f++post)->aQ (λb=>b≠a.block) h h'->K l2.length h'):
  bC C.P (w6 #[t,t2] ty #[.slice (dB (a.add n)) s D,v]) (.one (.sc (.int .i64))) h K:=by
 unfold bC w6;simp only[List.getElem?_toArray,List.getElem?_cons_zero,qO];refine au.bind (au.always (aK (u.under A)) ?_);refine au.bind (au.pure' ?_);refine au.bind (au.always (u.size A) ?_);have o:=w.len;have i:Nat.min v.len s=v.len:=Nat.min_eq_left nb;rw[i];refine au.bind (eC m w ?_);have H:=j.addr;have F:a.add n=⟨a.block,0+n,eH⟩:=by
  conv=>lhs;rw[H]
  simp[Addr.add];omega
 rw[F];refine au.bind ?_;have r:=j.blk;refine fc (e:=eb) (pre:=pre) (old:=l.flatMap f) (post:=post) r (by rw[dz m,dz m,g]) nb ?_ ?_
 .intro c E;obtain⟨x,_,q⟩:=wM.1 E;exact d x c q
 .refine au.pure' ⟨_,by rw[goInt,o],B _ ⟨j.off,j.spot,?_⟩ (aQ.ju r λy=>y m9)⟩;rw[hJ r,hZ rfl]
theorem aa.Gr(A:C.Ok)(H:aa B h0 h As)(i:Nat)(m:As[i]?=dB (an a eb (pre++l.flatMap f++post)))(q:bO C.toAA t e k z by_)(o:∀x,(f x).length=k)(r:Seq h p v k f l2)(d:m8 l2=m8 l)(b:∀x,∀c∈f x,c.oneCell'=eL){n j u:Nat}(w:n=m8 pre)(g:m8 l<=j){K:Int->hY->Prop}
  (s:∀h',aa B h0 h' (As.set i (an a eb (pre++l2.flatMap f++post)))->K l2.length h'):
  bC C.P (w6 #[t,t2] ty #[.slice (dB (a.add n)) j u,v]) (.one (.sc (.int .i64))) h K:=
 (H.box i m).Gr A q o r d b w g λh' x y=>s h' (H.ng i m y x)
end
section
theorem aeF{x y:Operand}(p:bx):iN xT .neq 64 x y (.pointer p) (.pointer p) (xN eR):=by obtain⟨i,a⟩:=Option.isSome_iff_exists.1 (show(Tryz.prog.info? 172).isSome=eL by kernel_rfl);exact Ye (e:=172) n9 a p
variable {h:hY}
theorem adG:aj xT 64 #[xL eH] h λv h'=>v=xN eL/\h'=h:=by refine mB eH ?_;exact aS (λ_=>⟨m9,m9⟩) λe=>n5
theorem EO{K:Bool->hY->Prop}(a:K eL h):jZ xT 64 #[xL eH] (.one (.sc .bool)) h K:=adG.mono (by rintro _ _ ⟨rfl,rfl⟩;exact⟨eL,m9,a⟩)
theorem adH(a:ByteArray):aj xT 31 #[xL eH,xM a] h λv h'=>v=.tuple #[xK eH 0 0,xJ xP 14]/\Sp h h' []:=by refine pD eH a (EO (aS (λ_=>⟨m9,Sp.refl h⟩) λe=>n5))
theorem abw(a:ByteArray):aj xT 32 #[xL eH,xM a] h λv h'=>v=.tuple #[xO #[xJ xP 0,xJ xP 0,xJ xP 0,xK eH 0 0],xJ xP 14]/\Sp h h' []:=by refine ts Tryz.func32 ?_ (F8 (F8 (F8 (F8 (F8 (G0 [(8,(.sc .adr))] [(8,9),(30,39)] (E5 (F8 (E7 (E8 [(42,aI)] [(10,11),(12,13),(42,73)] (F8 (F8 (E5 (E7 (F8 (F8 (E7 (E8 [(58,aI)] [(12,13),(58,72)] E6))))) E6)))))) E6))))))) [(7,(.y [0,1,2,3,4,5,6] (.l [7,8,9,10]) (.l [9,7,8,10]))),(11,(.l [0,1,2,3,4,5,6,7,8,9,12,10,11]))];refine(Sp.refl h).alloc ag m9 λf d c=>EO (aS (λ_=>?_) λe=>n5);refine c.storeAll ag 0 m9 m9 (lM (0,0,0) ⟨eH,0,0⟩) m9 m9 m9 m9 λh3 b=>?_;exact⟨(0,0,0,⟨eH,0,0⟩),(b.box 0 m9).aw _ m9,m9,b.bs []⟩
theorem adI(k:Int)(d:bx):aj xT 37 #[xL eH,xJ xP k,.pointer d] h λv h'=>v=.tuple #[]/\Sp h h' []:=by refine ts Tryz.func37 ?_;exact aS (λe=>n5) λ_=>⟨m9,Sp.refl h⟩
theorem adJ(a:ByteArray)(s:Sl):aj xT 34 #[xL eH,xM a,s] h λv h'=>v=xJ xP 14/\Sp h h' []:=by
 refine ts Tryz.func34 ?_ (F8 (F8 (F8 (G0 [(9,bJ),(10,mR)] [(9,11),(34,53)] (F8 (F8 (F8 (F8 (G0 [(12,(.sc .adr)),(13,bJ)] [(12,14),(66,74)] E6))))))))) [(12,(.y [0,1,2,3,4,6] (.y [5] (.l [7,8,9,10]) (.l [8,7,9,10])) (.l [8,5,7,9,10])))];have b:aj xT 94 #[xL eH,xM a,s] h λv h'=>v=xJ xP 14/\h'=h:=
  nw eH a s (EO (aS (λ_=>⟨m9,m9⟩) λe=>n5))
 refine b.mono ?_;rintro _ _ ⟨rfl,rfl⟩;exact⟨14,m9,bm (λ_=>⟨m9,Sp.refl _⟩) λe=>n5⟩
theorem WX(a:ByteArray):aj xT 35 #[xL eH,xM a] h λv h'=>v=xJ xP 14/\Sp h h' []:=by refine nH eH a (EO (aS (λ_=>⟨m9,Sp.refl h⟩) λe=>n5))
theorem WY(x:bc):aj xT 18 #[xL eH,cC x] h λv h'=>v=xJ xP 14/\Sp h h' []:=by refine ts Tryz.func18 ?_ (F8 (F8 (G0 [] [(4,5),(11,25)] (F8 (F8 (F8 (G0 [] [(4,5),(34,44)] E6))))))) (args:=[(eH:bx),x]);refine(Sp.refl h).boxed λc b a=>EO (aS (λ_=>⟨m9,a.bs []⟩) λe=>n5)
theorem abx:aj xT 36 #[xL eH] h λv h'=>v=xK eH 0 0/\Sp h h' []:=by refine lT eH (EO (aS (λ_=>⟨m9,Sp.refl h⟩) λe=>n5))
theorem Ri:aj xT 38 #[xL eH] h λv h'=>v=xK eH 0 0/\h'=h:=by refine pf eH (aS (λ_=>⟨m9,m9⟩) λe=>n5)
theorem Zl(o b:Int):aj xT 22 #[xL eH,xJ xP o,xJ xP b] h λv h'=>v=xK eH 0 0/\Sp h h' []:=by refine ts Tryz.func22 ?_ (F8 (F8 (E5 (F8 (E7 (E8 [(7,bJ),(16,aI)] [(7,8),(9,11),(12,13),(16,47)] (F8 (F8 (E5 (E7 (F8 (F8 (F9 [(10,bJ),(32,aI)] [(10,11),(12,13),(32,42)])))) E6)))))) E6)));refine Ri.mono ?_;rintro _ a ⟨rfl,rfl⟩;refine⟨⟨eH,0,0⟩,m9,?_⟩;refine ak (λ_:Unit=>((⟨eH,0,0⟩:Sl),(0:Int))) (λ_ h'=>h'=a) (λ_=>0) () m9 m9 ?_;rintro _ c rfl;exact ae (λe=>absurd e nq) λ_=>⟨m9,Sp.refl _⟩
theorem Zm:aj xT 15 #[xL eH] h λv h'=>v=xL eH/\h'=h:=by refine oC eH (aS (λ_=>⟨m9,m9⟩) λe=>n5)
theorem Zn(k:Int):aj xT 26 #[xL eH,xJ xP k] h λv h'=>v=xL eH/\h'=h:=by refine lG eH k (aE (aS (λ_=>⟨m9,m9⟩) λe=>n5))
abbrev Eb:bc:=(0,0,0,0,0,0,⟨eH,0,0⟩,⟨eH,0,0⟩)
abbrev Ip:aB:=⟨0,0,(0,0,0),0,[],[]⟩
theorem Rj:cv h Eb Ip:=⟨m9,m9,m9,m9,⟨m9,λi x a=>(by simp at a)⟩,⟨[],⟨m9,λi x a=>(by simp at a)⟩,m9,λi r l b=>(by simp at b)⟩,qj _,qj _⟩
theorem Rl:bM Ip:=⟨nq,nq,λe a=>C2⟩
theorem aby:bF Ip=eR:=oi
theorem Rm:aj xT 25 #[xL eH] h λv h'=>v=cC Eb/\Sp h h' []:=by
 refine ts Tryz.func25 ?_;refine(Sp.refl h).alloc ag m9 λf d b=>aS (λ_=>?_) λe=>n5
 refine b.storeAll ag 0 m9 m9 (aD Eb) m9 m9 m9 m9 λc a=>?_;exact⟨Eb,(a.box 0 m9).aw _ m9,m9,a.bs []⟩
variable {B:ar} {h0:hY} {As:List HP} {a pw a2 pw2:fY} {offs:Int} {da da2:List bx} {w:Pow} {ds:aG} {m:aB}
theorem Oi{b:aR}{p:bx}(k:Int)(c:bQ h a 105 b)(f:0<=k/\k<64)(d:b[10+k.toNat]?=dB (.pointer p)):aj xT 26 #[xL (dB a),xJ xP k] h λv h'=>v=.pointer p/\h'=h:=by refine lG (dB a) k (aE (aS (λe=>n5) λ_=>ae (λe=>absurd e nb) λ_=>ae (λe=>absurd e nb) λ_=>?_));refine⟨a,m9,⟨nb,nb⟩,p,?_,m9,m9⟩;rw[zG];exact c.mh 10 k.toNat d
theorem Oj(x:bc)(m:aB)(l:Int)(v:Sl)(p q:bx)(h:hY)(j:cv h x m)(k:bF m=eL)(u:Rd h v 1 BY [p,q])(o:bQ h pw 107 (powC w l)):
  aj xT 24 #[cC x,xL (dB pw),v] h λr h'=>∃(a:fY) (y:bc),r=xL (dB a)/\Sp h h' [an a 105 (cP (aD y) pw w.offs (p::q::qf 62 eH))]:=by
 refine ts Tryz.func24 ?_ (F8 (G0 [] [(6,7),(8,15)] E6)) (args:=[x,(dB pw),v]);have i:=iA k;refine(Sp.refl h).boxed λG A g=>?_;refine aE ⟨x,(g.box 0 m9).aw _ m9,(un x m A (j.up g.ac) i).G7 λB D=>?_⟩;have d:=g.comp D;refine⟨_,m9,aH (λe=>by rw[k]at e;cases e) λ_=>aS (λe=>n5) λ_=>?_⟩;refine⟨x,(d.box 0 m9).aw _ m9,(BG x m B (j.up d.ac) i).Hf λy h3 z=>?_⟩;have s:=d.comp z;refine⟨y,m9,(vl l (o.ac s.ac o.lt)).G6 ?_⟩;refine⟨_,m9,_,JV y pw w.offs,s.boxed λa9 F f=>?_⟩;have c:(Value.agg (cP (aD y) pw w.offs (qf 64 eH)).toArray).cells.toList=cP (aD y) pw w.offs (qf 64 eH):=o1
 have b:∀p q:bx,cP (aD y) pw w.offs (p::q::qf 62 eH)=(aD y++[xL (dB pw),xJ xP w.offs])++[p,q].flatMap BY++(qf 62 (eH:bx)).flatMap BY:=λp q=>by
  rw[TN,qL];simp only[List.flatMap_cons,List.flatMap_nil,qL,ql]
 rw[c,show qf 64 (eH:bx)=eH::eH::qf 62 eH from rfl,b]at f;refine⟨a9,m9,?_⟩;refine f.Gr ag 2 m9 adz (λ_=>rfl) (Seq.up u f.ac) m9 abn m9 nq λE t=>?_;rw[<-b]at t;exact⟨a9,y,m9,t.bs [2]⟩
theorem Ol(x:bc)(m:aB)(p:bx)(v:Sl)(h:hY)(f:cv h x m)(d:bM m)(a:bF m=eR∨p=eH):
  aj xT 24 #[cC x,.pointer p,v] h λr h'=>r=xL eH/\Sp h h' []:=by
 refine ts Tryz.func24 ?_ (F8 (G0 [] [(6,7),(8,15)] E6)) (args:=[x,p,v]);refine(Sp.refl h).boxed λl g b=>?_;refine aE ⟨x,(b.box 0 m9).aw _ m9,(un x m g (f.up b.ac) d).G7 λk j=>?_⟩;have c:=b.up j.ac;refine⟨_,m9,aH (λ_=>⟨m9,c.bs []⟩) λe=>aS (λ_=>⟨m9,c.bs []⟩) λi=>?_⟩;rcases a with a|rfl
 .rw[a]at e;cases e
 .cases i
theorem WZ(H:aa B h0 h (fv a pw da offs w ds m::As)):aj xT 29 #[xL (dB pw)] h λv h'=>v=.tuple #[]/\aa B h0 h' (fv a pw da offs w.again ds m::As):=by obtain⟨x,H⟩:=fP H;obtain⟨ok,c⟩:=H.gM;refine(TO (c.aF 2 [1,0])).mono ?_;rintro _ h' ⟨rfl,b⟩;exact⟨m9,mb ((b.aF 2 [1,0]).je ok)⟩
theorem Qb(H:aa B h0 h (fL a w::As)):aj xT 30 #[xL (dB a)] h λv h'=>v=.tuple #[]/\aa B h0 h' (fL a w.again::As):=by obtain⟨l,g,d⟩:=H.iV;refine ts Tryz.func30 ?_;refine⟨a,m9,d.gO ag 0 m9 m9 [xN eR] m9 m9 m9 n4 λi b=>?_⟩;refine⟨a,m9,b.store ag 0 m9 m9 1 [xN eR] m9 m9 m9 t6 λh3 c=>?_⟩;refine⟨a,m9,c.store ag 0 m9 m9 2 [xJ xP 0] m9 m9 m9 t6 λj f=>⟨m9,?_⟩⟩;exact aa.kV (w:=w.again) (l:=0) (λk e=>n5) f
theorem Xa(H:aa B h0 h (gN a pw da offs w ds m::As)):aj xT 30 #[xL (dB pw)] h λv h'=>v=.tuple #[]/\aa B h0 h' (gN a pw da offs w.again ds m::As):=by obtain⟨x,H⟩:=jl H;obtain⟨ok,c⟩:=H.gM;refine(Qb (c.aF 2 [1,0])).mono ?_;rintro _ h' ⟨rfl,b⟩;exact⟨m9,na ((b.aF 2 [1,0]).je ok)⟩
theorem Zo(H:aa B h0 h (gN a pw da offs w ds m::As)):aj xT 28 #[xL (dB pw)] h λv h'=>v=xN w.step.1/\aa B h0 h' (gN a pw da offs w.step.2 ds m::As):=by obtain⟨x,H⟩:=jl H;obtain⟨ok,c⟩:=H.gM;refine(sZ (c.aF 2 [1,0])).mono ?_;rintro _ h' ⟨rfl,b⟩;exact⟨m9,na ((b.aF 2 [1,0]).je ok)⟩
theorem abz(z:bc)(n:aB)(e:St B h0 As λh=>cv h z n)(c:bF m=eL)(b:bM n)(H:aa B h0 h (fv a pw da offs w ds m::As)):
  aj xT 18 #[xL (dB a),cC z] h λv h'=>v=xJ xP (cm m offs w ds n).1/\aa B h0 h' (fv a pw da offs (cm m offs w ds n).2.2.1 (cm m offs w ds n).2.2.2 (cm m offs w ds n).2.1::As):=by
 obtain⟨x,H⟩:=fP H;obtain⟨f,_⟩:=(iC m).1 ((cM m).1 c).1;refine(Fk x m z n e (iA c) b nb H).mono ?_;rintro _ h' ⟨rfl,y,d⟩;exact⟨m9,mb d⟩
theorem Cf(s1:Sl)(c:aC)(s2:Sl)(l:aC)(u:Int)(x:sH)(h:hY)(b3:Rd h s1 1 av c)(b1:Rd h s2 1 av l)(q:aT)(P:Rd h x.2.2.1 1 aq q)(b2:x.2.2.1.len<=x.2.2.1.cap):
  aj xT 5 #[s1,s2,xJ xP u,Fo x] h λv h'=>v=xN eL/\Sp h h' []:=by
 refine pB s1 s2 u x ?_;have eo:=P.len;refine(Sp.refl h).boxed λa1 h1 O=>?_;have wk:∀{h':hY} {Bs:List HP},Sp h h' Bs->jZ xT 7 #[] (.one (.sc .bool)) h' λr a6=>Value.bool r=xN eL/\Sp h a6 []:=λ{h' Bs} H'=>by
  refine(NN h').G7 λa6 R=>⟨eL,m9,m9,.zip (H'.up R.ac).ac⟩
 refine bn (λ(_:Unit) h'=>m8 q<=500/\x.2.1.size<=20/\h1=h') ?_ ?_
 .exact⟨x.2.2.1,(O.box 0 m9).cell m9,ae (λ_=>wk O) λe1=>⟨x.2.1,(O.box 0 m9).cell m9,ae (λ_=>wk O) λe2=>⟨nb,nb,m9⟩⟩⟩
 rintro _ _ ⟨hd,hn,rfl⟩;refine(WW s1 c h1 (b3.up O.ac)).mono ?_;rintro _ h5 ⟨Q1,Q0⟩;by_cases e0:iX (dD c) (sE c) (jY c)=0
 rotate_left
 .obtain⟨rfl,R5⟩:=Q1 e0;exact⟨(eH,eH),m9,aE (aE (aS (λ_=>aS (λ_=>aS (λ_=>aS (λ_=>wk (O.up R5.ac)) λe=>n5) λe=>n5) λe=>n5) λe=>n5))⟩
 obtain⟨a,a2,pw,pw2,y,y2,da,da2,rfl,R5⟩:=Q0 e0;have e8:=Gm c;have f8:=Jk c;have k:bF (Ce c)=eL:=YH nb e0;have K:=((iC _).1 ((cM _).1 k).1).2.2.1;obtain⟨m,d6⟩:=HF (Ce c)
 rw[<-d6]at k K R5;have H5:=mb (aa.bs (na ((O.comp R5).bs [3,4,1,2,0])) [1,2,0,3]);refine⟨(dB a,dB a2),m9,aE (aE (aS (λe=>n5) λ_=>aS (λe=>n5) λ_=>?_))⟩;refine(BR k H5).Hf λz h9 R9=>?_;have H9:=H5.bS R9;refine⟨z,m9,(oI (H9.aF 4 [1,0,2,3])).G6 ?_⟩;refine⟨_,m9,(sa 0 (H9.aF 4 [1,0,2,3])).G6 ?_⟩;refine⟨_,m9,(sa 1 (H9.aF 4 [1,0,2,3])).G6 ?_⟩;refine⟨_,m9,H9.lit ag BY adz m9 [cT da 0,cT da 1] m9 (show 2*1<=2^20 by decide) n9 λbq c6 D=>?_⟩;obtain⟨y3,Hc⟩:=fP (D.bs [1,2]);obtain⟨lp,_,ef⟩:=aa.IX Hc;refine(Oj z m lp bq (cT da 0) (cT da 1) c6 (D.at 0 m9) k (D.seq 4 m9 λ_=>rfl) ef).mono ?_;rintro _ f0 ⟨d1,y4,rfl,c0⟩;have s:=(D.comp c0).bs [1,2,3,5];refine⟨dB d1,m9,bn (λ_ h'=>Sp h h' [fv a pw da 0 Pow.new (xX c) m,gN a2 pw2 da2 0 Pow.new (xX c) m,an a1 44 (gY x)]) ?_ ?_⟩
 .refine aS (λe=>n5) λ_=>?_;refine(Oi 0 (s.box 3 m9) nq m9).G6 ⟨cT da 0,m9,(sa 0 s).G6 ?_⟩;refine⟨cT da 0,m9,eR,aeF _,aS (λe=>n5) λ_=>?_⟩;refine(Oi (p:=eH) 2 (s.box 3 m9) nq m9).G6 ⟨eH,m9,aH (λe=>n5) λ_=>(oI s).G6 ?_⟩;refine⟨dB pw,m9,(Ol Eb Ip (dB pw) ⟨eH,0,0⟩ _ Rj Rl (.inl aby)).G7 λf2 b7=>?_⟩;have a8:=s.up b7.ac;refine⟨eH,m9,aH (λe=>n5) λ_=>(BR k a8).Hf λz2 gi d2=>?_⟩;have a5:=a8.bS d2;refine⟨z2,m9,(Ol z2 m eH ⟨eH,0,0⟩ _ (a5.at 0 m9) (iA k) (.inr m9)).G7 λfr eb=>?_⟩;exact⟨eH,m9,aH (λe=>n5) λ_=>(a5.up eb.ac).bs [1,2,3]⟩
 rintro _ ay W;obtain⟨y5,Hy⟩:=jl (W.bs [1,0,2]);have dk:(y5.2.2.1,y5.2.2.2.1,y5.2.2.2.2.1)=m.p:=(Hy.at 1 rfl:cv ay y5 m).p;have M:=(aa.cU Hy).2;refine⟨a2,m9,m.p,?_,(PW m.p s2 l 4 eR ay K (b1.up W.ac) nq).mono ?_⟩
 .rw[<-dk];exact⟨by rw[addr_add];exact M.cell m9,by rw[addr_add];exact M.cell m9,by rw[addr_add];exact M.cell m9,I0⟩
 rintro _ e7 ⟨r,L,rfl,c7,hL,cc⟩;obtain⟨ys,S⟩:=(W.comp cc).FI 3 rfl λ_=>rfl;have f6:=(S.dv 3 m9).1.len;have f4:=(S.dv 3 m9).2.1;refine⟨r,m9,?_⟩;refine ak (λi:Nat=>(i:Int)) (λi h'=>i<=m8 L/\∃(ds:aG) (m:aB),bF m=eL/\Sp h h' [fv a pw da 0 Pow.new ds m,gN a2 pw2 da2 0 Pow.new ds m,an a1 44 (gY x),cB jE 9 gY r ys L]) (λi=>m8 L-i) 0 m9 ⟨qW _,xX c,m,k,S⟩ ?_;rintro i e3 ⟨hi,ds,j,f,o⟩
 try dsimp only
 refine ae (λe=>?_) λe=>?_
 .have X:i<m8 L:=nb
  have c1:=o.dv 3 m9;obtain⟨H,al⟩:=HF (ys[i]'nb)
  obtain⟨b,hb⟩:=HF (L[i])
  have bb:∀{h':hY},gE jE 9 gY h' r ys L->fm jE h' H b:=λF=>by rw[al,hb];exact Fix.row F X
  refine c1.1.cQ (g:=gY) i m9 nb H (by rw[al]) ?_;refine o.alloc ag m9 λea fu d7=>?_;refine d7.storeAll ag 4 m9 m9 (gY H) m9 m9 m9 m9 λe5 ab=>?_;have N:km m.p b:=by
   rcases c7 b (by rw[hb];exact qe X)with hh|⟨hh,_⟩
   .exact hh
   .cases hh
  have ci:b.kind≠12:=by unfold km at N;rcases N with h|h|h|h|h|h|h|h|h<;>omega
  refine⟨H,(ab.box 4 m9).aw _ m9,?_⟩;refine(Qa H b (As:=[an a1 44 (gY x),cB jE 9 gY r ys L,an ea 44 (gY H)]) (St.dS 1 m9 λh' P=>bb P) (km.sm K N) f ab).G7 λf5 ⟨w2,cp,m2,bl,Q,br⟩=>?_;have Q:=Q ci Gi;subst Q;exact⟨eL,m9,aH (λe=>n5) λ_=>⟨i+1,n7,⟨X,cp,m2,bl,aa.bs br [0,1,2,3]⟩,nb⟩⟩
 have o:=o.bs [0,1,2];refine(oI o).G6 ⟨dB pw,m9,(QY 0 nq o).G7 λf7 a7=>?_⟩;refine⟨(),m9,a2,m9,dB pw2,EN (a7.aF 3 [1,0,2]),(Rh 0 nq (a7.aF 3 [1,0,2])).G7 λgl E=>?_⟩;have E:=E.aF 3 [1,0,2];refine⟨(),m9,bn (λ_ h'=>Sp h h' [fv a pw da 0 (Pow.new.arm 0).step.2 ds j,gN a2 pw2 da2 0 (Pow.new.arm 0).step.2 ds j,an a1 44 (gY x)]) ?_ ?_⟩
 .refine(oI E).G6 ⟨dB pw,m9,(YY E).G7 λek a4=>?_⟩;refine⟨eR,m9,aS (λe=>n5) λ_=>⟨a2,m9,dB pw2,EN (a4.aF 3 [1,0,2]),(Zo (a4.aF 3 [1,0,2])).G7 λe4 c2=>?_⟩⟩;exact⟨eR,m9,aS (λe=>n5) λ_=>c2.aF 3 [1,0,2]⟩
 rintro _ cr U;refine bn (λ_ h'=>∃w,gy w 0=eL/\Sp h h' [fv a pw da 0 w ds j,gN a2 pw2 da2 0 w ds j,an a1 44 (gY x)]) ?_ ?_
 .refine(bT u 2 cr).G6 ⟨_,m9,aZ (λ_=>?_) λ_=>⟨_,nq,U⟩⟩;refine(oI U).G6 ⟨dB pw,m9,(WZ U).G7 λew a0=>?_⟩;refine⟨(),m9,a2,m9,dB pw2,EN (a0.aF 3 [1,0,2]),(Xa (a0.aF 3 [1,0,2])).G7 λg0 ej=>?_⟩;exact⟨(),m9,_,nq,ej.aF 3 [1,0,2]⟩
 rintro _ ep ⟨w,I,Z⟩;have c5:=Z.box 2 m9;have eg:∀d,iH j 0 w ds d=([],14):=λd=>by unfold iH;rw[hZ I]
 have es:∀d,gj j 0 w ds d=((0,0,0),14):=λd=>by unfold gj;rw[hZ I]
 have eu:∀d b,ez j 0 w ds d b=(14,j,w,ds):=λd b=>by unfold ez dI;rw[hZ (by rw[hZ I];decide),hZ I]
 have ed:∀d,cA j 0 w ds d=(14,j,w,ds):=λd=>by unfold cA;rw[hZ I]
 have ec:∀n,cm j 0 w ds n=(14,j,w,ds):=λn=>by unfold cm;rw[hZ I]
 have en:kN j 0 w=[]:=by unfold kN;rw[hZ I]
 refine⟨x.2.1,c5.cell m9,(Of x.2.1 f Z).Hf λcn f9 dd=>?_⟩;rw[eg];have Y:=Z.up dd.ac;refine⟨(cn,14),m9,x.2.1,(Y.box 2 m9).cell m9,(Ky x.2.1 f Y).Hf λt eh cu=>?_⟩;rw[es];have d4:=Y.up cu.ac;refine⟨((0,0,0,t),14),m9,(Sp.refl eh).alloc ag m9 λfy g1 c4=>?_⟩;refine c4.storeAll ag 0 m9 m9 (lM (0,0,0) t) m9 m9 m9 m9 λgd cf=>?_;have G:=d4.up cf.ac;refine bn (λ_ h'=>Sp h h' [fv a pw da 0 w ds j,gN a2 pw2 da2 0 w ds j,an a1 44 (gY x)]) ?_ ?_
 .refine(YL G).G6 ?_;rw[I];refine⟨eL,m9,aH (λe=>n5) λ_=>⟨x.2.1,(G.box 2 m9).cell m9,x.2.2.1,(G.box 2 m9).cell m9,?_⟩⟩;refine(QQ x.2.1 x.2.2.1 q (St.base P λh' hp=>Seq.up P hp) b2 nb f nb G).G7 λf3 T=>?_;rw[eu]at T⊢;refine⟨14,m9,bm (λe=>absurd m9 e) λ_=>bm (λe=>absurd m9 e) λ_=>bm (λe=>absurd m9 e) λ_=>⟨x.2.1,(T.box 2 m9).cell m9,(HX x.2.1 f T).G7 λfq J=>?_⟩⟩;rw[ed]at J⊢;refine⟨14,m9,bm (λe=>absurd m9 e) λ_=>(BR f J).Hf λz3 gs cb=>?_⟩;have cq:=(J.bS cb).aF 4 [1,0,2,3];refine⟨z3,m9,(abz z3 j (St.dS (A:=bo z3 j) 0 m9 λh' P=>P) f (iA f) cq).G7 λeq B=>?_⟩;rw[ec]at B⊢;have B:=B.aF 4 [0,2,3];refine⟨14,m9,bm (λe=>absurd m9 e) λ_=>(NO f B).Hf λd5 et V=>?_⟩;rw[en]at V;have a9:=(V.own 0 m9).len;have am:=B.up V.ac;refine⟨d5,m9,bm (λe=>absurd (by rw[a9];rfl) e) λ_=>(WU f am).G7 λfa d3=>?_⟩;exact⟨eL,m9,aH (λe=>n5) λ_=>am.up d3.ac⟩
 rintro _ fn ax;refine⟨x.2.1,(ax.box 2 m9).cell m9,(adH x.2.1).G7 λfs bk=>?_⟩;have ao:=ax.up bk.ac;refine⟨(⟨eH,0,0⟩,14),m9,x.2.1,(ao.box 2 m9).cell m9,(abw x.2.1).G7 λer d0=>?_⟩;have dy:=ao.up d0.ac;refine⟨((0,0,0,⟨eH,0,0⟩),14),m9,(adI 1 eH).G7 λfz cs=>?_⟩;have ah:=dy.up cs.ac;refine⟨(),m9,x.2.1,(ah.box 2 m9).cell m9,(adJ x.2.1 ⟨eH,0,0⟩).G7 λfb c8=>?_⟩;have ca:=ah.up c8.ac;refine⟨14,m9,aZ (λ_=>aZ (λ_=>aZ (λ_=>?_) λe=>absurd m9 e) λe=>absurd m9 e) λe=>absurd m9 e⟩;refine(WX _).G7 λe9 ei=>?_;have ap:=ca.up ei.ac;refine⟨14,m9,aZ (λ_=>(BR f ap).mono ?_) λe=>absurd m9 e⟩;rintro _ gk ⟨z4,rfl,b0⟩;have b5:=ap.up b0.ac;refine⟨z4,m9,(WY z4).G7 λgt dr=>?_⟩;have b9:=b5.up dr.ac;refine⟨14,m9,aZ (λ_=>abx.mono ?_) λe=>absurd m9 e⟩;rintro _ el ⟨rfl,d9⟩;have cy:=b9.up d9.ac;refine⟨⟨eH,0,0⟩,m9,Ri.mono ?_⟩;rintro _ _ ⟨rfl,rfl⟩;refine⟨⟨eH,0,0⟩,m9,(Zl 0 0).G7 λf1 b4=>?_⟩;have cd:=cy.up b4.ac;refine⟨⟨eH,0,0⟩,m9,aZ (λ_=>Zm.mono ?_) λe=>absurd m9 e⟩;rintro _ _ ⟨rfl,rfl⟩;refine⟨eH,m9,aS (λ_=>(Zn 0).mono ?_) λe=>n5⟩;rintro _ _ ⟨rfl,rfl⟩;refine⟨eH,m9,aS (λ_=>Rm.mono ?_) λe=>n5⟩;rintro _ e6 ⟨rfl,b6⟩;have c9:=cd.up b6.ac;refine⟨Eb,m9,aZ (λ_=>Rm.mono ?_) λe=>absurd m9 e⟩;rintro _ dx ⟨rfl,d8⟩;have du:=c9.up d8.ac;refine⟨Eb,m9,(lV Eb Ip dx Rj Rl).Hf λad fi a3=>?_⟩;have bd:ad.len=0:=by have:=(aa.lC a3).1;rw[this];decide+kernel
 refine⟨ad,m9,aZ (λ_=>wk (du.up a3.ac)) λe=>absurd (by rw[bd];rfl) e⟩
theorem Ec(i:Sl)(c:aC)(e:Sl)(l:aC)(d:Int)(x:sH)(h:hY)(j:Rd h i 1 av c)(f:Rd h e 1 av l)(q:aT)(k:Rd h x.2.2.1 1 aq q)(g:x.2.2.1.len<=x.2.2.1.cap):
  aj xT 5 #[i,e,xJ xP d,Fo x] h λv h'=>v=xN eL/\aQ (λb=>b<h.size) h h':=
 (Cf i c e l d x h j f q k g).mono λ_ _ ⟨a,b⟩=>⟨a,b.ac⟩
end
section
open Go.RowKit Go.ChangeShapes Go.WideShapes Go.Joins Go.Deep
section
variable {H:Type} {enc:TypeId×Value->H} {P:Program} {W W':World}
def Om:List Field->List (Nat×Nat)->Bool
 |[],[]=>eL
 |f::fs,x::xs=>wo f.offset x.1&&wo f.type x.2&&Om fs xs
 |_,_=>eR
def Ba(P:Program)(t:TypeId)(n:Nat)(l:List (Nat×Nat)):Bool:=
 match P.underlying t with
 |some (.struct ⟨fs⟩)=>Om fs l&&wo (P.cellsOf t) n
 |_=>eR
theorem Xb:∀{a:List Field} {l:List (Nat×Nat)},Om a l=eL->∀(i:Nat) (x:Nat×Nat),l[i]?=dB x->∃f:Field,a[i]?=dB f/\f.offset=x.1/\f.type=x.2
 |[],[],_,i,x,h=>C9
 |f::a,y::l,h,0,x,hx=>by
  simp only[Om,qz]at h;simp at hx;subst hx;exact⟨f,m9,zu h.1.1,zu h.1.2⟩
 |f::a,y::l,h,i+1,x,hx=>by
  simp only[Om,qz]at h;exact Xb h.2 i x hx
theorem Qc{t:TypeId}{n b:Nat}{l:List (Nat×Nat)}{c:aR}{x:DataW H×List MemPlace}(a:Ba P t n l=eL)(h:DataW.trod enc P W 0 (λ_=>eL) eL b t c=dB x):
  c.length=n/\∃m,∀(i o u:Nat),l[i]?=dB (o,u)->∃y,DataW.trod enc P W 0 (λ_=>eL) eL m u ((c.drop o).take (P.cellsOf u))=dB y:=by
 unfold Ba at a;split at a
 .rename_i r p;simp only[qz]at a;obtain⟨xs,m,_,_,g,j,k⟩:=DataW.trod_struct p h;refine⟨g.trans (zu a.2),m,λi o u q=>?_⟩;obtain⟨f,e,rfl,rfl⟩:=Xb a.1 i _ q;have d:i<m8 xs:=by rw[j];exact(List.getElem?_eq_some_iff.1 e).1
  exact⟨xs[i],by rw[k i f o7,qc d]⟩
 .cases a
theorem aeh{α:Type}{l:List α}(h:m8 l=9):∃e b g c3 i c f a d,l=[e,b,g,c3,i,c,f,a,d]:=by
 match l,h with
 |[e,b,g,c3,i,c,f,a,d],_=>exact⟨e,b,g,c3,i,c,f,a,d,m9⟩
theorem Xc{v:Value}{n:Nat}{r:_root_.Go.Reach}{c:Nat}{t:TypeId}{l:List (Nat×Nat)}(b:Ba P t n l=eL)(d:Value.okWide P W r c t v):∃a:aR,v=xO a.toArray/\(Value.cells v).toList=a:=by
 unfold Ba at b;split at b
 .rename_i f e;obtain⟨a,rfl,_⟩:=okWide_struct e d;exact⟨a.toList,n4,o1⟩
 .cases b
theorem Iq{t e:TypeId}{n:Nat}{v:Value}{x:DataW H×List MemPlace}(a:P.underlying t=dB (.slice e))(g:P.underlying e=dB (.int .i64))(i:P.cellsOf e=1)
  (h:DataW.trod enc P W 0 (λ_=>eL) eL n t [v]=dB x):∃(s:Sl) (l:aC),v=s/\Seq W.heap (λb=>b<W.heap.size) s 1 av l/\s.len<=s.cap:=by
 obtain⟨p,l,c,f⟩:=slice_form a h;simp at f;subst f;exact Vd (d:=x.1) (ps:=x.2) a g i ⟨_,_,_,m9⟩ ⟨n,by simpa[Value.cells]using h⟩
theorem Qd{t e:TypeId}{n:Nat}{v:Value}{x:DataW H×List MemPlace}(a:P.underlying t=dB (.slice e))(g:P.underlying e=dB (.int .u8))(i:P.cellsOf e=1)
  (h:DataW.trod enc P W 0 (λ_=>eL) eL n t [v]=dB x):∃(s:Sl) (l:aT),v=s/\Seq W.heap (λb=>b<W.heap.size) s 1 aq l/\s.len<=s.cap:=by
 obtain⟨p,l,c,f⟩:=slice_form a h;simp at f;subst f;exact Vb (d:=x.1) (ps:=x.2) a g i ⟨_,_,_,m9⟩ ⟨n,by simpa[Value.cells]using h⟩
theorem abA{r:_root_.Go.Reach}{T:Nat}{i s b y u q t:TypeId}{v:Value}{d:DataW H}{p:List MemPlace}(c:P.underlying i=dB (.int .i64))(f:P.cellsOf i=1)(N:P.underlying s=dB .string)(cs:P.cellsOf s=1)(X:P.underlying b=dB (.slice y))(Z:P.cellsOf b=1)(fy:P.underlying y=dB (.int .u8))(cy:P.cellsOf y=1)(fu:P.underlying u=dB (.int .u32))(cu:P.cellsOf u=1)(x:P.underlying q=dB (.slice i))(cq:P.cellsOf q=1)
  (j:Ba P t 9 [(0,i),(1,s),(2,b),(3,i),(4,i),(5,i),(6,u),(7,q),(8,q)]=eL)
  (hv:Value.okWide P W r T t v) (h:DataW.Trod enc P W 0 (λ_=>eL) eL t v d p):∃(z:sH) (l:aT) (ks us:aC),v=Fo z/\(Seq W.heap (λb=>b<W.heap.size) z.2.2.1 1 aq l/\z.2.2.1.len<=z.2.2.1.cap)/\Seq W.heap (λb=>b<W.heap.size) z.2.2.2.2.2.2.2.1 1 av ks/\Seq W.heap (λb=>b<W.heap.size) z.2.2.2.2.2.2.2.2 1 av us:=by
 obtain⟨I,h⟩:=h;obtain⟨cc,rfl,e⟩:=Xc j hv;rw[e]at h;obtain⟨hl,m,a⟩:=Qc j h;obtain⟨c0,c1,V,c3,c4,c5,c6,Y,R,rfl⟩:=aeh hl;obtain⟨_,w⟩:=a 0 0 i rfl;obtain⟨_,o⟩:=a 1 1 s rfl;obtain⟨_,A⟩:=a 2 2 b rfl;obtain⟨_,M⟩:=a 3 3 i rfl;obtain⟨_,L⟩:=a 4 4 i rfl;obtain⟨_,n⟩:=a 5 5 i rfl;obtain⟨_,J⟩:=a 6 6 u rfl;obtain⟨_,g⟩:=a 7 7 q rfl;obtain⟨_,F⟩:=a 8 8 q rfl;rw[f]at w M L n;rw[cs]at o;rw[Z]at A;rw[cu]at J;rw[cq]at g F;obtain⟨x0,D,_⟩:=DataW.trod_int c w;obtain⟨x1,k,_⟩:=DataW.trod_string N o;obtain⟨x2,l2,e2,r2,k2⟩:=Qd X fy cy (v:=V) (by simpa using A);obtain⟨x3,E,_⟩:=DataW.trod_int c M;obtain⟨O,K,_⟩:=DataW.trod_int c L;obtain⟨x5,G,_⟩:=DataW.trod_int c n;obtain⟨x6,B,_⟩:=DataW.trod_int fu J;obtain⟨x7,U,e7,r7,_⟩:=Iq x c f (v:=Y) C7;obtain⟨Q,l8,S,r8,_⟩:=Iq x c f (v:=R) (by simpa using F);simp at D k E K G B;subst D k e2 E K G B e7 S;exact⟨(x0,x1,x2,x3,O,x5,x6,x7,Q),l2,U,l8,m9,⟨r2,k2⟩,r7,r8⟩
end
end
end Go.Qw
