/- Lemmas for the proof of the law; no condition. -/
import Derived.Test.YtmobnmonkaacaaaGreatDoorKF
set_option maxHeartbeats 2000000
set_option linter.unusedVariables false
set_option maxHeartbeats 8000000
set_option linter.unusedSimpArgs false
open Go.Proofs.Tryz renaming prog -> xR
open Go.Value renaming agg -> xM, bool -> xL, int -> xH, pointer -> xJ, slice -> xI, string -> xK
open Go.IntKind renaming bits -> qq, i64 -> xN, signed -> yA, u32 -> xP, u8 -> xO, wrap -> qc
open List renaming drop -> wS, map_set -> xE, range -> qy, replicate -> qh, take -> yp
open Nat renaming not_lt_zero -> xt
open Int renaming fdiv -> zo
open Go.Builtin renaming append_ -> q6
open Prod renaming fst -> qA, snd -> zh
set_option maxRecDepth 100000
open Option renaming some -> dB, none -> eH
open Bool renaming true -> eX
open Go renaming Addr -> hU
open Go.Qw renaming Heap -> m5
open List renaming length -> n4
open Go.Qw.cg renaming two -> G0, n -> G6, inn -> G7, loop -> G9, join -> Hf, tn -> HF, lp -> I0, jn -> I1
namespace Go.Qw
open Go.Proofs
theorem BX(p:Pm)(seed:Int)(h:m5):ak xR 116 #[go p,xH xP seed] h λv h'=>v=xL (fy p seed (fh p))/\Sp h h' []:=by
 refine ts Tryz.func116 ?_ (HF (HF (G0 (Hf [(5,bK)] [(5,21)] (HF (G7 (G9 [(5,bK),(6,aI)] [(5,21)] (I1 [] [(7,15)] G6))))) G6))) (args:=[p,(xH xP (seed:Int))]);refine(Sp.refl h).boxed λa g A=>?_;refine bs (λ(s:Sl) h'=>∃l:aC,fy p seed l=fy p seed (fh p)/\l.length<=16/\Sp h h' [an a 24 [xH xN p.1,xH xN p.2.1,xH xN p.2.2],ai 3 s 1 ar l]) ?_ ?_
 .refine aj (λt:Sl×Nat=>(t.1,(t.2:Int))) (λt h'=>(t.2:Int)<=max 0 p.1/\(bH p=false->t.2=0)/\Sp h h' [an a 24 [xH xN p.1,xH xN p.2.1,xH xN p.2.2],ai 3 t.1 1 ar (upto t.2)]) (λt=>p.1.toNat-t.2) (⟨eH,0,0⟩,0) n5 ⟨oi,λ_=>rfl,A.nil 3 1 ar⟩ ?_;rintro⟨s,k⟩ i ⟨B,m,c⟩;dsimp only at*;have d:bH p=eX->k<=16:=λb=>by have:=(bI p).1 b;omega
  have f:k<=16:=by
   cases b:bH p with
   |true=>exact d b
   |false=>have:=m b;omega
  have fin:∀h',(bH p=false∨¬(k:Int)<p.1)->Sp h h' [an a 24 [xH xN p.1,xH xN p.2.1,xH xN p.2.2],ai 3 s 1 ar (upto k)]->∃l:aC,fy p seed l=fy p seed (fh p)/\l.length<=16/\Sp h h' [an a 24 [xH xN p.1,xH xN p.2.1,xH xN p.2.2],ai 3 s 1 ar l]:=λh' z H=>by
   refine⟨upto k,?_,by rw[ft];exact f,H⟩;cases b:bH p with
   |false=>rw[fy,fy,b];rfl
   |true=>
    have:=(bI p).1 b;have y:¬(k:Int)<p.1:=by
     rcases z with g|g
     .rw[b]at g;cases g
     .exact g
    rw[fh,show(max 0 (min p.1 16)).toNat=k by omega]
  refine aE ⟨p.1,(c.box 0 n5).cell0 n5,?_⟩;refine ae (λe=>?_) λe=>fin i (.inr e) c;refine⟨p,(c.box 0 n5).aw _ n5,(dS p i).mono ?_⟩;rintro v h3 ⟨rfl,j⟩;have r:Sp h h3 [an a 24 [xH xN p.1,xH xN p.2.1,xH xN p.2.2],ai 3 s 1 ar (upto k)]:=c.up j.ac;refine⟨_,n5,aT (λb=>?_) λb=>fin h3 (.inl b) r⟩;have:=(bI p).1 b;refine r.push ag 1 n5 fu n5 n8 (λ_=>rfl) db (k:Int) n5 n8 B7 λu D w=>?_;refine⟨(u,k+1),oj,⟨n9,⟨λq=>(by rw[b]at q;cases q),?_⟩⟩,n9⟩;dsimp only;rw[JX];exact w
 .rintro s i ⟨l,o,x,c⟩;refine⟨p,(c.box 0 n5).aw _ n5,(NA p seed s l i (c.seq 1 n5 λ_=>rfl) n7).I3 λh3 j=>?_⟩;exact⟨_,n5,by rw[o],.zip (c.comp j).ac⟩
theorem Es{B:au}{b h:m5}{d c A2:HP}{As:List HP}(H:aa B b h (d::c::A2::As)):aa B b h [d,c,A2]:=
 H.take 0 λi A a=>by
  rw[Nat.zero_add]
  match i,a with
  |0,a=>exact a
  |1,a=>exact a
  |2,a=>exact a
  |k+3,a=>simp at a
theorem KE(a b:Sl)(A E:aO)(n w:Nat)(h:m5)(ha:dT h a 1 aq A)(hb:dT h b 1 aq E)(hl:n4 A=n)(f8:n4 E=n)(hA:aU n A)(hB:aU w E)(ho:1<=n)(hn:n+w<=64)(hr:cv A=n):
  ak xR 193 #[a,b] h λv h'=>∃r:Sl,v=.tuple #[r,xH xN 0]/\Sp h h' [dw 41 r 1 aq (eM n A E)]:=by
 have cq:n4 E=n4 A:=n7
 have e9:=ha.len;have b5:=hb.len;refine ts Tryz.func193 ?_ (HF (I1 [] [(4,6),(16,36)] (HF (HF (HF (G0 (HF (G7 (G9 [(7,bK),(8,bK),(46,aI)] [(7,10),(46,66)] G6))) (G0 (HF (G7 (G9 [(10,aI)] [(10,15),(66,182)] (HF (G0 (G7 (HF (G0 (G7 (G9 [(11,aI)] [(11,12),(72,82)] G6)) (I1 [] [(82,110)] (HF (I1 [] [(118,136)] (HF (G7 (G9 [(138,aI)] [(13,15),(138,182)] (HF (HF (G0 (G7 (HF (HF (I1 [(154,oe)] [(148,155)] G6)))) G6)))))))))))) G6))))) (I0 [(15,aI)] [(4,6),(15,16),(183,195)])))))))) [(10,(.l [0,1,2,3,4,8,9,10,11,12,5,6,7,13,14,15,16,17])),(20,(.l [0,1,2,3,4,5,6,7,8,10,11,12,13,14,9,15,16,17,18,19])),(26,(.l [0,1,2,3,4,5,6,7,8,9,10,11,12,14,15,16,17,18,19,20,21,22,13,23,24,25,26,27]))];refine aE ?_;refine(lx a A n h ha hA).mono ?_;rintro v h1 ⟨rfl,rfl⟩;refine⟨_,n5,aH (λe=>o1) λ_=>?_⟩;refine(lx b E w h1 hb hB).mono ?_;rintro v y ⟨rfl,rfl⟩;refine⟨_,n5,aH (λe=>o1) λ_=>?_⟩;refine bt (λe=>absurd (by rw[e9,b5,cq]) e) λ_=>?_;refine be (λe=>n7) λ_=>?_;refine ha.get 0 n5 n7 λr0 ew=>?_;have ab:=ew.len;rw[hA _ (qe _)]at ab;rw[ab];refine(ur a A n y ha hA).mono ?_;rintro v h4 ⟨rfl,R4⟩;rw[hr];refine⟨_,n5,ae (λe=>absurd (show(n:Int)<(n:Int)from e) n7) λ_=>?_⟩;obtain⟨M,hM⟩:=I5 (eE A E)
 have d5:n4 M=n:=by rw[hM,kZ];exact hl
 have eq:aU (n+w) M:=by rw[hM];exact lF n7 hA hB
 have d6:∀k (hk:k<n),(M[k]'n7).take n=A[k]'n7/\(M[k]'n7).drop n=E[k]'n7:=λk hk=>by
  have h1:n4 (A[k]'n7)=n:=hA _ (qe _);have e:M[k]'n7=A[k]'n7++E[k]'n7:=by subst hM;simp[eE]
  rw[e,List.take_left' h1,List.drop_left' h1];exact⟨n5,n5⟩
 have a1:(ba M n).1=n:=by rw[hM,tJ n7 hA];exact hr
 obtain⟨he,fz⟩:=ha;obtain⟨f9,eb⟩:=hb;have H4:=(((Sp.refl y).up R4.ac).nil 41 1 bv).nil 41 1 bv|>.ZB
 refine aj (λt:Sl×Sl×Nat×List Sl×List Sl×List (Sl×Row)=>(t.1,t.2.1,(t.2.2.1:Int)))
  (λt h'=>t.2.2.1<=n/\Sp y h' [ai 41 t.1 1 bv t.2.2.2.1,ai 41 t.2.1 1 bv t.2.2.2.2.1,fK t.2.2.2.2.2]/\bY t.2.2.2.2.2 (yp n) t.2.2.2.1 (M.take t.2.2.1)/\bY t.2.2.2.2.2 (wS n) t.2.2.2.2.1 (M.take t.2.2.1))
  (λt=>n-t.2.2.1) (⟨eH,0,0⟩,⟨eH,0,0⟩,0,[],[],[]) n5 ⟨oo,H4,bY.nil _ _,bY.nil _ _⟩ ?_
 rintro⟨s,t,k,rs,qs,pool⟩ h5 ⟨hk,H5,ip,iq⟩;dsimp only at*;have f1:n4 rs=k:=by rw[ip.1,qw];omega
 have f2:n4 qs=k:=by rw[iq.1,qw];omega
 refine ae (λe=>?_) (λe=>?_)
 .have ep:k<n:=n7
  obtain⟨mt,md⟩:=d6 k ep;have lA:n4 (A[k]'n7)=n:=hA _ (qe _);have lB:n4 (E[k]'n7)=w:=hB _ (qe _);obtain⟨a8,da,x9,dy,ek⟩:=fz.Ih (K:=λ_ r=>Rd y r 1 aq (A[k]'n7)) (i:=(k:Int)) k rfl n7 λ_ _ _ hs _=>hs;obtain⟨e6,c8,dk,z,c6⟩:=eb.Ih (K:=λ_ r=>Rd y r 1 aq (E[k]'n7)) (i:=(k:Int)) k rfl n7 λ_ _ _ hs _=>hs;refine⟨a8,da,x9,dY dy H5.ac,e6,c8,dk,dY z H5.ac,?_⟩;have H6:=H5.nil 5 1 aq;refine H6.append ag 3 n5 cK ⟨_,_,n5,n5⟩ n5 n8 (λ_=>rfl) (Seq.up ek H6.ac) cB oi λbq h7 H7=>⟨⟨dY z H7.ac,I6⟩,?_⟩
  refine H7.lit ag bv cI n5 [bq] n5 (show 1*1<=2^20 by decide) n5 λf5 h8 H8=>⟨⟨dY z H8.ac,I6⟩,?_⟩
  refine H8.append ag 0 n5 cI ⟨_,_,n5,n5⟩ n5 n8 (λ_=>rfl) (H8.seq 4 n5 λ_=>rfl) jK oi λs' h9 H9=>⟨⟨dY z H9.ac,I6⟩,?_⟩
  have b6:=H9.nil 5 1 aq;refine b6.append ag 5 n5 cK ⟨_,_,n5,n5⟩ n5 n8 (λ_=>rfl) (Seq.up c6 b6.ac) cB oi λbr hm ds=>⟨I6,?_⟩
  refine ds.lit ag bv cI n5 [br] n5 (show 1*1<=2^20 by decide) n5 λhq a5 q=>⟨I6,?_⟩
  refine q.append ag 1 n5 cI ⟨_,_,n5,n5⟩ n5 n8 (λ_=>rfl) (q.seq 6 n5 λ_=>rfl) jK oi λD d2 ei=>⟨I6,?_⟩
  have a0:=(((ei.freeze 3 n5 λ_=>rfl).freeze 5 n5 λ_=>rfl).pool 2 3 n8 n5 n5).pool 2 5 n8 n5 n5;refine⟨(s',D,k+1,rs++[bq],qs++[br],(br,E[k]'n7)::(bq,A[k]'n7)::pool),oj,⟨n9,Es a0,?_,?_⟩,n9⟩
  .try dsimp only
   rw[az _ _ (show k<n4 M by omega)];exact(ip.mono λx O=>qp _ (qp _ O)).snoc (by rw[mt];simp)
  .try dsimp only
   rw[az _ _ (show k<n4 M by omega)];exact(iq.mono λx O=>qp _ (qp _ O)).snoc (by rw[md];simp)
 have ed:k=n:=n7
 subst ed;rw[qf n7]at ip iq;have f4:=(H5.own 0 n5).len;have hd:=(H5.own 1 n5).len;have g1:=(H5.own 1 n5).cap;refine aj (λt:Nat×List Sl×List Sl×List (Sl×Row)=>(t.1:Int))
  (λu h'=>u.1<=k/\Sp y h' [ai 41 s 1 bv u.2.1,ai 41 t 1 bv u.2.2.1,fK u.2.2.2]/\bY u.2.2.2 (yp k) u.2.1 (ba M u.1).2/\bY u.2.2.2 (wS k) u.2.2.1 (ba M u.1).2)
  (λu=>k-u.1) (0,rs,qs,pool) n5 ⟨oo,H5,ip,iq⟩ ?_
 rintro⟨c,W,N,f⟩ a5 ⟨hc,q,G,L⟩;dsimp only at*;have Y:=fM eq c;obtain⟨I,bd⟩:=I5 ((ba M c).2)
 rw[<-bd]at G L Y;have b7:n4 I=k:=by rw[Y.2];exact d5
 have hp:=G.1;have ef:=L.1;refine ae (λe=>?_) (λe=>?_)
 .have H:c<k:=n7
  obtain⟨ix,bl,cn⟩:=Jo a1 H;rw[<-bd]at bl cn;have c7:=kI bl;have a7:∀j (hj:j<k),n4 (I[j]'n7)=k+w:=λj hj=>Y.1 _ (qe _);refine aj (λj:Nat=>(j:Int)) (λj h'=>h'=a5/\c<=j/\j<=ix) (λj=>ix-j) c n5 ⟨n5,qj _,c7.1⟩ ?_;rintro j d2 ⟨rfl,fr,gs⟩;have ay:j<k:=n7
  have a2:=q.seq 0 n5 λ_=>rfl;refine a2.dN j n5 n7 λ_ _ _=>?_;have b9:=q.ic 2 n5 (G.get (show j<n4 I by omega));have ec:((I[j]'n7).take k)[c]'(by rw[qw,a7 j ay];omega)=aM (aA I j) c:=by rw[zF,bf n7,lS (by rw[a7 j ay];omega)]
  refine b9.aV c n5 (by rw[qw,a7 j ay];omega) _ n5 ?_;rw[ec];refine be (λe0=>?_) (λe0=>?_)
  .have:j≠ix:=λhh=>c7.2.2 (by rw[<-hh];exact nc.1 e0);exact⟨j+1,o0,⟨n5,n7,n7⟩,n7⟩
  have d1:j=ix:=by
   by_cases hh:j<ix
   .exact absurd (by rw[CG bl fr hh];rfl) e0
   .omega
  subst d1;refine aE ?_;have b2:=q.seq 1 n5 λ_=>rfl;refine a2.dN c n5 n7 λ_ _ _=>?_;refine a2.dN j n5 n7 λ_ _ _=>?_;refine b2.dN c n5 n7 λ_ _ _=>?_;refine b2.dN j n5 n7 λ_ _ _=>?_;refine q.set ag 0 n5 (λ_=>rfl) n5 j n5 n7 (W[c]'n7) n5 n5 n5 λgt a0=>⟨I6,?_⟩
  refine a0.set ag 0 n5 (λ_=>rfl) n5 c n5 oi (W[j]'n7) n5 n5 n5 λf6 es=>⟨I6,?_⟩
  refine es.set ag 1 n5 (λ_=>rfl) n5 j n5 n7 (N[c]'n7) n5 n5 n5 λgi d4=>⟨I6,?_⟩
  refine d4.set ag 1 n5 (λ_=>rfl) n5 c n5 oi (N[j]'n7) n5 n5 n5 λcf eh=>⟨I6,?_⟩
  obtain⟨m2,X⟩:=I5 (fH I c j)
  have cp:m2=(I.set j (aA I c)).set c (aA I j):=by rw[X,BD];rfl
  obtain⟨a6,am⟩:∃x,x=(W.set j (W[c]'n7)).set c (W[j]'n7):=⟨_,rfl⟩
  obtain⟨a3,al⟩:∃x,x=(N.set j (N[c]'n7)).set c (N[j]'n7):=⟨_,rfl⟩
  have a4:bY f (yp k) a6 m2:=by rw[cp,am,bf n7,bf n7];exact(G.set j (G.get n7)).set c (G.get n7)
  have ax:bY f (wS k) a3 m2:=by rw[cp,al,bf n7,bf n7];exact(L.set j (L.get n7)).set c (L.get n7)
  have B:Sp y cf [ai 41 s 1 bv a6,ai 41 t 1 bv a3,fK f]:=by rw[am,al];exact eh
  have e8:n4 m2=k:=by rw[X,iR];exact b7
  have ao:aU (k+w) m2:=by rw[X];exact nW Y.1
  have f3:=a4.1;have g8:=ax.1;have U:∀i (hi:i<k),n4 (m2[i]'n7)=k+w:=λi hi=>ao _ (qe _);have c0:=B.seq 0 n5 λ_=>rfl;have eg:=B.seq 1 n5 λ_=>rfl;refine c0.dN c n5 n7 λ_ _ _=>?_;have V:=B.ic 2 n5 (a4.get (show c<n4 m2 by omega));have dr:((m2[c]'n7).take k)[c]'(by rw[qw,U c H];omega)=aM (aA m2 c) c:=by rw[zF,bf n7,lS (by rw[U c H];omega)]
  refine V.aV c n5 (by rw[qw,U c H];omega) _ n5 ?_;rw[dr];refine(Aa _ cf).mono ?_;rintro v fs ⟨rfl,rfl⟩;refine⟨_,n5,aE ?_⟩;refine c0.dN c n5 n7 λ_ _ _=>?_;refine eg.dN c n5 n7 λg9 c1 _=>?_
  try dsimp only
  refine(lW _ _ _ fs V (by rw[qw,U c H];omega)).mono ?_;rintro v fb ⟨ra,rfl,cs⟩;refine⟨ra,n5,⟨dY c1 cs.ac,I6⟩,?_⟩;have b3:=B.comp cs;refine(lW _ _ _ fb (b3.ic 2 n5 (ax.get (show c<n4 m2 by omega))) (by rw[qJ,U c H];omega)).mono ?_;rintro v g4 ⟨rb,rfl,d7⟩;refine⟨rb,n5,I6,?_⟩;have d8:=b3.comp d7;refine d8.set ag 0 n5 (λ_=>rfl) n5 c n5 n7 ra n5 n5 n5 λgk e7=>⟨I6,?_⟩
  refine e7.set ag 1 n5 (λ_=>rfl) n5 c n5 n7 rb n5 n5 n5 λfa d3=>⟨I6,?_⟩
  have e1:=Es ((((d3.freeze 3 n5 λ_=>rfl).freeze 4 n5 λ_=>rfl).pool 2 3 n8 n5 n5).pool 2 4 n8 n5 n5);obtain⟨d,R⟩:=I5 (fS c c m2)
  obtain⟨a9,ah⟩:∃x,x=a6.set c ra:=⟨_,rfl⟩
  obtain⟨b1,Z⟩:∃x,x=a3.set c rb:=⟨_,rfl⟩
  obtain⟨g,o⟩:∃x,x=(rb,scaleB (Gf.inv (aM (aA m2 c) c)) ((m2[c]'n7).drop k))::(ra,scaleB (Gf.inv (aM (aA m2 c) c)) ((m2[c]'n7).take k))::f:=⟨_,rfl⟩
  have en:bY g (yp k) a9 d:=by rw[R,ah,fS,o];refine(a4.mono λx O=>qp _ (qp _ O)).set c ?_;rw[CC,<-bf (show c<n4 m2 by omega)];simp
  have e5:bY g (wS k) b1 d:=by rw[R,Z,fS,o];refine(ax.mono λx O=>qp _ (qp _ O)).set c ?_;rw[GG,<-bf (show c<n4 m2 by omega)];simp
  have cr:Sp y fa [ai 41 s 1 bv a9,ai 41 t 1 bv b1,fK g]:=by rw[ah,Z,o];exact e1
  have g7:n4 d=k:=by rw[R,kJ];exact e8
  have ad:aU (k+w) d:=by rw[R];exact my ao n7
  have S:(ba M (c+1)).2=bO c c d k:=by rw[cn,R,X,b7]
  refine aj (λu:Nat×List Sl×List Sl×List (Sl×Row)=>(u.1:Int))
   (λu h'=>u.1<=k/\Sp y h' [ai 41 s 1 bv u.2.1,ai 41 t 1 bv u.2.2.1,fK u.2.2.2]/\bY u.2.2.2 (yp k) u.2.1 (bO c c d u.1)/\bY u.2.2.2 (wS k) u.2.2.1 (bO c c d u.1))
   (λu=>k-u.1) (0,a9,b1,g) n5 ⟨oo,cr,by rw[nX];exact en,by rw[nX];exact e5⟩ ?_
  rintro⟨i,bb,bk,Q⟩ b4 ⟨hi,m,F,J⟩;dsimp only at*;have hg:=kK c c d i;have gd:=F.1;have f7:=J.1;refine ae (λe2=>?_) (λe2=>?_)
  .have g0:i<k:=n7
   have c9:(bO c c d i)[i]'n7=aA d i:=by rw[<-bf n7,jd,nq n7]
   have er:(bO c c d i)[c]'n7=aA d c:=by rw[<-bf n7,jd,nq n7]
   have li:n4 (aA d i)=k+w:=bX ad;have lc:n4 (aA d c)=k+w:=bX ad;have b0:=m.seq 0 n5 λ_=>rfl;have c2:=m.seq 1 n5 λ_=>rfl;have xi:=m.ic 2 n5 (F.get (show i<n4 (bO c c d i) by omega));have xc:=m.ic 2 n5 (F.get (show c<n4 (bO c c d i) by omega));have yi:=m.ic 2 n5 (J.get (show i<n4 (bO c c d i) by omega));have yc:=m.ic 2 n5 (J.get (show c<n4 (bO c c d i) by omega));rw[c9]at xi yi;rw[er]at xc yc;refine b0.dN i n5 n7 λ_ _ _=>?_;have ea:((aA d i).take k)[c]'(by rw[qw,li];omega)=aM (aA d i) c:=by rw[zF,lS]
   refine xi.aV c n5 C7 _ n5 ?_;rw[ea];rw[af ((i:Int)+1)];have skip:bO c c d (i+1)=bO c c d i->∃D:Nat×List Sl×List Sl×List (Sl×Row),(i:Int)+1=(D.1:Int)/\(D.1<=k/\Sp y b4 [ai 41 s 1 bv D.2.1,ai 41 t 1 bv D.2.2.1,fK D.2.2.2]/\bY D.2.2.2 (yp k) D.2.1 (bO c c d D.1)/\bY D.2.2.2 (wS k) D.2.2.1 (bO c c d D.1))/\k-D.1<k-i:=λca=>
    ⟨(i+1,bb,bk,Q),n5,⟨n9,m,by dsimp only;rw[ca];exact F,by dsimp only;rw[ca];exact J⟩,n9⟩
   refine aE ?_;refine bt (λe3=>?_) (λe3=>rV n5 (skip ?_))
   .have T:i≠c:=λhh=>e3 (by rw[hh]);refine bt (λe4=>?_) (λe4=>skip ?_)
    .refine b0.dN c n5 n7 λ_ _ _=>?_;refine b0.dN i n5 n7 λ_ _ _=>?_;refine c2.dN c n5 n7 λg3 cd _=>?_;refine c2.dN i n5 n7 λhf c4 _=>?_;refine(jT _ _ _ _ _ b4 xc xi E3 C7).mono ?_;rintro v dx ⟨ra,rfl,P⟩;refine⟨ra,n5,⟨dY c4 P.ac,dY cd P.ac,I6⟩,?_⟩;have du:=m.comp P;refine(jT _ _ _ _ _ dx (Seq.up yc P.ac) (Seq.up yi P.ac) E3 (by rw[qJ,li];omega)).I4 λrb g2 d9=>⟨rb,n5,I6,?_⟩;have el:=du.comp d9;refine el.set ag 0 n5 (λ_=>rfl) n5 i n5 n7 ra n5 n5 n5 λg6 fn=>⟨I6,?_⟩
     refine fn.set ag 1 n5 (λ_=>rfl) n5 i n5 n7 rb n5 n5 n5 λgl dd=>⟨I6,?_⟩
     have ej:=Es ((((dd.freeze 3 n5 λ_=>rfl).freeze 4 n5 λ_=>rfl).pool 2 3 n8 n5 n5).pool 2 4 n8 n5 n5);refine⟨(i+1,bb.set i ra,bk.set i rb,_),n5,⟨n9,ej,?_,?_⟩,n9⟩
     .try dsimp only
      rw[kr n7 T];refine(F.mono λx O=>qp _ (qp _ O)).set i ?_;rw[Io];simp
     .try dsimp only
      rw[kr n7 T];refine(J.mono λx O=>qp _ (qp _ O)).set i ?_;rw[LW];simp
    .have hz:aM (aA d i) c=0:=nc.1 e4;rw[kr n7 T,hz,BE];apply zp;intro x;rw[qW];split
     .rename_i f0;subst f0;rw[m6 n7,qd n7,c9]
     .rfl
   .have T:i=c:=n7
    subst T;exact uE
  .have d0:i=k:=n7
   subst d0;refine⟨(c+1,bb,bk,Q),oj,⟨n9,m,?_,?_⟩,n9⟩
   ·(try dsimp only);rw[S];exact F
   ·(try dsimp only);rw[S];exact J
 have eo:c=k:=n7
 subst eo;refine aj (λ_:Unit=>(c:Int)) (λ_ h'=>h'=a5) (λ_=>0) () n5 n5 ?_;rintro _ g5 rfl;refine ae (λe=>n7) λ_=>?_;refine⟨⟨ze _,wA.2 (show c<=t.cap by omega)⟩,?_⟩;have ap:eM c A E=I.map (wS c):=by rw[eM,<-hM,<-bd,qf n7]
 have et:t=⟨t.ptr,c,t.cap⟩:=by
  have:t.len=c:=n7
  obtain⟨p,l,cc⟩:=t;simp only at this⊢;rw[this]
 have HR:=q.pL 1 2 n8 (ll:=eM c A E) n5 n5 (by rw[ap,qm];exact ef) (λi r l h1 y=>by
  rw[ap,qM]at y;cases hmi:I[i]? with
  |none=>rw[hmi]at y;cases y
  |some x=>rw[hmi]at y;cases y;exact L.2 i r x h1 hmi)
 rw[qi];refine⟨⟨t.ptr,c,t.cap⟩,n5,?_⟩;rw[<-et];exact HR.take 1 (λi A hi=>by cases i with|zero=>exact hi|succ i=>simp at hi)
theorem Ps(a b:Sl)(d c:Row)(h:m5)(f:Rd h a 1 aq d)(i:Rd h b 1 aq c)(e:n4 d=n4 c)(g:n4 c<=2^30):
  ak xR 271 #[a,b] h λv h'=>∃r:Sl,v=r/\Sp h h' [ai 5 r 1 aq (cH 1 d c)]:=by
 refine ts Tryz.func271 ?_;refine(jT 1 a b d c h f i e g).I4 λr j R=>⟨r,n5,r,n5,R⟩
theorem EZ(p:Pm)(m at_:Sl)(M:aO)(l:aC)(n w:Nat)(h:m5)(y:dT h m 1 aq M)(z:Rd h at_ 1 ar l)(f:p.2.2=w)(q:aU w M)(G:n4 M=n)(d:∀x∈l,0<=x/\x<(n:Int))(R:n<=64:=by omega)(H:w<=64:=by omega)(L:n4 l<=64:=by omega):
  ak xR 198 #[go p,m,at_] h λv h'=>∃r:Sl,v=r/\Sp h h' [ai 5 r 1 aq (jN w M l)]:=by
 have D:=y.len;have O:=z.len;refine ts Tryz.func198 ?_ (HF (HF (I0 [(7,bK),(15,aI)] [(7,8),(9,10),(15,26)]))) (args:=[p,m,at_]);refine(Sp.refl h).boxed λa T u=>?_;refine⟨p.2.2,(u.box 0 n5).cell n5,?_⟩;refine u.make ag aq cK n8 0 n5 n5 w w f f (qj _) n7 λo Q _ _ B=>?_;refine aj (λt:Sl×Nat=>(t.1,(t.2:Int))) (λt h'=>t.2<=n4 l/\Sp h h' [an a 24 [xH xN p.1,xH xN p.2.1,xH xN p.2.2],ai 5 t.1 1 aq (jN w M (l.take t.2))]) (λt=>n4 l-t.2) (o,0) n5 ⟨oo,B⟩ ?_;rintro⟨s,k⟩ h3 ⟨E,c⟩;dsimp only at*;refine ae (λe=>?_) (λe=>?_)
 .have b:k<n4 l:=n7
  have P:=d _ (qe b);refine(Seq.up z c.ac).aV k n5 b _ n5 ?_;refine(y.up c.ac).get l[k].toNat n7 n7 λr J=>?_;have F:=oE q G d k E;have N:n4 (M[l[k].toNat]'n7)=w:=q _ (qe _);refine(Ps r s _ _ h3 J (c.seq 1 n5 λ_=>rfl) n7 n7).I4 λg S K=>?_;have I:=(c.comp K).del 1;refine⟨g,n5,(g,k+1),oj,⟨n9,?_⟩,n9⟩
  try dsimp only
  rw[az _ _ b,AZ,bf n7];exact I
 .rw[qf n7]at c;exact⟨s,n5,c.take 1 λi A j=>by cases i with|zero=>exact j|succ i=>simp at j⟩
def acH(h:m5)(b:hU)(p:Pm)(seed:Int)(M:aO):Prop:=∃m:Sl,bV h b 225 (si p seed m)/\dT h m 1 aq M
theorem AH(b:hU)(p:Pm)(seed id:Int)(M:aO)(n w:Nat)(h:m5)(F:acH h b p seed M)(j:bH p=eX)(q:p.2.2=w)(y:(bD p).toNat=n)(D:aU w M)(B:n4 M=n):
  ak xR 121 #[xJ (dB b),xH xN id] h λv h'=>∃r:Sl,v=r/\Sp h h' [ai 5 r 1 aq (if bP id then jN w M (dZ n seed id)else[])]:=by
 obtain⟨m,a,E⟩:=F;have t:=(bI p).1 j;have G:bD p=p.1+p.2.1:=by rw[bD,m6 j]
 refine ts Tryz.func121 ?_;refine(kh id h).mono ?_;rintro v l ⟨rfl,rfl⟩;refine⟨_,n5,aH (λe=>⟨⟨eH,0,0⟩,n5,by rw[e];exact(Sp.refl l).nil 5 1 aq⟩) λhid=>?_⟩;rw[hid,m6 rfl];refine⟨b,n5,p,a.aw _ n5,b,n5,m,a.cell n5,b,n5,p,a.aw _ n5,b,n5,seed,a.cell n5,(BC p seed id l).mono ?_⟩;rintro v u ⟨c,rfl,f⟩;rw[j,hid,vd,m6 rfl,y]at f;have d:=a.ac f.ac a.lt;refine⟨c,n5,⟨d.cell n5,d.cell0 n5,d.cell n5,d.cell n5,I6⟩,?_⟩;have g:∀x∈dZ n seed id,0<=x/\x<(n:Int):=λx o=>km n7 n7 o;have z:=mw (n:=n) n7 n7 seed id;refine(EZ p m c M _ n w u (E.up f.ac) (f.seq 0 n5 λ_=>rfl) q D B g).I4 λr h3 s=>⟨r,n5,I6,r,n5,(f.comp s).take 1 λi A k=>by cases i with|zero=>exact k|succ i=>simp at k⟩
theorem Pt(p:Pm)(seed:Int)(data:Sl)(d:Row)(h:m5)(hd:Rd h data 1 aq d)(hc:data.len<=data.cap):
  ak xR 118 #[go p,xH xP seed,data] h λv h'=>
   (iK p seed d.length=0->∃(b:hU) (m:Sl),v=.tuple #[xJ (dB b),xH xN 0]/\Sp h h' [dw 41 m 1 aq (jZ p seed d),an b 225 (si p seed m)])/\
   (iK p seed d.length≠0->v=.tuple #[xJ eH,xH xN (iK p seed d.length)]/\Sp h h' []):=by
 have ab:=hd.len;refine ts Tryz.func118 ?_ (HF (I1 [] [(6,8),(13,26)] (HF (HF (HF (G0 (HF (G7 (G9 [(9,bK),(34,aI)] [(9,10),(34,43)] G6))) (I0 [(8,bK),(9,bK),(10,aI)] [(8,11),(43,71)]))))))) (args:=[p,(xH xP (seed:Int)),data]);refine(Sp.refl h).boxed λa h1 H1=>?_;refine aE ?_;refine⟨p,(H1.box 0 n5).aw _ n5,(dS p h1).mono ?_⟩;rintro v h2 ⟨rfl,R2⟩;have D:=H1.comp R2;have T:∀{h3:m5} (x:Int),x≠0->iK p seed d.length=x->Sp h h3 [an a 24 [xH xN p.1,xH xN p.2.1,xH xN p.2.2]]->
   (iK p seed d.length=0->∃(b:hU) (m:Sl),Value.tuple #[xJ eH,xH xN x]=.tuple #[xJ (dB b),xH xN 0]/\Sp h h3 [dw 41 m 1 aq (jZ p seed d),an b 225 (si p seed m)])/\
   (iK p seed d.length≠0->Value.tuple #[xJ eH,xH xN x]=.tuple #[xJ eH,xH xN (iK p seed d.length)]/\Sp h h3 []):=λx hx N H=>by
  refine⟨λe=>absurd (N.symm.trans e) hx,λ_=>⟨by rw[N],.zip H.ac⟩⟩
 refine⟨_,n5,aH (λe=>T 1 n8 (by rw[iK,e];rfl) D) λE=>?_⟩;have a3:=(bI p).1 E;obtain⟨K,X⟩:∃K:Nat,p.1=K:=⟨p.1.toNat,n7⟩
 obtain⟨j,hH⟩:∃H:Nat,p.2.1=H:=⟨p.2.1.toNat,n7⟩
 obtain⟨w,y⟩:∃w:Nat,p.2.2=w:=⟨p.2.2.toNat,n7⟩
 have a4:K*w<=16*24:=zr n7 n7;have q:p.1*p.2.2=((K*w:Nat):Int):=by rw[X,y,zR]
 refine⟨p.1,(D.box 0 n5).cell0 n5,p.2.2,(D.box 0 n5).cell n5,?_⟩
 try dsimp only
 rw[q,af _];refine bt (λe=>T 1 n8 (by rw[iK,E,n2 (by rw[q];intro e2;exact e (by rw[ab];exact e2))];rfl) D) λel=>?_;have g:n4 d=K*w:=n7
 refine⟨p,(D.box 0 n5).aw _ n5,(BX p seed h2).mono ?_⟩;rintro v h3 ⟨rfl,R3⟩;have Z:Sp h h3 [an a 24 [xH xN p.1,xH xN p.2.1,xH xN p.2.2]]:=D.comp R3;have f:iK p seed d.length=if fy p seed (fh p)then 0 else 8:=by rw[iK,E,n1 (by rw[q,g])];rfl
 refine⟨_,n5,aH (λe=>T 8 n8 (by rw[f,e];rfl) Z) λhf=>?_⟩;rw[hf,m6 rfl]at f;have B:gm p seed d K j w (K+j):=⟨E,hf,X,hH,y,n5,n7,n7,n7,n7,n7,n7,g⟩
 refine⟨p,(Z.box 0 n5).aw _ n5,(BU p h3 E).mono ?_⟩;rintro v h5 ⟨ra,rfl,Y⟩;rw[X,hH,qi,qi]at Y;have H5:=(Z.comp Y).sq 41 1 aq;have ap:n4 (bA K j)=j:=by simp[bA]
 have ao:=(Y.ov 0 n5).len;refine⟨ra,n5,?_⟩;refine aj (λt:Sl×Nat=>(t.1,(t.2:Int))) (λt h'=>t.2<=j/\Sp h h' [an a 24 [xH xN p.1,xH xN p.2.1,xH xN p.2.2],dw 41 ra 1 aq (bA K j),dw 41 t.1 1 aq (qh t.2 (aN w))]) (λt=>j-t.2) (⟨eH,0,0⟩,0) n5 ⟨oo,H5⟩ ?_;rintro⟨s,k⟩ h6 ⟨hk,U⟩;dsimp only at*;refine ae (λe=>?_) (λe=>?_)
 .refine⟨p.2.2,(U.box 0 n5).cell n5,?_⟩;refine U.make ag aq cK n8 0 n5 n5 w w y y (qj _) n7 λz h7 _ _ H7=>?_;have V:=H7.freeze 3 n5 λ_=>rfl;refine V.jD ag 2 3 n8 n5 n5 cI oi λs' h8 H8=>?_;refine⟨(s',k+1),oj,⟨n9,?_⟩,n9⟩
  try dsimp only
  rw[yL];exact H8.del 3
 have am:k=j:=n7
 subst am;refine aj (λt:Sl×Sl×Nat=>(t.1,t.2.1,(t.2.2:Int))) (λt h'=>t.2.2<=K/\Sp h h' [an a 24 [xH xN p.1,xH xN p.2.1,xH xN p.2.2],dw 41 t.1 1 aq (bA K k++(qy t.2.2).map λi:Nat=>pv (K+k) seed (i:Int)),dw 41 t.2.1 1 aq (qh k (aN w)++(qy t.2.2).map (PJ d w))]) (λt=>K-t.2.2) (ra,s,0) n5 ⟨oo,by simpa using U⟩ ?_;rintro⟨u,v,i⟩ O ⟨Q,c⟩;dsimp only at*;refine⟨p.1,(c.box 0 n5).cell0 n5,ae (λe2=>?_) λe2=>?_⟩
 .have al:i<K:=n7
  have m1:(i+1)*w<=K*w:=zi w al;have m2:i*w<=(i+1)*w:=zi w n7;refine⟨p,(c.box 0 n5).aw _ n5,(EW p seed i O).mono ?_⟩;rintro v2 a5 ⟨rr,rfl,F⟩;rw[E,show bP (i:Int)=eX by simp[bP];omega,vd,m6 rfl,B.sA]at F;have R:=(c.comp F).freeze 3 n5 λ_=>rfl;refine⟨rr,n5,?_⟩;refine R.jD ag 1 3 n8 n5 n5 cI oi λu' a2 M=>?_;have o:=M.del 3;refine⟨p.2.2,(o.box 0 n5).cell n5,p.2.2,(o.box 0 n5).cell n5,?_⟩;rw[af ((i:Int)+1)];have e5:(i:Int)*p.2.2=((i*w:Nat):Int):=by rw[y,zR]
  have e6:((i:Int)+1)*p.2.2=(((i+1)*w:Nat):Int):=by rw[y,zR];rfl
  try dsimp only
  rw[e5,e6,kl _,kl _,qi,qi];refine⟨⟨ze _,wA.2 m2,wA.2 n7⟩,?_⟩;have J:=o.nil 5 1 aq;have a0:=PK (l:=d) (w:=w) (i:=i) n7;refine J.append (v:=Ft data w i) ag 3 n5 cK ui n5 n8 (λ_=>rfl) ((Seq.up hd J.ac).piece hc w i) cB oi λx a1 S=>?_;have P:=S.freeze 3 n5 λ_=>rfl;refine P.jD ag 2 3 n8 n5 n5 cI oi λv' ax ad=>?_;refine⟨(u',v',i+1),n5,⟨n9,?_⟩,n9⟩
  try dsimp only
  rw[zC,qF,qF,<-ql,<-ql];exact ad.del 3
 have W:i=K:=n7
 subst W;have a7:bA i k++((qy i).map λi:Nat=>pv (i+k) seed (i:Int))=bA i k++((qy i).map λi:Nat=>pv (i+k) seed (i:Int)):=rfl;have G:=B.Je;rw[<-G]at c;refine(KE u v _ (nk i k w d) (i+k) w O (c.ov 1 n5) (c.ov 2 n5) B.LS (by rw[uF]) B.Ip (Ba B.len) n7 n7 B.Iq).I4 λr ay ah=>?_;have I:=c.comp ah;refine⟨(r,0),n5,p,(I.box 0 n5).aw _ n5,?_⟩;refine I.boxed (t:=225) λb a6 L=>?_;refine⟨λ_=>⟨b,r,n5,?_⟩,λe=>absurd f e⟩;rw[<-B.BI]at L;exact L.take 3 (λi A Q=>by
  cases i with
  |zero=>exact Q
  |succ i=>cases i with
   |zero=>exact Q
   |succ i=>simp at Q)
section
theorem Has.sub{b:aF}{S a:aC}(F:Has b S)(h:∀k∈a,k∈S):Has b a:=⟨F.1,λk c=>F.2 k (h k c)⟩
theorem Has.lay{S:aC}{a:aF}(F:Has a S)(P:List (Int×aR))(w:Pow):Has (layAll P w a).2.2 S:=by
 have b:∀(P:List (Int×aR)) {a:aF} (w:Pow),Has a S->Has (fQ P w a).2.2 S:=by
  intro P
  induction P with
  |nil=>intro a w F;exact F
  |cons y P ih=>
   intro a w F;rw[kV];split
   .exact ih _ (F.append w y.1 y.2)
   .exact F.append w y.1 y.2
 have c:∀(l:aC) {a:aF} (w:Pow),Has a S->Has (iO l w a).2.2 S:=by
  intro l
  induction l with
  |nil=>intro a w F;exact F
  |cons y l ih=>
   intro a w F;rw[mO];split
   .exact ih _ (F.sync w y)
   .exact F.sync w y
 unfold layAll
 try dsimp only
 split
 .exact c _ _ (b P w F)
 .exact b P w F
variable {B:au} {h0 h:m5} {As:List HP} {a pw:hU} {offs:Int} {da:List bJ} {w:Pow} {ds:aF}
theorem Pu(x:bi)(m:aB)(c:ByteArray)(s:Sl)(b:aR)(hS:St B h0 As λh=>Rd h s 1 aq b)(j6:s.len<=s.cap)(hn:c.size<=2^40)(hm:bE m=eX)(lf:n4 b<=2^20)
  (H:aa B h0 h (aJ bC a pw (aD x) offs da w ds::bn x m::As)):
  ak xR 48 #[xJ (dB a),xK c,s] h λv h'=>v=xH xN (eG m offs w ds c b).1/\
   ∃y,aa B h0 h' (aJ bC a pw (aD y) offs da (eG m offs w ds c b).2.2.1 (eG m offs w ds c b).2.2.2::bn y (eG m offs w ds c b).2.1::As):=by
 refine ts Tryz.func48 ?_ (HF (HF (HF (G0 (Hf [] [(6,7),(35,86)] (G7 (HF (HF (HF (HF (HF (HF (I1 [(47,oe)] [(47,66)] G6))))))))) (HF (HF (HF (HF (G0 (HF (G7 (G9 [(11,bK),(102,aI)] [(6,7),(11,12),(13,23),(102,180)] (HF (HF (G0 (G7 (HF (HF (G0 (Hf [(15,aI)] [(15,16),(107,120)] (G7 (G9 [(15,aI)] [(15,16),(107,120)] (I1 [] [(107,118)] G6)))) (HF (HF (HF (HF (HF (HF (G7 (G9 [(11,bK),(20,aI)] [(11,12),(20,23),(143,179)] (HF (G0 (G7 (HF (I1 [(22,(.sc .adr))] [(22,23),(158,167)] G6))) G6)))))))))))))) G6)))))) (HF (HF (HF (G0 (Hf [(24,aI)] [(24,25),(186,203)] (G7 (G9 [(24,aI)] [(24,25),(186,203)] (I1 [] [(186,201)] G6)))) (I1 [] [(203,217)] (G0 (HF (G7 (G9 [(219,aI)] [(26,27),(219,233)] G6))) (HF (HF (I1 [(27,aI)] [(27,28),(242,247)] (I1 [(27,aI)] [(27,28),(247,253)] (I1 [] [(253,259)] G6)))))))))))))))))))) [(33,(.y [0,1,2,3,4,5,6] (.l [7,8,9,10]) (.l [9,7,8,10]))),(42,(.y [0,1,2,3,5,7,8,9,10] (.l [4,6,11,12,13,14]) (.y [6] (.l [4,11,12,13,14]) (.l [11,4,12,13,14]))))];have hz:=jH hm;have j0:=gn hm;have e0:∀y∈m.drives,0<=y/\y<64:=gx hm;obtain⟨g1,g2,hp,g4⟩:=(iT m).1 ((cJ m).1 hm).1;have mp:=(bI m.p).1 hp;obtain⟨s1,s2,s3⟩:=gZ hp;have g7:=(hS.at [_,_] H).len;have hc:=(aa.cP H).2;have hx:ct h x m:=H.at 1 n5;have ks:(x.2.2.1,x.2.2.2.1,x.2.2.2.2.1)=m.p:=hx.p;have cp:∀{h':m5},bV h' a 40 (cZ (aD x) pw offs da)->aZ h' (a.add 2) 0 [xH xN m.p.1,xH xN m.p.2.1,xH xN m.p.2.2]:=λ{h'} hb=>by
  rw[<-ks];exact⟨o8,o8,o8,I6⟩
 refine⟨a,n5,m.p,cp hc,H.alloc ag n5 λa3 h1 H1=>?_⟩;have H1:=H1.bc;refine H1.storeAll ag 0 n5 n5 [xH xN m.p.1,xH xN m.p.2.1,xH xN m.p.2.2] n5 n5 n5 n5 λh2 H2=>?_;have H2:=H2.aG 3 [1,2,0];refine(kF x m (H2.at 1 n5) hz e0 H2).I4 λW h3 R3=>?_;obtain⟨live,J⟩:=I5 (aY ds m.drives)
 rw[<-J]at R3;have m8:n4 live<=64:=by rw[J];exact qV (qH _ _) j0
 have V:∀k∈live,0<=k/\k<64:=λk hk=>by rw[J]at hk;exact e0 k (qK.1 hk).1
 have c7:live.Nodup:=by rw[J];exact Tp hm ds
 have H3:=(H2.bQ R3).aG 4 [1,2,3,0];have c6:=(H3.own 3 n5).len;refine⟨W,n5,?_⟩;have ay:∀{h':m5} {Bs:List HP} {e:Int},aa B h0 h' (aJ bC a pw (aD x) offs da w ds::bn x m::an a3 24 [xH xN m.p.1,xH xN m.p.2.1,xH xN m.p.2.2]::ai 3 W 1 ar live::As)->eG m offs w ds c b=(e,m,w,ds)->(Value.int .i64 e=xH xN (eG m offs w ds c b).1/\
   ∃y,aa B h0 h' (aJ bC a pw (aD y) offs da (eG m offs w ds c b).2.2.1 (eG m offs w ds c b).2.2.2::bn y (eG m offs w ds c b).2.1::As)):=λ{h' Bs e} H' he=>by
  rw[he];exact⟨n5,x,H'.aG 4 [0,1]⟩
 have a2:∀{e:Int},e≠0->dO m (gN w offs) ds c b.length=e->eG m offs w ds c b=(e,m,w,ds):=λ{e} h0 he=>by
  unfold eG;rw[he,m6 h0]
 refine bs (λ(_:Unit) h'=>dO m (gN w offs) ds c b.length=0/\aa B h0 h' (aJ bC a pw (aD x) offs da w ds::bn x m::an a3 24 [xH xN m.p.1,xH xN m.p.2.1,xH xN m.p.2.2]::ai 3 W 1 ar live::As)) ?_ ?_
 .refine(ig H3).I2 ⟨_,n5,aT (λe=>ay (Bs:=[]) H3 (a2 n8 (by unfold dO;rw[m6 e]))) λe1=>?_⟩;refine(Hm c _ hn).I2 ⟨_,n5,aH (λe=>ay (Bs:=[]) H3 (a2 n8 (by unfold dO;rw[nq pa,m6 A3]))) λe2=>?_⟩;refine(sO x m c (H3.at 1 n5) hz H3).I3 λh4 R4=>?_;have H4:=H3.up R4.ac;refine⟨_,n5,?_⟩;by_cases ah:m.objs.any (dD c)=eX
  .rw[m6 ah];exact ae (λ_=>ay (Bs:=[]) H4 (a2 n8 (by unfold dO;rw[nq pa,nq D5,m6 ah]))) λe=>absurd (ze _) e
  rw[nq ah];refine ae (λe=>absurd e n8) λ_=>?_;have ho:x.2.2.2.2.2.2.2.len=n4 m.objs:=bZ.len hx.objs;refine bs (λ(t:Bool) h'=>t=decide (m.p.1*m.p.2.2*8<(n4 b:Int)∨12<=n4 m.objs)/\aa B h0 h' (aJ bC a pw (aD x) offs da w ds::bn x m::an a3 24 [xH xN m.p.1,xH xN m.p.2.1,xH xN m.p.2.2]::ai 3 W 1 ar live::As)) ?_ ?_
  .refine⟨m.p.1,(H4.box 2 n5).cell0 n5,m.p.2.2,(H4.box 2 n5).cell n5,?_⟩
   try dsimp only
   rw[<-s3,af (cN m.p:Int),af ((cN m.p:Int)*8)];refine ae (λe=>⟨(n1 (.inl n7)).symm,H4⟩) λe=>⟨a,n5,x.2.2.2.2.2.2.2,(aa.cP H4).2.cell n5,?_,H4⟩
   rw[decide_eq_decide];omega
  rintro t h7 ⟨rfl,H7⟩;refine aT (λe=>ay (Bs:=[]) H7 (a2 n8 (by unfold dO;rw[nq pa,nq D5,nq ah,m6 (n3 e)]))) λe5=>?_;have e5:=of_decide_eq_false e5;have b2:(aY ds m.drives=[]∨16777215<m.next∨2147483647<=m.seq)->dO m (gN w offs) ds c b.length=7:=λhh=>by unfold dO;rw[nq pa,nq D5,nq ah,nq e5,m6 hh]
  have L:=(aa.cP H7).2;refine be (λe=>ay (Bs:=[]) H7 (a2 n8 (b2 (.inl (by rw[<-J];exact List.length_eq_zero_iff.1 n7))))) λe6=>?_;refine⟨a,n5,x.2.1,L.cell n5,?_⟩;rw[hx.next];refine ae (λe=>ay (Bs:=[]) H7 (a2 n8 (b2 (.inr (.inl n7))))) λe7=>?_;refine⟨a,n5,x.1,L.cell0 n5,?_⟩;rw[hx.seq];refine be (λe=>ay (Bs:=[]) H7 (a2 n8 (b2 (.inr (.inr n7))))) λe8=>?_;refine⟨?_,H7⟩;unfold dO;rw[nq pa,nq D5,nq ah,nq e5,nq];rintro(h|h|h)
  .rw[<-J]at h;rw[h]at c6;exact e6 (by rw[c6];rfl)
  .omega
  .omega
 rintro _ h8 ⟨hr,H8⟩;obtain⟨z1,z2,z3,z4,z5⟩:=uk hr;have i6:¬m.p.1*m.p.2.2*8<(n4 b:Int):=λh=>z4 (.inl h);have mc:n4 m.objs<=11:=by have:¬12<=n4 m.objs:=λh=>z4 (.inr h);omega
 have gl:live≠[]:=λh=>z5 (.inl (by rw[<-J];exact h));have gi:m.next<=16777215:=by have:¬16777215<m.next:=λh=>z5 (.inr (.inl h));omega
 have l7:m.seq<=2147483646:=by have:¬2147483647<=m.seq:=λh=>z5 (.inr (.inr h));omega
 have l1:c.size<=12:=by unfold gJ at z2;simp at z2;omega
 have ef:=Qk hp i6;have d9:∀{e:Int×aB×Pow×aF},(match cR m.p m.next (splitB m.p b).length with
   |none=>(8,m,w,ds)
   |some t=>
    let live:=aY ds m.drives;let l:=dt m m.next t (splitB m.p b) live (splitB m.p b).length;let n:=nC m ⟨c,m.next,n4 b,t⟩;let N:=cj (bG n).length l
    if ik m ds live N=false then(7,m,w,ds)else
    if(makes m N live w ds).1≠0 then((makes m N live w ds).1,m,(makes m N live w ds).2)else
    let r2:=layAll l (makes m N live w ds).2.1 (makes m N live w ds).2.2
    if r2.1≠0 then(r2.1,m,r2.2)else
    ((layAll (bj n live) r2.2.1 r2.2.2).1,if(layAll (bj n live) r2.2.1 r2.2.2).1=0 then n else m,(layAll (bj n live) r2.2.1 r2.2.2).2))=e->eG m offs w ds c b=e:=λ{e} he=>by
  unfold eG;rw[nq (by rw[hr];decide)];exact he
 obtain⟨bl,a6⟩:=I5 (splitB m.p b)
 have dy:∀r∈bl,n4 r=cN m.p:=by rw[a6];intro r hr;unfold splitB at hr;obtain⟨i,_,rfl⟩:=qI.1 hr;exact JC _ _ _
 rw[<-a6]at ef d9;refine⟨a,n5,x.2.1,(aa.cP H8).2.cell n5,H8.alloc ag n5 λI h9 H9=>?_⟩;have H9:=H9.bc;refine H9.storeAll ag 0 n5 n5 (bg (c,x.2.1,(s.len:Int),⟨eH,0,0⟩)) n5 n5 n5 n5 λf2 a8=>?_;have a8:aa B h0 f2 (an I 83 (bg (c,m.next,(n4 b:Int),⟨eH,0,0⟩))::aJ bC a pw (aD x) offs da w ds::bn x m::an a3 24 [xH xN m.p.1,xH xN m.p.2.1,xH xN m.p.2.2]::ai 3 W 1 ar live::As):=by rw[<-hx.next,<-g7];exact a8
 have a8:=a8.aG 5 [1,2,3,4,0];rw[hx.next];refine(HM W live 0 f2 (a8.seq 3 n5 λ_=>rfl) n7 V).I3 λm9 i7=>?_;rw[Wb];refine⟨dq [],n5,(a8.up i7.ac).alloc ag n5 λa22 l9 d5=>?_⟩;have d5:=d5.bc;refine d5.storeAll ag 0 n5 n5 (di (dq [])) n5 (by rw[qm,ir]) (by unfold di;rw[List.all_map];exact qP.2 λx _=>rfl) (by rw[qm,ir];rfl) λk0 b4=>?_;have b4:=b4.aG 6 [1,2,3,4,5,0];refine⟨m.p,(b4.box 2 n5).aw _ n5,(NM m.p s b k0 hp (hS.at [_,_,_,_,_,_] b4) j6 n7).I4 λq l8 eo=>?_⟩;rw[<-a6]at eo;obtain⟨rs,a1⟩:=aa.GR (b4.bQ eo) λ_=>rfl;have a1:=(((a1.LI 167 2 piv dR).bc).nil 3 1 ar).bc;have l4:=(a1.dg 2 n5).1.len;have k9:=(a1.dg 2 n5).2.1;refine⟨q,n5,?_⟩;have a1:=a1.aG 9 [3,4,5,6,7,0,8,2,1];refine aj (λt:Sl×Nat×aC×Sl=>(t.1,(t.2.1:Int))) (λt h'=>t.2.1<=n4 bl/\cR m.p m.next t.2.1=dB t.2.2.1/\aa B h0 h' (aJ bC a pw (aD x) offs da w ds::bn x m::an a3 24 [xH xN m.p.1,xH xN m.p.2.1,xH xN m.p.2.2]::ai 3 W 1 ar live::an I 83 (bg (c,m.next,(n4 b:Int),t.2.2.2))::ai 3 t.2.2.2 1 ar (t.2.2.1)::an a22 113 (di (dq (dt m m.next t.2.2.1 bl live t.2.1)))::ci (fV 1 aq) 1 bv q rs bl::dK 167 t.1 2 piv dR (dt m m.next t.2.2.1 bl live t.2.1)::As)) (λt=>n4 bl-t.2.1) (⟨eH,0,0⟩,0,[],⟨eH,0,0⟩) n5 ⟨qX _,n5,a1⟩ ?_;rintro⟨o,i,T,tr⟩ mx ⟨hi,hT,ab⟩;dsimp only at hi hT ab⊢;have fs:=kz hT;refine ae (λe=>?_) λe=>?_
 rotate_left
 .have d3:i=n4 bl:=n7
  rw[d3]at hT ab;obtain⟨P,hP⟩:=I5 (dt m m.next T bl live bl.length)
  rw[<-hP]at ab;obtain⟨pc,ab⟩:=ab.Fu 8 rfl λ_=>rfl;obtain⟨E,hE⟩:∃E:Qw.cT,E=⟨c,m.next,n4 b,T⟩:=⟨_,rfl⟩
  obtain⟨n,b1⟩:=I5 (nC m E)
  obtain⟨F,ec⟩:=I5 (n4 (bG n))
  have gd:=mX (m:=n);rw[<-ec]at gd;have hu:bE n=eX:=by rw[b1,hE];exact MY hm hr (by rw[<-a6];exact hT)
  have f5:=jH hu;have k7:n4 T=n4 bl:=kz hT;have hs:n4 P<=8*32:=by rw[hP,mL];exact zr n7 n7
  have fb:∀{e:Int×aB×Pow×aF},(
    if ik m ds live (cj F P)=false then(7,m,w,ds)else
    if(makes m (cj F P) live w ds).1≠0 then((makes m (cj F P) live w ds).1,m,(makes m (cj F P) live w ds).2)else
    if(layAll P (makes m (cj F P) live w ds).2.1 (makes m (cj F P) live w ds).2.2).1≠0 then((layAll P (makes m (cj F P) live w ds).2.1 (makes m (cj F P) live w ds).2.2).1,m,(layAll P (makes m (cj F P) live w ds).2.1 (makes m (cj F P) live w ds).2.2).2)else
    ((layAll (bj n live) (layAll P (makes m (cj F P) live w ds).2.1 (makes m (cj F P) live w ds).2.2).2.1 (layAll P (makes m (cj F P) live w ds).2.1 (makes m (cj F P) live w ds).2.2).2.2).1,if(layAll (bj n live) (layAll P (makes m (cj F P) live w ds).2.1 (makes m (cj F P) live w ds).2.2).2.1 (layAll P (makes m (cj F P) live w ds).2.1 (makes m (cj F P) live w ds).2.2).2.2).1=0 then n else m,(layAll (bj n live) (layAll P (makes m (cj F P) live w ds).2.1 (makes m (cj F P) live w ds).2.2).2.1 (layAll P (makes m (cj F P) live w ds).2.1 (makes m (cj F P) live w ds).2.2).2.2).2))=e->eG m offs w ds c b=e:=λ{e} he=>by
   refine d9 ?_;rw[hT];rw[ec,b1,hE,hP,J]at he;exact he
  refine(HO x m (ab.at 1 n5) hz n7 ab).I4 λy lc i0=>⟨y,n5,(ab.bQ i0).alloc ag n5 λM la eh=>?_⟩;have eh:=eh.bc;refine eh.storeAll ag 0 n5 n5 (aD y) n5 n5 n5 n5 λj4 ej=>?_;have im:ct j4 y (ij m):=ej.at 1 n5;refine⟨y.2.1,(ej.box 0 n5).cell n5,?_⟩;have h5:y.2.1=m.next:=im.next
  try dsimp only
  rw[h5,af (m.next+1)];refine ej.store ag 0 n5 n5 1 [xH xN (m.next+1)] n5 n5 n5 pb λcd d4=>?_;obtain⟨S,a5⟩:∃S:Sl->bi,S=λo=>(y.1,m.next+1,y.2.2.1,y.2.2.2.1,y.2.2.2.2.1,y.2.2.2.2.2.1,y.2.2.2.2.2.2.1,o):=⟨_,rfl⟩
  obtain⟨O,dx⟩:=I5 y.2.2.2.2.2.2.2
  have d4:aa B h0 cd (an M 27 (aD (S O))::bn y (ij m)::aJ bC a pw (aD x) offs da w ds::bn x m::an a3 24 [xH xN m.p.1,xH xN m.p.2.1,xH xN m.p.2.2]::ai 3 W 1 ar live::an I 83 (bg (c,m.next,(n4 b:Int),tr))::ai 3 tr 1 ar (T)::an a22 113 (di (dq (P)))::ci (fV 1 aq) 1 bv q rs bl::ci dR 2 piv o pc P::As):=by rw[a5,dx];exact d4
  obtain⟨ys,al⟩:=aa.VY (d4.aG 2 [1,0]);have hF:∀{h':m5} {Bs:List HP},aa B h0 h' (pR y (ij m) ys::Bs)->fO gH 4 bg h' O ys m.objs:=λ{h' Bs} H=>by rw[dx];exact(H.at 0 rfl:kS h' _ y (ij m)/\Fix gH 4 bg h' _ y.2.2.2.2.2.2.2 ys (ij m).objs).2
  have g5:n4 ys=n4 m.objs:=(hF al).2.1;have ho:O.len=n4 ys:=(hF al).1.len;have k1:O.len<=O.cap:=by rw[dx];exact(al.at 0 rfl:kS cd _ y (ij m)/\Fix gH 4 bg cd _ y.2.2.2.2.2.2.2 ys (ij m).objs).1.ocap
  have L:∀{h':m5} {Bs:List HP},aa B h0 h' (pR y (ij m) ys::an M 27 (aD (S O))::Bs)->cellOf h' (M.add 7)=dB (xI O.ptr O.len O.cap):=λH=>(H.box 1 n5).cell (by rw[a5];rfl);refine bs (λ(t:Int) h'=>∃k:Nat,t=k/\k<=n4 m.objs/\(∀e∈m.objs.take k,cQ e.name c=eX)/\(∀hk:k<n4 m.objs,cQ m.objs[k].name c=false)/\aa B h0 h' (pR y (ij m) ys::an M 27 (aD (S O))::aJ bC a pw (aD x) offs da w ds::bn x m::an a3 24 [xH xN m.p.1,xH xN m.p.2.1,xH xN m.p.2.2]::ai 3 W 1 ar live::an I 83 (bg (c,m.next,(n4 b:Int),tr))::ai 3 tr 1 ar (T)::an a22 113 (di (dq (P)))::ci (fV 1 aq) 1 bv q rs bl::ci dR 2 piv o pc P::As)) ?_ ?_
  .refine aj (λk:Nat=>(k:Int)) (λk h'=>k<=n4 m.objs/\(∀e∈m.objs.take k,cQ e.name c=eX)/\h'=cd) (λk=>n4 m.objs-k) 0 n5 ⟨qX _,λe he=>(by simp at he),n5⟩ ?_;rintro k i1 ⟨hk,U,rfl⟩
   try dsimp only
   refine aE ⟨O,L al,ae (λe2=>?_) λe2=>⟨k,n5,hk,U,λb5=>absurd b5 n7,al⟩⟩;have b5:k<n4 m.objs:=n7
   obtain⟨f3,ha,zz,hc,rfl⟩:=(hF al).1.cG (g:=bg) (i:=(k:Int)) k rfl n7 (ys[k]'n7) rfl (K:=λt=>t=ys[k]'n7) rfl;have q0:cellOf i1 (f3.add ((k:Int).toNat*4))=dB (xK m.objs[k].name):=by rw[<-(Fix.row (hF al) b5).1.1];exact hc.1
   refine⟨O,L al,f3,ha,m.objs[k].name,q0,aT (λe3=>⟨k+1,o0,⟨b5,λe he=>?_,n5⟩,n7⟩) λe3=>⟨k,n5,hk,U,λ_=>e3,al⟩⟩;rw[az _ _ b5,qx,qB]at he;rcases he with he|rfl
   .exact U e he
   .exact e3
  rintro t mr ⟨k,rfl,hk,U,fz,a0⟩;have dk:n.objs=m.objs.take k++E::m.objs.drop k:=by rw[b1];refine Yr ((cJ m).1 hm).2.2.2.2.2.1 (by rw[hE];exact JQ z3) hk (by rw[hE];exact U) (by rw[hE];exact fz)
  obtain⟨xe,eg⟩:∃xe:dH,xe=(c,m.next,(n4 b:Int),tr):=⟨_,rfl⟩
  refine bs (λ(_:Unit) h'=>∃r:Sl,aa B h0 h' (an M 27 (aD (S r))::bn (S r) n::aJ bC a pw (aD x) offs da w ds::bn x m::ai 3 W 1 ar live::an a22 113 (di (dq P))::ci dR 2 piv o pc P::As)) ?_ ?_
  .have b3:∀{h':m5},bV h' I 83 (bg (c,m.next,(n4 b:Int),tr))->aZ h' I 0 (bg xe):=λ{h'} hb=>by rw[eg];exact hb.aw _ n5
   have hl:∀{h':m5},cellOf h' (M.add 7)=dB (xI O.ptr O.len O.cap)->bV h' I 83 (bg (c,m.next,(n4 b:Int),tr))->bx.ok [(M.add 7,xI O.ptr O.len O.cap),(I,xK xe.1),(I.add 1,xH xN xe.2.1),(I.add 2,xH xN xe.2.2.1),(I.add 3,xI xe.2.2.2.ptr xe.2.2.2.len xe.2.2.2.cap)] h':=λ{h'} h7 hb=>by
    rw[eg];exact⟨h7,hb.cell0 n5,hb.cell n5,hb.cell n5,hb.cell n5,I6⟩
   refine⟨O,L a0,xe,b3 (a0.box 6 n5),O,L a0,⟨ze _,n7⟩,?_⟩;rw[qi];have hv:k<=n4 ys:=n7
   have fin:∀{h':m5} (v:Sl),aa B h0 h' (ai 83 v 4 bg ([xe]++ys.drop k)::pR y (ij m) ys::an M 27 (aD (S O))::aJ bC a pw (aD x) offs da w ds::bn x m::an a3 24 [xH xN m.p.1,xH xN m.p.2.1,xH xN m.p.2.2]::ai 3 W 1 ar live::an I 83 (bg (c,m.next,(n4 b:Int),tr))::ai 3 tr 1 ar (T)::an a22 113 (di (dq (P)))::ci (fV 1 aq) 1 bv q rs bl::ci dR 2 piv o pc P::As)->
     bF xR (q6 #[25,25] 25 #[xI O.ptr k k,v]) (.one (.sc .slc)) h' λv2 h2=>(bx.ok [(M.add 7,xI O.ptr O.len O.cap)] h2)/\av xR (Instr.storeAt 25 (xJ (dB (M.add 7))) (xI v2.ptr v2.len v2.cap)) h2 λ_ h3=>(bx.ok [] h3)/\∃r:Sl,aa B h0 h3 (an M 27 (aD (S r))::bn (S r) n::aJ bC a pw (aD x) offs da w ds::bn x m::ai 3 W 1 ar live::an a22 113 (di (dq P))::ci dR 2 piv o pc P::As):=λ{h'} v H=>by
    have jj:=(H.own 0 n5).len;have ht:=(hF (H.aG 2 [1,0])).1.take k hv;rw[qo,wx]at jj;refine H.Ef (s:=⟨O.ptr,k,k⟩) ag mF ⟨_,_,n5,n5⟩ n5 n8 (λ_=>rfl) ⟨ht.len,ht.elem⟩ (qj _) n9 (H.seq 0 n5 λ_=>rfl) oi λr h2 H2=>?_;have H2:=H2.bc;refine⟨⟨L (H2.aG 4 [2,3]),I6⟩,H2.store ag 3 n5 n5 7 [r] n5 n5 n5 (by rw[a5];simp[Value.cells]) λh3 H3=>⟨I6,r,?_⟩⟩;have g0:(aD (S O)).take 7++[(r:Value)]++(aD (S O)).drop (7+1)=aD (S r):=by rw[a5];rfl
    have H4:aa B h0 h3 (ai 83 r 4 bg (ys.take k++([xe]++ys.drop k))::ai 83 v 4 bg ([xe]++ys.drop k)::pR y (ij m) ys::an M 27 (aD (S r))::aJ bC a pw (aD x) offs da w ds::bn x m::an a3 24 [xH xN m.p.1,xH xN m.p.2.1,xH xN m.p.2.2]::ai 3 W 1 ar live::an I 83 (bg (c,m.next,(n4 b:Int),tr))::ai 3 tr 1 ar (T)::an a22 113 (di (dq (P)))::ci (fV 1 aq) 1 bv q rs bl::ci dR 2 piv o pc P::As):=by rw[<-g0];exact H3
    have H5:=H4.dW 9 n5 (D:=Tj [(xe,E)]) λz hz t ht=>by
     rw[qB.1 ht,eg,hE];exact⟨⟨n5,n5,n5⟩,hz.1.seq (λ_=>rfl) hz.2⟩
    have H6:=H5.aG 13 [2,0,9,3,4,5,7,10,12];have b0:=(H6.at 0 rfl:kS h3 _ y (ij m)/\Fix gH 4 bg h3 _ y.2.2.2.2.2.2.2 ys (ij m).objs).1;refine(aa.VZ (x:=y) (m:=ij m) (x2:=S r) (m2:=n) (by rw[a5,b1];exact⟨b0.seq,n5,b0.p,b0.extra⟩) (by rw[a5]) (by rw[b1];rfl) (by rw[a5]) (by rw[dk];simp[g5]) (λp hp=>?_) H6).aG 2 [1,0];rw[dk,List.zip_append (by simp[g5])]at hp;show p∈ys.zip m.objs∨_;rw[<-List.take_append_drop k (ys.zip m.objs)];rcases qx.1 hp with hp|hp
    .exact .inl (List.mem_append_left _ (by rw[List.zip,List.take_zipWith];exact hp))
    .rw[List.singleton_append,List.zip_cons_cons]at hp;rcases List.mem_cons.1 hp with hp|hp
     .exact .inr (by rw[hp];simp)
     .exact .inl (List.mem_append_right _ (by rw[List.zip,List.drop_zipWith];exact hp))
   have app:∀{h':m5} {v:Sl} {K:Sl->m5->Prop},aa B h0 h' (ai 83 v 4 bg [xe]::pR y (ij m) ys::an M 27 (aD (S O))::aJ bC a pw (aD x) offs da w ds::bn x m::an a3 24 [xH xN m.p.1,xH xN m.p.2.1,xH xN m.p.2.2]::ai 3 W 1 ar live::an I 83 (bg (c,m.next,(n4 b:Int),tr))::ai 3 tr 1 ar (T)::an a22 113 (di (dq (P)))::ci (fV 1 aq) 1 bv q rs bl::ci dR 2 piv o pc P::As)->(∀v' cf,aa B h0 cf (ai 83 v' 4 bg ([xe]++ys.drop k)::pR y (ij m) ys::an M 27 (aD (S O))::aJ bC a pw (aD x) offs da w ds::bn x m::an a3 24 [xH xN m.p.1,xH xN m.p.2.1,xH xN m.p.2.2]::ai 3 W 1 ar live::an I 83 (bg (c,m.next,(n4 b:Int),tr))::ai 3 tr 1 ar (T)::an a22 113 (di (dq (P)))::ci (fV 1 aq) 1 bv q rs bl::ci dR 2 piv o pc P::As)->K v' cf)->
     bF xR (q6 #[25,25] 25 #[v,.slice (if O.cap=k then O.ptr else O.ptr.map (·.add (k*4))) (O.len-k) (O.cap-k)]) (.one (.sc .slc)) h' K:=λ{h' v K} H hK=>
    H.append ag 0 n5 mF ⟨_,_,n5,n5⟩ n5 n8 (λ_=>rfl) ((hF (H.aG 2 [1,0])).1.drop k k1) Ar oi λv' cf H'=>hK v' cf H'
   refine⟨?_,?_⟩
   .refine gX ag mF k n5 n5 n7 ⟨hl (L a0) (a0.box 6 n5),?_⟩;refine a0.lit ag bg mF n5 [xe] n5 (show 1*4<=2^20 by decide) o5 λv m0 ca=>?_;have ca:=ca.bc;refine⟨⟨L (ca.aG 3 [1,2]),I6⟩,app ca λv' mn fn=>⟨⟨L (fn.aG 3 [1,2]),I6⟩,fin v' fn⟩⟩
   .refine a0.lit ag bg mF n5 [xe] n5 (show 1*4<=2^20 by decide) o5 λv l0 a4=>?_;have a4:=a4.bc;refine⟨⟨L (a4.aG 3 [1,2]),L (a4.aG 3 [1,2]),I6⟩,?_,?_⟩
    .refine gX ag mF k n5 n5 n7 ⟨⟨L (a4.aG 3 [1,2]),I6⟩,?_⟩;exact app a4 λv' lw gs=>⟨⟨L (gs.aG 3 [1,2]),I6⟩,fin v' gs⟩
    .refine app a4 λv' l5 c0=>⟨⟨L (c0.aG 3 [1,2]),L (c0.aG 3 [1,2]),I6⟩,?_⟩
     exact gX ag mF k n5 n5 n7 ⟨⟨L (c0.aG 3 [1,2]),I6⟩,fin v' c0⟩
  rintro _ l2 ⟨r,j9⟩;have el:∀{h':m5} {w':Pow} {ax:aF} {c9:aC},aa B h0 h' (an M 27 (aD (S r))::bn (S r) n::aJ bC a pw (aD x) offs da w' ax::bn x m::ai 3 W 1 ar live::an a22 113 (di c9)::ci dR 2 piv o pc P::As)->aa B h0 h' (aJ bC a pw (aD x) offs da w' ax::bn x m::ai 3 W 1 ar live::an a22 113 (di c9)::ci dR 2 piv o pc P::an M 27 (aD (S r))::bn (S r) n::As):=λH=>H.aG 7 [2,3,4,5,6,0,1];have k4:∀k:Int,(n4 (P.filter λy=>decide (y.1=k)):Int)<=256:=λk=>by
   have:=qH (λy:Int×aR=>decide (y.1=k)) P;omega
  refine aj (λj:Nat=>(j:Int)) (λj h'=>j<=n4 live/\aa B h0 h' (an M 27 (aD (S r))::bn (S r) n::aJ bC a pw (aD x) offs da w ds::bn x m::ai 3 W 1 ar live::an a22 113 (di (pS (live.take j) (dq P) F))::ci dR 2 piv o pc P::As)) (λj=>n4 live-j) 0 n5 ⟨qX _,j9⟩ ?_;rintro j jp ⟨hj,R⟩
  try dsimp only
  refine ae (λe2=>?_) λe2=>?_
  .have cc:j<n4 live:=n7
   have X:=V _ (qe cc);obtain⟨Y,bq⟩:∃Y:Nat,live[j]=(Y:Int):=⟨live[j].toNat,n7⟩
   obtain⟨G,hG⟩:=I5 (pS (live.take j) (dq P) F)
   have eb:n4 G=64:=by rw[hG,FX,ir]
   rw[<-hG]at R;have mo:G.getD Y 0<=256+9/\0<=G.getD Y 0:=by have h1:=FY (F:Int) (l:=live.take j) (ir P) (c7.sublist (List.take_sublist _ _)) (λy hy=>V y (List.mem_of_mem_take hy)) (Y:Int) n7 n7;rw[<-hG,qi,rS P]at h1;have:=k4 Y;rw[h1];split<;>omega
   have ea:pS (live.take (j+1)) (dq P) F=G.set Y (G.getD Y 0+F):=by rw[az _ _ cc,We,bq,qi,<-hG]
   refine(R.seq 4 n5 λ_=>rfl).aV j n5 cc live[j] n5 ?_;rw[bq]at X⊢;refine⟨⟨X.1,X.2⟩,G.getD Y 0,AG eb n7 (R.box 5 n5),S r,(R.box 0 n5).aw _ n5,(ma (S r) n jp (R.at 1 n5) f5).I4 λpg nd f6=>?_⟩;have e9:=(aa.lE f6).1;have f4:=R.up f6.ac;refine⟨pg,n5,⟨AG eb n7 (f4.box 5 n5),I6⟩,⟨X.1,X.2⟩,?_⟩;rw[qi,zG,e9,<-ec,af _];refine f4.storeAt ag 5 n5 n5 (off:=Y) n5 n5 n5 (by rw[qm,eb];omega) λb7 k2=>⟨I6,?_⟩
   refine⟨j+1,o0,⟨cc,?_⟩,n7⟩;have e4:di (G.set Y (G.getD Y 0+F))=(di G).set Y (xH xN (G.getD Y 0+F)):=by unfold di;rw[xE]
   rw[ea,e4];exact k2
  have ip:j=n4 live:=n7
  rw[ip,qt]at R;obtain⟨NF,d6⟩:=I5 (pS live (dq P) F)
  have b7:n4 NF=64:=by rw[d6,FX,ir]
  rw[<-d6]at R;have eq:∀k∈live,(λk:Int=>NF.getD k.toNat 0) k=cj F P k:=λk hk=>by
   have X:=V k hk;have h1:=FY (F:Int) (l:=live) (ir P) c7 V k X.1 X.2;obtain⟨Y,rfl⟩:∃Y:Nat,k=(Y:Int):=⟨k.toNat,n7⟩
   try dsimp only
   rw[d6,h1,m6 hk,qi,rS P];unfold cj;omega
  have R:=el R;have tX:∀{h':m5} {w':Pow} {ax:aF} {Bs:List HP},aa B h0 h' (aJ bC a pw (aD x) offs da w' ax::bn x m::ai 3 W 1 ar live::Bs)->Rd h' W 1 ar live:=λH=>H.seq 2 n5 λ_=>rfl;have out:∀{h':m5} {w':Pow} {ax:aF} {e:Int},aa B h0 h' (aJ bC a pw (aD x) offs da w' ax::bn x m::ai 3 W 1 ar live::an a22 113 (di NF)::ci dR 2 piv o pc P::an M 27 (aD (S r))::bn (S r) n::As)->eG m offs w ds c b=(e,m,w',ax)->(Value.int .i64 e=xH xN (eG m offs w ds c b).1/\
    ∃y,aa B h0 h' (aJ bC a pw (aD y) offs da (eG m offs w ds c b).2.2.1 (eG m offs w ds c b).2.2.2::bn y (eG m offs w ds c b).2.1::As)):=λ{h' w' ax e} H' he=>by
   rw[he];exact⟨n5,x,H'.aG 7 [0,1]⟩
  refine⟨NF,⟨b7,(R.box 3 n5).aw _ (qt ..)⟩,(Ka x m W live NF b7 (R.at 1 n5) hz (tX R) n7 V R).I3 λll hw=>?_⟩;have ei:=R.up hw.ac;rw[HQ eq];refine⟨_,n5,aH (λg=>out ei (fb (by rw[m6 g]))) λg=>?_⟩;refine⟨NF,⟨b7,(ei.box 3 n5).aw _ (qt ..)⟩,(HN x m W live NF b7 (St.and (St.dU 0 n5 λh' hq=>hq) (St.dU (A:=ai 3 W 1 ar live) 1 n5 λh' hq=>hq.1.seq (λ_=>rfl) hq.2)) hz n7 V ei).mono ?_⟩;rw[Ac eq];rintro _ li ⟨rfl,d7⟩;have am:∀{e:Int×aB×Pow×aF},(
    if(makes m (cj F P) live w ds).1≠0 then((makes m (cj F P) live w ds).1,m,(makes m (cj F P) live w ds).2)else
    if(layAll P (makes m (cj F P) live w ds).2.1 (makes m (cj F P) live w ds).2.2).1≠0 then((layAll P (makes m (cj F P) live w ds).2.1 (makes m (cj F P) live w ds).2.2).1,m,(layAll P (makes m (cj F P) live w ds).2.1 (makes m (cj F P) live w ds).2.2).2)else
    ((layAll (bj n live) (layAll P (makes m (cj F P) live w ds).2.1 (makes m (cj F P) live w ds).2.2).2.1 (layAll P (makes m (cj F P) live w ds).2.1 (makes m (cj F P) live w ds).2.2).2.2).1,if(layAll (bj n live) (layAll P (makes m (cj F P) live w ds).2.1 (makes m (cj F P) live w ds).2.2).2.1 (layAll P (makes m (cj F P) live w ds).2.1 (makes m (cj F P) live w ds).2.2).2.2).1=0 then n else m,(layAll (bj n live) (layAll P (makes m (cj F P) live w ds).2.1 (makes m (cj F P) live w ds).2.2).2.1 (layAll P (makes m (cj F P) live w ds).2.1 (makes m (cj F P) live w ds).2.2).2.2).2))=e->eG m offs w ds c b=e:=λ{e} he=>fb (by rw[nq D9];exact he)
  obtain⟨m1,f0⟩:=I5 (makes m (cj F P) live w ds)
  rw[<-f0]at d7 am⊢;refine⟨_,n5,?_⟩;by_cases g1:m1.1=0
  rotate_left
  .refine aE (be (λe=>absurd e g1) λ_=>aE (be (λe=>absurd e g1) λ_=>aE (be (λe=>absurd e g1) λ_=>out d7 (am (by rw[m6 g1])))))
  refine aE (be (λ_=>?_) λe=>absurd g1 e);have c1:Has m1.2.2 live:=by rw[f0,J];exact Has.makes (Has.live (aa.cP R).1.ls)
  have c8:∀y∈P,y.1∈live/\y.2.length<=64:=λy hy=>by rw[hP]at hy;exact FR ⟨n7,gi⟩ gl V ef hy
  refine(JO o pc P (St.dU (A:=ci dR 2 piv o pc P) 3 n5 λh' hq=>hq) n7 (λy hy=>by have:=(c8 y hy).2;omega) (c1.sub λk hk=>by obtain⟨y,hy,rfl⟩:=qI.1 hk;exact(c8 y hy).1) d7).I3 λlz cr=>?_;obtain⟨m2,f9⟩:=I5 (layAll P m1.2.1 m1.2.2)
  rw[<-f9]at cr am⊢;rw[nq (by rw[g1];decide)]at am;refine⟨_,n5,?_⟩;by_cases g2:m2.1=0
  rotate_left
  .refine aE (be (λe=>absurd e g2) λ_=>aE (be (λe=>absurd e g2) λ_=>out cr (am (by rw[m6 g2]))))
  refine aE (be (λ_=>?_) λe=>absurd g2 e);have ed:Has m2.2.2 live:=by rw[f9];exact c1.lay P _
  refine⟨S r,(cr.box 5 n5).aw _ n5,(xZ (S r) n W live (St.and (St.dU (A:=bn (S r) n) 5 n5 λh' hq=>hq) (St.dU (A:=ai 3 W 1 ar live) 1 n5 λh' hq=>hq.1.seq (λ_=>rfl) hq.2)) f5 n7 ed cr).I3 λl6 cq=>?_⟩;obtain⟨m3,i8⟩:=I5 (layAll (bj n live) m2.2.1 m2.2.2)
  rw[<-i8]at cq am⊢;rw[nq (by rw[g2];decide)]at am;refine⟨_,n5,?_⟩;by_cases g3:m3.1=0
  rotate_left
  .refine aE (be (λe=>absurd e g3) λ_=>out cq (am (by rw[nq g3])))
  refine aE (be (λ_=>?_) λe=>absurd g3 e);refine⟨S r,(cq.box 5 n5).aw _ n5,a,n5,NE x (S r) cq λld j2=>?_⟩;rw[am n5,m6 g3];exact⟨n5,S r,j2.aG 7 [0,6]⟩
 have bb:i<n4 bl:=n7
 obtain⟨P,hP⟩:=I5 (dt m m.next T bl live i)
 rw[<-hP]at ab;have j8:=ab.dg 7 n5;refine j8.1.aV i n5 n7 (rs[i]'n7) n5 ?_;refine bs (λ(t:Int) h'=>((lK m.p m.next i=eH/\t=16)∨∃n:Nat,n<16/\lK m.p m.next i=dB n/\t=n)/\aa B h0 h' (aJ bC a pw (aD x) offs da w ds::bn x m::an a3 24 [xH xN m.p.1,xH xN m.p.2.1,xH xN m.p.2.2]::ai 3 W 1 ar live::an I 83 (bg (c,m.next,(n4 b:Int),tr))::ai 3 tr 1 ar (T)::an a22 113 (di (dq (P)))::ci (fV 1 aq) 1 bv q rs bl::dK 167 o 2 piv dR (P)::As)) ?_ ?_
 .refine aj (λk:Nat=>(k:Int)) (λk h'=>k<=16/\(∀j,j<k->uQ m.p m.next i j=false)/\aa B h0 h' (aJ bC a pw (aD x) offs da w ds::bn x m::an a3 24 [xH xN m.p.1,xH xN m.p.2.1,xH xN m.p.2.2]::ai 3 W 1 ar live::an I 83 (bg (c,m.next,(n4 b:Int),tr))::ai 3 tr 1 ar (T)::an a22 113 (di (dq (P)))::ci (fV 1 aq) 1 bv q rs bl::dK 167 o 2 piv dR (P)::As)) (λk=>16-k) 0 n5 ⟨qX _,λj hj=>absurd hj (xt _),ab⟩ ?_;rintro k hg ⟨hk,U,d8⟩
  try dsimp only
  refine aE (ae (λe2=>?_) λe2=>?_)
  rotate_left
  .have gt:k=16:=n7
   exact⟨I6,I6,.inl ⟨Wd (by rw[gt]at U;exact U),n7⟩,d8⟩
  have bd:=d8.box 2 n5;refine⟨m.p,bd.aw _ n5,(rk m.next i k hg).I2 ?_⟩;refine⟨_,n5,⟨bd.cell0 n5,bd.cell n5,bd.cell n5,I6⟩,(BX m.p (fl m.next i k) _).I3 λnb j3=>?_⟩;have gk:=d8.up j3.ac;refine⟨_,n5,I6,aH (λe3=>⟨k+1,o0,⟨n7,λj hj=>?_,gk⟩,n7⟩) λe3=>⟨.inr ⟨k,n7,aaz n7 U e3,n5⟩,gk⟩⟩;by_cases ka:j=k
  .rw[ka];exact e3
  .exact U j n7
 rintro t md ⟨ht,d2⟩;rcases ht with⟨hno,rfl⟩|⟨n,hn16,hsm,rfl⟩
 .refine be (λ_=>ay (Bs:=[]) (d2.aG 9 [0,1,2,3]) (d9 ?_)) λe=>absurd n5 e;have:cR m.p m.next bl.length=eH:=Wc (i:=i+1) (by unfold cR;rw[hT,Option.bind_some,hno];rfl) _ bb;rw[this]
 refine be (λe=>n7) λ_=>?_;refine⟨tr,(d2.box 4 n5).cell n5,?_⟩;refine d2.push ag 5 n5 fu n5 n8 (λ_=>rfl) db (n:Int) n5 n8 n7 λap l3 g8=>?_;refine g8.store ag 4 n5 n5 3 [ap] n5 n5 n5 oo λjn d0=>?_;have iq:cR m.p m.next (i+1)=dB (T++[(n:Int)]):=by unfold cR;rw[hT,Option.bind_some,hsm];rfl
 refine(rk m.next i n jn).I2 ?_;obtain⟨seed,ao⟩:=I5 (fl m.next i n)
 rw[<-ao];refine⟨seed,n5,m.p,(d0.box 2 n5).aw _ n5,?_⟩;have dr:fy m.p seed (fh m.p)=eX:=by rw[ao];exact(De hsm).2.1
 obtain⟨K,Hh,w',nn,BK⟩:=YV (seed:=seed) (d:=bl[i]) hp dr (by rw[dy _ (qe bb),s3]);have c2:=Fix.row (d0.dg 7 n5) bb;refine(Pt m.p seed (rs[i]'n7) bl[i] _ c2.1 c2.2).mono ?_;rintro _ i5 ⟨Q0,_⟩;obtain⟨bk,mm,rfl,it⟩:=Q0 BK.iK;have fr:=((d0.comp it).front).aG 11 [2,3,4,5,6,7,8,9,10,0,1];refine⟨(dB bk,0),n5,(KD m.next i W live i5 (fr.seq 3 n5 λ_=>rfl) n7).I4 λb6 m7 j7=>?_⟩;have f7:=(fr.bQ j7).aG 12 [1,2,3,4,5,6,7,8,9,10,11,0];obtain⟨f,a7⟩:=I5 (jg m.next i live)
 rw[<-a7]at f7;refine⟨b6,n5,?_⟩;obtain⟨ad,br⟩:∃ad:Nat,ad=(m.p.1+m.extra).toNat:=⟨_,rfl⟩
 have cs:ad<=32:=n7
 have i2:(T++[(n:Int)]).getD i 0=(n:Int):=by rw[qg,qk n7,fs,zd];rfl
 have ih:bl.getD i []=bl[i]:=by rw[qg,qd bb];rfl
 obtain⟨Q,hQ⟩:=I5 (nw m m.next (T++[(n:Int)]) bl live i)
 have kx:Q=(qy ad).map λid:Nat=>mK m m.next i seed bl[i] f id:=by rw[hQ];unfold nw;rw[i2,ih,<-ao,<-a7,<-br]
 have i3:n4 Q=ad:=by rw[hQ,Bq,<-br]
 have hs:n4 P<=8*32:=by rw[hP,mL,<-br];exact zr n7 cs
 have hd:dt m m.next (T++[(n:Int)]) bl live (i+1)=P++Q:=by rw[lT,KB m m.next (n:Int) bl live fs,<-hP,hQ]
 refine aj (λt:Sl×Nat=>(t.1,(t.2:Int))) (λt h'=>t.2<=ad/\aa B h0 h' (aJ bC a pw (aD x) offs da w ds::bn x m::an a3 24 [xH xN m.p.1,xH xN m.p.2.1,xH xN m.p.2.2]::ai 3 W 1 ar live::an I 83 (bg (c,m.next,(n4 b:Int),ap))::ai 3 ap 1 ar (T++[(n:Int)])::an a22 113 (di (dq (P++Q.take t.2)))::ci (fV 1 aq) 1 bv q rs bl::dK 167 t.1 2 piv dR (P++Q.take t.2)::dw 41 mm 1 aq (jZ m.p seed bl[i])::an bk 225 (si m.p seed mm)::ai 3 b6 1 ar f::As)) (λt=>ad-t.2) (o,0) n5 ⟨qX _,by simpa using f7⟩ ?_;rintro⟨o2,id⟩ h6 ⟨hid,Z⟩;dsimp only at hid Z⊢;have fa:=(aa.cP Z).2;refine⟨m.p.1,(Z.box 2 n5).cell0 n5,a,n5,x.2.2.2.2.2.1,fa.cell n5,?_⟩;have en:qc xN (m.p.1+x.2.2.2.2.2.1)=(ad:Int):=by rw[hx.extra,af _];omega
 try dsimp only
 rw[en];refine ae (λe3=>?_) λe3=>?_
 rotate_left
 .have d3:id=ad:=n7
  rw[d3,<-i3,qt]at Z;refine⟨(o2,i+1,T++[(n:Int)],ap),oj,⟨bb,iq,?_⟩,n9⟩
  try dsimp only
  rw[hd];exact Z.aG 12 [0,1,2,3,4,5,6,7,8]
 have ep:id<ad:=n7
 refine(Tq b6 f id h6 (Z.seq 11 n5 λ_=>rfl)).I2 ⟨_,n5,?_⟩;have bd:=Z.box 2 n5;have f8:acH _ bk m.p seed (jZ m.p seed bl[i]):=⟨mm,Z.box 10 n5,Z.ov 9 n5⟩
 have dd:Bp m.p seed bl[i] id=if bP id then jN w' (jZ m.p seed bl[i]) (dZ nn seed id)else[]:=by unfold Bp;rw[BK.sA,show m.p.2.2.toNat=w' by have:=BK.s;omega]
 have held:∀{h':m5},bV h' a3 24 [xH xN m.p.1,xH xN m.p.2.1,xH xN m.p.2.2]->bx.ok [(a3,xH xN m.p.1),(a3.add 1,xH xN m.p.2.1),(a3.add 2,xH xN m.p.2.2)] h':=λ{h'} hb=>⟨hb.cell0 n5,hb.cell n5,hb.cell n5,I6⟩
 refine bs (λ(d1:hU) h'=>∃r:Sl,aa B h0 h' (an d1 128 (bB (m.next,(i:Int),(id:Int),m.p.1,m.p.2.1,m.p.2.2,seed,r))::ai 5 r 1 aq (Bp m.p seed bl[i] id)::aJ bC a pw (aD x) offs da w ds::bn x m::an a3 24 [xH xN m.p.1,xH xN m.p.2.1,xH xN m.p.2.2]::ai 3 W 1 ar live::an I 83 (bg (c,m.next,(n4 b:Int),ap))::ai 3 ap 1 ar (T++[(n:Int)])::an a22 113 (di (dq (P++Q.take id)))::ci (fV 1 aq) 1 bv q rs bl::dK 167 o2 2 piv dR (P++Q.take id)::dw 41 mm 1 aq (jZ m.p seed bl[i])::an bk 225 (si m.p seed mm)::ai 3 b6 1 ar f::As)) ?_ ?_
 .refine⟨m.p,bd.aw _ n5,?_,?_⟩
  .refine(AH bk m.p seed id _ nn w' _ f8 hp BK.s BK.sA BK.An.2 BK.An.1).I4 λr le et=>?_;rw[<-dd]at et;have g6:=Z.bQ et;refine⟨r,n5,held (g6.box 3 n5),g6.alloc ag n5 λm5 lb cn=>?_⟩;have cn:=cn.bc;refine⟨held (cn.box 4 n5),?_⟩;exact cn.storeAll ag 0 n5 n5 (bB (m.next,(i:Int),(id:Int),m.p.1,m.p.2.1,m.p.2.2,seed,r)) n5 n5 n5 n5 λml ii=>⟨I6,r,ii⟩
  .refine Z.tE ag n5 λm4 ln ne a9=>?_;have a9:=a9.bc;refine⟨held (a9.box 3 n5),?_⟩;refine(AH bk m.p seed id _ nn w' _ ⟨mm,a9.box 11 n5,a9.ov 10 n5⟩ hp BK.s BK.sA BK.An.2 BK.An.1).I4 λr k8 f1=>?_;rw[<-dd]at f1;have er:=(a9.bQ f1).aG 2 [1,0];refine⟨r,n5,held (er.box 4 n5),?_⟩;exact er.storeAll ag 0 n5 n5 (bB (m.next,(i:Int),(id:Int),m.p.1,m.p.2.1,m.p.2.2,seed,r)) n5 n5 n5 n5 λlk k3=>⟨I6,r,k3⟩
 rintro d1 i9 ⟨r,du⟩;have ek:=ER m.next i n;rw[<-ao]at ek;refine⟨(m.next,(i:Int),(id:Int),m.p.1,m.p.2.1,m.p.2.2,seed,r),(du.box 0 n5).aw _ n5,?_⟩;refine(uo (m.next,(i:Int),(id:Int),m.p.1,m.p.2.1,m.p.2.2,seed,r) (Si m m.next i seed bl[i] id) i9 ⟨⟨n5,n5,n5,n5,n5,ek.1,ek.2⟩,du.seq 1 n5 λ_=>rfl⟩).I4 λu lo ix=>?_;have i4:=(du.bQ ix).dW 0 n5 (D:=EA dR (nv f id,u) (mK m m.next i seed bl[i] f id)) λz hz=>⟨n5,hz.1.seq (λ_=>rfl) hz.2⟩
 have c4:Q[id]'n7=mK m m.next i seed bl[i] f id:=by simp[kx]
 refine⟨u,n5,?_⟩;refine aa.DT ag i4 11 0 n8 (a:=(nv f id,u)) n5 n5 Zy n5 n8 (λ_=>rfl) sY (parts:=#[(0,xM #[xH xN (nv f id),u])]) o5 n8 oi λo3 j5 b9=>?_;have hf:=FR (m:=m) (tries:=T++[(n:Int)]) (bl:=bl) ⟨n7,gi⟩ gl V ef (y:=mK m m.next i seed bl[i] f id) (by
  unfold dt;refine wZ.2 ⟨i,qY.2 bb,?_⟩;rw[<-hQ,<-c4];exact qe _)
 have X:=V _ hf.1;have ew:(mK m m.next i seed bl[i] f id).1=nv f id:=rfl;rw[ew]at X;obtain⟨Y,bq⟩:∃Y:Nat,nv f id=(Y:Int):=⟨(nv f id).toNat,n7⟩
 rw[bq]at X⊢;have es:P++Q.take (id+1)=(P++Q.take id)++[mK m m.next i seed bl[i] f id]:=by rw[az Q id,c4,<-ql]
 have j1:dq (P++Q.take (id+1))=(dq (P++Q.take id)).set Y ((dq (P++Q.take id)).getD Y 0+1):=by rw[es];exact To _ (by rw[ew,bq]) n7
 have k5:(dq (P++Q.take id)).getD Y 0<=8*32+32:=by
  rw[rS _];have h1:=qH (λy:Int×aR=>decide (y.1=(Y:Int))) (P++Q.take id);have h2:n4 (P++Q.take id)<=8*32+32:=by rw[qo,qw];omega
  omega
 have k6:0<=(dq (P++Q.take id)).getD Y 0:=by rw[rS _];omega
 have b9:aa B h0 j5 (emp::an d1 128 (bB (m.next,(i:Int),(id:Int),m.p.1,m.p.2.1,m.p.2.2,seed,r))::ai 5 r 1 aq (Bp m.p seed bl[i] id)::aJ bC a pw (aD x) offs da w ds::bn x m::an a3 24 [xH xN m.p.1,xH xN m.p.2.1,xH xN m.p.2.2]::ai 3 W 1 ar live::an I 83 (bg (c,m.next,(n4 b:Int),ap))::ai 3 ap 1 ar (T++[(n:Int)])::an a22 113 (di (dq (P++Q.take id)))::ci (fV 1 aq) 1 bv q rs bl::dK 167 o3 2 piv dR (P++Q.take (id+1))::dw 41 mm 1 aq (jZ m.p seed bl[i])::an bk 225 (si m.p seed mm)::ai 3 b6 1 ar f::As):=by rw[es];exact b9
 refine⟨⟨X.1,X.2⟩,(dq (P++Q.take id)).getD Y 0,AG (ir _) n7 (b9.box 9 n5),⟨X.1,X.2⟩,?_⟩;rw[qi,zG,af _];refine b9.storeAt ag 9 n5 n5 (off:=Y) n5 n5 n5 (by rw[qm,ir];omega) λm6 g9=>?_;refine⟨(o3,id+1),oj,⟨ep,?_⟩,n9⟩
 try dsimp only
 have e4:di (dq (P++Q.take (id+1)))=(di (dq (P++Q.take id))).set Y (xH xN ((dq (P++Q.take id)).getD Y 0+1)):=by rw[j1];unfold di;rw[xE]
 rw[e4];exact g9.aG 15 [3,4,5,6,7,8,9,10,11,12,13,14]
end
theorem Yt{m:aO}{i:Nat}(h:i<n4 m):aA m i=m[i]:=bf h
theorem NN(a:Sl)(l:Row)(h:m5)(q:Rd h a 1 aq l)(t:n4 l<=2^30):ak xR 270 #[a] h λv h'=>v=xH xN (if gV l<n4 l then(gV l:Int)else-1)/\h'=h:=by
 refine ts Tryz.func270 ?_ (HF (I0 [(6,aI)] [(2,4),(6,16)]));have s:=q.len;refine aj (λi:Nat=>(i:Int)) (λi h'=>h'=h/\i<=n4 l/\∀j (d:j<n4 l),j<i->l[j]=0) (λi=>n4 l-i) 0 n5 ⟨n5,n7,λj _ d=>n7⟩ ?_;rintro i w ⟨rfl,u,b⟩;refine ae (λe=>?_) (λe=>?_)
 .have c:i<n4 l:=n7
  refine q.aV i n5 c _ n5 ?_;refine bt (λo=>?_) (λo=>?_)
  .have k:l[i]≠0:=λr=>o (by rw[r];rfl);have m:gV l=i:=by rw[gV,List.findIdx_eq c];exact⟨by simpa using k,λj d=>by simp[b j n7 d]⟩
   rw[m,m6 c];exact⟨n5,n5⟩
  .refine⟨i+1,o0,⟨n5,n7,λj d p=>?_⟩,n7⟩;rcases q8.1 p with h3|rfl
   .exact b j d h3
   .exact nc.1 o
 .have f:¬gV l<n4 l:=by rw[gV,List.findIdx_lt_length];rintro⟨x,k,g⟩;obtain⟨j,d,rfl⟩:=qE k;rw[b j d n7]at g;simp at g
  rw[nq f];exact⟨n5,n5⟩
theorem IT(a b:Sl)(A B:aO)(m n w:Nat)(h:m5)(ha:dT h a 1 aq A)(hb:dT h b 1 aq B)(hl:n4 A=m)(g2:n4 B=m)(N:1<=m)(X:m<=2^20)(hA:aU n A)(hB:aU w B)(ii:1<=n)(hn:n+w<=64):
  ak xR 193 #[a,b] h λv h'=>(cv A≠n/\v=.tuple #[xI eH 0 0,xH xN 9]/\Sp h h' [])∨(cv A=n/\jb n A B/\∃r:Sl,v=.tuple #[r,xH xN 0]/\Sp h h' [dw 41 r 1 aq (eM n A B)])∨(cv A=n/\¬jb n A B/\v=.tuple #[xI eH 0 0,xH xN 10]/\Sp h h' []):=by
 have c6:n4 B=n4 A:=n7
 have f2:=ha.len;have cp:=hb.len;refine ts Tryz.func193 ?_ (HF (I1 [] [(4,6),(16,36)] (HF (HF (HF (G0 (HF (G7 (G9 [(7,bK),(8,bK),(46,aI)] [(7,10),(46,66)] G6))) (G0 (HF (G7 (G9 [(10,aI)] [(10,15),(66,182)] (HF (G0 (G7 (HF (G0 (G7 (G9 [(11,aI)] [(11,12),(72,82)] G6)) (I1 [] [(82,110)] (HF (I1 [] [(118,136)] (HF (G7 (G9 [(138,aI)] [(13,15),(138,182)] (HF (HF (G0 (G7 (HF (HF (I1 [(154,oe)] [(148,155)] G6)))) G6)))))))))))) G6))))) (I0 [(15,aI)] [(4,6),(15,16),(183,195)])))))))) [(10,(.l [0,1,2,3,4,8,9,10,11,12,5,6,7,13,14,15,16,17])),(20,(.l [0,1,2,3,4,5,6,7,8,10,11,12,13,14,9,15,16,17,18,19])),(26,(.l [0,1,2,3,4,5,6,7,8,9,10,11,12,14,15,16,17,18,19,20,21,22,13,23,24,25,26,27]))];refine aE ?_;refine(lx a A n h ha hA).mono ?_;rintro v L ⟨rfl,rfl⟩;refine⟨_,n5,aH (λe=>o1) λ_=>?_⟩;refine(lx b B w L hb hB).mono ?_;rintro v z ⟨rfl,rfl⟩;refine⟨_,n5,aH (λe=>o1) λ_=>?_⟩;refine bt (λe=>absurd (by rw[f2,cp,c6]) e) λ_=>?_;refine be (λe=>n7) λ_=>?_;refine ha.get 0 n5 n7 λr0 fb=>?_;have am:=fb.len;rw[hA _ (qe _)]at am;rw[am];refine(ur a A n z ha hA).mono ?_;rintro v h4 ⟨rfl,R4⟩;have gt:=CB hA;refine⟨_,n5,ae (λe=>.inl ⟨λhh=>?_,n5,.zip R4.ac⟩) λe0=>?_⟩
 .have e':(cv A:Int)<(n:Int):=e;omega
 have hr:cv A=n:=by have e':¬(cv A:Int)<(n:Int):=e0;omega
 have g9:n<=m:=by have:=mA A hA;omega
 obtain⟨M,hM⟩:=I5 (eE A B)
 have ed:n4 M=m:=by rw[hM,kZ];exact hl
 have e7:aU (n+w) M:=by rw[hM];exact lF n7 hA hB
 have ef:∀k (hk:k<m),(M[k]'n7).take n=A[k]'n7/\(M[k]'n7).drop n=B[k]'n7:=λk hk=>by
  have L:n4 (A[k]'n7)=n:=hA _ (qe _);have e:M[k]'n7=A[k]'n7++B[k]'n7:=by subst hM;simp[eE]
  rw[e,List.take_left' L,List.drop_left' L];exact⟨n5,n5⟩
 have a5:(ba M n).1=n:=by rw[hM,tJ n7 hA];exact hr
 obtain⟨hy,f8⟩:=ha;obtain⟨g3,ej⟩:=hb;have H4:=(((Sp.refl z).up R4.ac).nil 41 1 bv).nil 41 1 bv|>.ZB
 refine aj (λt:Sl×Sl×Nat×List Sl×List Sl×List (Sl×Row)=>(t.1,t.2.1,(t.2.2.1:Int)))
  (λt h'=>t.2.2.1<=m/\Sp z h' [ai 41 t.1 1 bv t.2.2.2.1,ai 41 t.2.1 1 bv t.2.2.2.2.1,fK t.2.2.2.2.2]/\bY t.2.2.2.2.2 (yp n) t.2.2.2.1 (M.take t.2.2.1)/\bY t.2.2.2.2.2 (wS n) t.2.2.2.2.1 (M.take t.2.2.1))
  (λt=>m-t.2.2.1) (⟨eH,0,0⟩,⟨eH,0,0⟩,0,[],[],[]) n5 ⟨oo,H4,bY.nil _ _,bY.nil _ _⟩ ?_
 rintro⟨s,t,k,rs,qs,pool⟩ h5 ⟨hk,H5,ip,iq⟩;dsimp only at*;have gd:n4 rs=k:=by rw[ip.1,qw];omega
 have gi:n4 qs=k:=by rw[iq.1,qw];omega
 refine ae (λe=>?_) (λe=>?_)
 .have e6:k<m:=n7
  obtain⟨mt,md⟩:=ef k e6;have lA:n4 (A[k]'n7)=n:=hA _ (qe _);have lB:n4 (B[k]'n7)=w:=hB _ (qe _);obtain⟨a8,dy,x9,d8,es⟩:=f8.Ih (K:=λ_ r=>Rd z r 1 aq (A[k]'n7)) (i:=(k:Int)) k rfl n7 λ_ _ _ hs _=>hs;obtain⟨fs,du,d2,E,dr⟩:=ej.Ih (K:=λ_ r=>Rd z r 1 aq (B[k]'n7)) (i:=(k:Int)) k rfl n7 λ_ _ _ hs _=>hs;refine⟨a8,dy,x9,dY d8 H5.ac,fs,du,d2,dY E H5.ac,?_⟩;have H6:=H5.nil 5 1 aq;refine H6.append ag 3 n5 cK ⟨_,_,n5,n5⟩ n5 n8 (λ_=>rfl) (Seq.up es H6.ac) cB oi λb6 h7 H7=>⟨⟨dY E H7.ac,I6⟩,?_⟩
  refine H7.lit ag bv cI n5 [b6] n5 (show 1*1<=2^20 by decide) n5 λgs h8 H8=>⟨⟨dY E H8.ac,I6⟩,?_⟩
  refine H8.append ag 0 n5 cI ⟨_,_,n5,n5⟩ n5 n8 (λ_=>rfl) (H8.seq 4 n5 λ_=>rfl) jK oi λs' h9 H9=>⟨⟨dY E H9.ac,I6⟩,?_⟩
  have cq:=H9.nil 5 1 aq;refine cq.append ag 5 n5 cK ⟨_,_,n5,n5⟩ n5 n8 (λ_=>rfl) (Seq.up dr cq.ac) cB oi λb7 h6 d4=>⟨I6,?_⟩
  refine d4.lit ag bv cI n5 [b7] n5 (show 1*1<=2^20 by decide) n5 λi0 bq g=>⟨I6,?_⟩
  refine g.append ag 1 n5 cI ⟨_,_,n5,n5⟩ n5 n8 (λ_=>rfl) (g.seq 6 n5 λ_=>rfl) jK oi λG ea eq=>⟨I6,?_⟩
  have a4:=(((eq.freeze 3 n5 λ_=>rfl).freeze 5 n5 λ_=>rfl).pool 2 3 n8 n5 n5).pool 2 5 n8 n5 n5;refine⟨(s',G,k+1,rs++[b6],qs++[b7],(b7,B[k]'n7)::(b6,A[k]'n7)::pool),oj,⟨n9,Es a4,?_,?_⟩,n9⟩
  .try dsimp only
   rw[az _ _ (show k<n4 M by omega)];exact(ip.mono λx H=>qp _ (qp _ H)).snoc (by rw[mt];simp)
  .try dsimp only
   rw[az _ _ (show k<n4 M by omega)];exact(iq.mono λx H=>qp _ (qp _ H)).snoc (by rw[md];simp)
 have el:k=m:=n7
 subst el;rw[qf n7]at ip iq;have gl:=(H5.own 0 n5).len;have hw:=(H5.own 1 n5).len;have hg:=(H5.own 1 n5).cap;refine aj (λt:Nat×List Sl×List Sl×List (Sl×Row)=>(t.1:Int))
  (λu h'=>u.1<=n/\Sp z h' [ai 41 s 1 bv u.2.1,ai 41 t 1 bv u.2.2.1,fK u.2.2.2]/\bY u.2.2.2 (yp n) u.2.1 (ba M u.1).2/\bY u.2.2.2 (wS n) u.2.2.1 (ba M u.1).2)
  (λu=>n-u.1) (0,rs,qs,pool) n5 ⟨oo,H5,ip,iq⟩ ?_
 rintro⟨c,ah,Q,o⟩ bq ⟨hc,g,J,D⟩;dsimp only at*;have P:=fM e7 c;obtain⟨d,N⟩:=I5 ((ba M c).2)
 rw[<-N]at J D P;have cr:n4 d=k:=by rw[P.2];exact ed
 have im:=J.1;have g4:=D.1;refine ae (λe=>?_) (λe=>?_)
 .have en:c<n:=n7
  obtain⟨ix,b4,c2⟩:=Jo a5 en;rw[<-N]at b4 c2;have ds:=kI b4;have b0:∀j (hj:j<k),n4 (d[j]'n7)=n+w:=λj hj=>P.1 _ (qe _);refine aj (λj:Nat=>(j:Int)) (λj h'=>h'=bq/\c<=j/\j<=ix) (λj=>ix-j) c n5 ⟨n5,qj _,ds.1⟩ ?_;rintro j ea ⟨rfl,f6,he⟩;have a3:j<k:=n7
  have a7:=g.seq 0 n5 λ_=>rfl;refine a7.dN j n5 n7 λ_ _ _=>?_;have T:=g.ic 2 n5 (J.get (show j<n4 d by omega));have ek:((d[j]'n7).take n)[c]'(by rw[qw,b0 j a3];omega)=aM (aA d j) c:=by rw[zF,bf n7,lS (by rw[b0 j a3];omega)]
  refine T.aV c n5 (by rw[qw,b0 j a3];omega) _ n5 ?_;rw[ek];refine be (λe0=>?_) (λe0=>?_)
  .have:j≠ix:=λhh=>ds.2.2 (by rw[<-hh];exact nc.1 e0);exact⟨j+1,o0,⟨n5,n7,n7⟩,n7⟩
  have a6:j=ix:=by
   by_cases hh:j<ix
   .exact absurd (by rw[CG b4 f6 hh];rfl) e0
   .omega
  subst a6;refine aE ?_;have cc:=g.seq 1 n5 λ_=>rfl;refine a7.dN c n5 n7 λ_ _ _=>?_;refine a7.dN j n5 n7 λ_ _ _=>?_;refine cc.dN c n5 n7 λ_ _ _=>?_;refine cc.dN j n5 n7 λ_ _ _=>?_;refine g.set ag 0 n5 (λ_=>rfl) n5 j n5 n7 (ah[c]'n7) n5 n5 n5 λhf a4=>⟨I6,?_⟩
  refine a4.set ag 0 n5 (λ_=>rfl) n5 c n5 oi (ah[j]'n7) n5 n5 n5 λg0 fa=>⟨I6,?_⟩
  refine fa.set ag 1 n5 (λ_=>rfl) n5 j n5 n7 (Q[c]'n7) n5 n5 n5 λg6 ec=>⟨I6,?_⟩
  refine ec.set ag 1 n5 (λ_=>rfl) n5 c n5 oi (Q[j]'n7) n5 n5 n5 λc1 ep=>⟨I6,?_⟩
  obtain⟨m2,X⟩:=I5 (fH d c j)
  have c4:m2=(d.set j (aA d c)).set c (aA d j):=by rw[X,BD];rfl
  obtain⟨br,ay⟩:∃x,x=(ah.set j (ah[c]'n7)).set c (ah[j]'n7):=⟨_,rfl⟩
  obtain⟨a9,ax⟩:∃x,x=(Q.set j (Q[c]'n7)).set c (Q[j]'n7):=⟨_,rfl⟩
  have bd:bY o (yp n) br m2:=by rw[c4,ay,bf n7,bf n7];exact(J.set j (J.get n7)).set c (J.get n7)
  have a2:bY o (wS n) a9 m2:=by rw[c4,ax,bf n7,bf n7];exact(D.set j (D.get n7)).set c (D.get n7)
  have F:Sp z c1 [ai 41 s 1 bv br,ai 41 t 1 bv a9,fK o]:=by rw[ay,ax];exact ep
  have f1:n4 m2=k:=by rw[X,iR];exact cr
  have a0:aU (n+w) m2:=by rw[X];exact nW P.1
  have gk:=bd.1;have hu:=a2.1;have ab:∀i (hi:i<k),n4 (m2[i]'n7)=n+w:=λi hi=>a0 _ (qe _);have c9:=F.seq 0 n5 λ_=>rfl;have eo:=F.seq 1 n5 λ_=>rfl;refine c9.dN c n5 n7 λ_ _ _=>?_;have ad:=F.ic 2 n5 (bd.get (show c<n4 m2 by omega));have d3:((m2[c]'n7).take n)[c]'(by rw[qw,ab c n7];omega)=aM (aA m2 c) c:=by rw[zF,bf n7,lS (by rw[ab c n7];omega)]
  refine ad.aV c n5 (by rw[qw,ab c n7];omega) _ n5 ?_;rw[d3];refine(Aa _ c1).mono ?_;rintro v f7 ⟨rfl,rfl⟩;refine⟨_,n5,aE ?_⟩;refine c9.dN c n5 n7 λ_ _ _=>?_;refine eo.dN c n5 n7 λhv da _=>?_
  try dsimp only
  refine(lW _ _ _ f7 ad (by rw[qw,ab c n7];omega)).mono ?_;rintro v f4 ⟨ra,rfl,c8⟩;refine⟨ra,n5,⟨dY da c8.ac,I6⟩,?_⟩;have cd:=F.comp c8;refine(lW _ _ _ f4 (cd.ic 2 n5 (a2.get (show c<n4 m2 by omega))) (by rw[qJ,ab c n7];omega)).mono ?_;rintro v hp ⟨rb,rfl,eg⟩;refine⟨rb,n5,I6,?_⟩;have eh:=cd.comp eg;refine eh.set ag 0 n5 (λ_=>rfl) n5 c n5 n7 ra n5 n5 n5 λg7 fz=>⟨I6,?_⟩
  refine fz.set ag 1 n5 (λ_=>rfl) n5 c n5 n7 rb n5 n5 n5 λf3 eb=>⟨I6,?_⟩
  have fn:=Es ((((eb.freeze 3 n5 λ_=>rfl).freeze 4 n5 λ_=>rfl).pool 2 3 n8 n5 n5).pool 2 4 n8 n5 n5);obtain⟨f,U⟩:=I5 (fS c c m2)
  obtain⟨b1,ap⟩:∃x,x=br.set c ra:=⟨_,rfl⟩
  obtain⟨ca,al⟩:∃x,x=a9.set c rb:=⟨_,rfl⟩
  obtain⟨p,y⟩:∃x,x=(rb,scaleB (Gf.inv (aM (aA m2 c) c)) ((m2[c]'n7).drop n))::(ra,scaleB (Gf.inv (aM (aA m2 c) c)) ((m2[c]'n7).take n))::o:=⟨_,rfl⟩
  have ew:bY p (yp n) b1 f:=by rw[U,ap,fS,y];refine(bd.mono λx H=>qp _ (qp _ H)).set c ?_;rw[CC,<-bf (show c<n4 m2 by omega)];simp
  have fr:bY p (wS n) ca f:=by rw[U,al,fS,y];refine(a2.mono λx H=>qp _ (qp _ H)).set c ?_;rw[GG,<-bf (show c<n4 m2 by omega)];simp
  have c7:Sp z f3 [ai 41 s 1 bv b1,ai 41 t 1 bv ca,fK p]:=by rw[ap,al,y];exact fn
  have ht:n4 f=k:=by rw[U,kJ];exact f1
  have ao:aU (n+w) f:=by rw[U];exact my a0 n7
  have V:(ba M (c+1)).2=bO c c f k:=by rw[c2,U,X,cr]
  refine aj (λu:Nat×List Sl×List Sl×List (Sl×Row)=>(u.1:Int))
   (λu h'=>u.1<=k/\Sp z h' [ai 41 s 1 bv u.2.1,ai 41 t 1 bv u.2.2.1,fK u.2.2.2]/\bY u.2.2.2 (yp n) u.2.1 (bO c c f u.1)/\bY u.2.2.2 (wS n) u.2.2.1 (bO c c f u.1))
   (λu=>k-u.1) (0,b1,ca,p) n5 ⟨oo,c7,by rw[nX];exact ew,by rw[nX];exact fr⟩ ?_
  rintro⟨i,b2,b3,S⟩ cn ⟨hi,q,I,O⟩;dsimp only at*;have h3:=kK c c f i;have g5:=I.1;have g1:=O.1;refine ae (λe2=>?_) (λe2=>?_)
  .have e1:i<k:=n7
   have dx:(bO c c f i)[i]'n7=aA f i:=by rw[<-bf n7,jd,nq n7]
   have e8:(bO c c f i)[c]'n7=aA f c:=by rw[<-bf n7,jd,nq n7]
   have li:n4 (aA f i)=n+w:=bX ao;have lc:n4 (aA f c)=n+w:=bX ao;have b9:=q.seq 0 n5 λ_=>rfl;have dd:=q.seq 1 n5 λ_=>rfl;have xi:=q.ic 2 n5 (I.get (show i<n4 (bO c c f i) by omega));have xc:=q.ic 2 n5 (I.get (show c<n4 (bO c c f i) by omega));have yi:=q.ic 2 n5 (O.get (show i<n4 (bO c c f i) by omega));have yc:=q.ic 2 n5 (O.get (show c<n4 (bO c c f i) by omega));rw[dx]at xi yi;rw[e8]at xc yc;refine b9.dN i n5 n7 λ_ _ _=>?_;have bb:((aA f i).take n)[c]'(by rw[qw,li];omega)=aM (aA f i) c:=by rw[zF,lS]
   refine xi.aV c n5 C7 _ n5 ?_;rw[bb];rw[af ((i:Int)+1)];have skip:bO c c f (i+1)=bO c c f i->∃G:Nat×List Sl×List Sl×List (Sl×Row),(i:Int)+1=(G.1:Int)/\(G.1<=k/\Sp z cn [ai 41 s 1 bv G.2.1,ai 41 t 1 bv G.2.2.1,fK G.2.2.2]/\bY G.2.2.2 (yp n) G.2.1 (bO c c f G.1)/\bY G.2.2.2 (wS n) G.2.2.1 (bO c c f G.1))/\k-G.1<k-i:=λcs=>
    ⟨(i+1,b2,b3,S),n5,⟨n9,q,by dsimp only;rw[cs];exact I,by dsimp only;rw[cs];exact O⟩,n9⟩
   refine aE ?_;refine bt (λe3=>?_) (λe3=>rV n5 (skip ?_))
   .have Y:i≠c:=λhh=>e3 (by rw[hh]);refine bt (λe4=>?_) (λe4=>skip ?_)
    .refine b9.dN c n5 n7 λ_ _ _=>?_;refine b9.dN i n5 n7 λ_ _ _=>?_;refine dd.dN c n5 n7 λho c0 _=>?_;refine dd.dN i n5 n7 λh0 dk _=>?_;refine(jT _ _ _ _ _ cn xc xi E3 C7).mono ?_;rintro v d6 ⟨ra,rfl,R⟩;refine⟨ra,n5,⟨dY dk R.ac,dY c0 R.ac,I6⟩,?_⟩;have d5:=q.comp R;refine(jT _ _ _ _ _ d6 (Seq.up yc R.ac) (Seq.up yi R.ac) E3 (by rw[qJ,li];omega)).I4 λrb hm ei=>⟨rb,n5,I6,?_⟩;have et:=d5.comp ei;refine et.set ag 0 n5 (λ_=>rfl) n5 i n5 n7 ra n5 n5 n5 λhq f5=>⟨I6,?_⟩
     refine f5.set ag 1 n5 (λ_=>rfl) n5 i n5 n7 rb n5 n5 n5 λg8 d1=>⟨I6,?_⟩
     have er:=Es ((((d1.freeze 3 n5 λ_=>rfl).freeze 4 n5 λ_=>rfl).pool 2 3 n8 n5 n5).pool 2 4 n8 n5 n5);refine⟨(i+1,b2.set i ra,b3.set i rb,_),n5,⟨n9,er,?_,?_⟩,n9⟩
     .try dsimp only
      rw[kr n7 Y];refine(I.mono λx H=>qp _ (qp _ H)).set i ?_;rw[Io];simp
     .try dsimp only
      rw[kr n7 Y];refine(O.mono λx H=>qp _ (qp _ H)).set i ?_;rw[LW];simp
    .have hz:aM (aA f i) c=0:=nc.1 e4;rw[kr n7 Y,hz,BE];apply zp;intro x;rw[qW];split
     .rename_i f9;subst f9;rw[m6 n7,qd n7,dx]
     .rfl
   .have Y:i=c:=n7
    subst Y;exact uE
  .have d9:i=k:=n7
   subst d9;refine⟨(c+1,b2,b3,S),oj,⟨n9,q,?_,?_⟩,n9⟩
   ·(try dsimp only);rw[V];exact I
   ·(try dsimp only);rw[V];exact O
 have e5:c=n:=n7
 subst e5;have cf:=FB (a:=A) (b:=B) n7 hA hB hr;rw[<-hM,<-N]at cf;have W:jb c A B↔∀i (hi:i<n4 d),c<=i->(d[i].drop c)=aN (d[i].drop c).length:=by
  unfold jb;rw[<-hM,<-N];constructor
  .intro hc i hi hn;have hz:d[i]=aN d[i].length:=hc _ (List.mem_iff_getElem?.2 ⟨i-c,by rw[List.getElem?_drop,show c+(i-c)=i by omega,qd hi]⟩)
   conv=>lhs;rw[hz]
   simp[aN]
  .intro hc x H;obtain⟨i,hi,rfl⟩:=qE H;simp only[qJ]at hi;rw[List.getElem_drop];have hd:=hc (c+i) n7 n7;have bk:n4 (d[c+i]'n7)=c+w:=P.1 _ (qe _);refine gr (n:=c+w) bk (by simp[aN,bk]) λj hj=>?_;rw[cF];by_cases f0:j<c
   .have:=cf.2.2 j f0 (c+i) n7;rw[Yt (show c+i<n4 d by omega),nq n7]at this;exact this
   .have this:aM ((d[c+i]'n7).drop c) (j-c)=aM (aN ((d[c+i]'n7).drop c).length) (j-c):=congrArg (λr=>aM r (j-c)) hd;rw[FA,cF,show c+(j-c)=j by omega]at this;exact this
 refine aj (λi:Nat=>(i:Int)) (λi h'=>h'=bq/\c<=i/\i<=k/\∀j (hj:j<n4 d),c<=j->j<i->d[j].drop c=aN (d[j].drop c).length) (λi=>k-i) c n5 ⟨n5,qj _,n7,λj _ _ _=>n7⟩ ?_;rintro i e9 ⟨rfl,bb,e1,Z⟩;refine ae (λe=>?_) (λe=>?_)
 .have ih:i<k:=by have e':(i:Int)<(t.len:Int):=e;omega
  refine(g.seq 1 n5 λ_=>rfl).dN i n5 n7 λ_ _ _=>?_;have T:=g.ic 2 n5 (D.get (show i<n4 d by omega));have bk:n4 (d[i]'n7)=c+w:=P.1 _ (qe _);refine(NN _ _ e9 T oi).I2 ⟨_,n5,ae (λe2=>?_) λe2=>?_⟩
  .right;right;have bl:gV ((d[i]'n7).drop c)<n4 ((d[i]'n7).drop c):=by
    by_cases hh:gV ((d[i]'n7).drop c)<n4 ((d[i]'n7).drop c)
    .exact hh
    .rw[nq hh]at e2;exact absurd e2 n8
   refine⟨hr,λd0=>absurd bl (uV.2 (W.1 d0 i n7 bb)),n5,.zip g.ac⟩
  .have bl:¬gV ((d[i]'n7).drop c)<n4 ((d[i]'n7).drop c):=λhh=>by
    rw[m6 hh]at e2;exact e2 (ze _)
   refine⟨i+1,o0,⟨n5,n7,n7,λj hj L z=>?_⟩,n7⟩;by_cases a6:j=i
   .subst a6;exact uV.1 bl
   .exact Z j hj L n7
 have b5:jb c A B:=W.2 λj hj L=>Z j hj L (by
  have e':¬(i:Int)<(t.len:Int):=e;omega)
 refine⟨⟨ze _,wA.2 (show c<=t.cap by omega)⟩,?_⟩;have a1:eM c A B=(d.take c).map (wS c):=by rw[eM,<-hM,<-N]
 have HC:=g.cut 1 n5 (λ_=>rfl) c n7;have HR:=HC.pL 1 2 n8 (ll:=eM c A B) n5 n5 (by rw[a1];simp;omega) (λi r l L z=>by
  rw[a1,qM]at z;rw[List.getElem?_take]at L z;split at L
  .rename_i d7;rw[m6 d7]at z;cases hmi:d[i]? with
   |none=>rw[hmi]at z;cases z
   |some x=>rw[hmi]at z;cases z;exact D.2 i r x L hmi
  .cases L)
 rw[qi];refine .inr (.inl ⟨hr,b5,⟨t.ptr,c,t.cap⟩,n5,?_⟩);exact HR.bu [1]
theorem IU(p:Pm)(seed:Int)(l:Sl)(a:List (Int×Row))(h:m5)(hl:eN BA h l a)(a4:n4 a<=2^18)(ap:∀x∈a,n4 x.2<=2^20):
  ak xR 126 #[go p,xH xP seed,l] h λv h'=>∃r:Sl,v=.tuple #[r,xH xN (iW p seed a).2]/\Sp h h' [ai 5 r 1 aq (iW p seed a).1]:=by
 refine ts Tryz.func126 ?_ (HF (HF (HF (HF (G0 (HF (G7 (G9 [(9,bK),(10,aI)] [(9,11),(20,32)] G6))) (G0 (HF (G7 (G9 [(8,bK),(9,bK),(34,aI)] [(6,10),(12,13),(34,62)] (HF (HF (G0 (G7 (HF (I1 [] [(6,8),(38,50)] G6))) G6)))))) (HF (HF (HF (I0 [(15,bK),(16,aI)] [(15,17),(74,89)])))))))))) [(14,(.l [0,1,2,5,6,7,3,4,8,9,10,11,12]))] (args:=[p,(xH xP (seed:Int)),l]);refine(Sp.refl h).boxed λR h1 H1=>?_;have B:∀{h':m5} {As:List HP} (e:Int),Sp h h' As->iW p seed a=([],e)->∃r:Sl,(.tuple #[xI eH 0 0,xH xN e]:Value)=.tuple #[r,xH xN (iW p seed a).2]/\Sp h h' [ai 5 r 1 aq (iW p seed a).1]:=λ{h' As} e H' he=>by
  rw[he];exact⟨⟨eH,0,0⟩,n5,(Sp.zip H'.ac).nil 5 1 aq⟩
 refine⟨p,(H1.box 0 n5).aw _ n5,(dS p h1).I3 λh2 R2=>?_⟩;have H2:=H1.up R2.ac;refine⟨_,n5,aH (λe=>?_) λd=>?_⟩
 .exact B 1 H2 (by unfold iW;rw[e];rfl)
 have a3:=(bI p).1 d;have a7:=py d;obtain⟨w,U⟩:=I5 p.2.2.toNat
 let pc:aS:=[xH xN p.1,xH xN p.2.1,xH xN p.2.2]
 have al:Sp h h2 [MA ⟨eH,0,0⟩ [],an R 24 [xH xN p.1,xH xN p.2.1,xH xN p.2.2]]:=(H2.sq 41 1 aq).bc;refine aj (λt:Nat×Sl=>(t.2,(t.1:Int))) (λt h'=>t.1<=p.2.1.toNat/\Sp h h' [MA t.2 (qh t.1 (aN w)),an R 24 [xH xN p.1,xH xN p.2.1,xH xN p.2.2]]) (λt=>p.2.1.toNat-t.1) (0,⟨eH,0,0⟩) n5 ⟨n7,al⟩ ?_;rintro⟨i,b⟩ h3 ⟨hi,H3⟩;dsimp only at*;refine⟨p.2.1,(H3.box 1 n5).cell n5,ae (λe=>?_) λe=>?_⟩
 .refine⟨p.2.2,(H3.box 1 n5).cell n5,?_⟩;refine H3.make ag aq cK n8 0 n5 n5 w w n7 n7 (qj _) n7 λz h4 _ _ H=>?_;refine(H.freeze 2 n5 λ_=>rfl).jD ag 0 2 n8 n5 n5 cI oi λb' h5 F=>?_;refine⟨(i+1,b'),oj,⟨n9,?_⟩,n9⟩
  try dsimp only
  rw[yL];exact F.bu [0,1]
 have s:i=p.2.1.toNat:=n7
 subst s;obtain⟨I,q1,q2,q3⟩:=bZ.kQ hl;have bb:=bZ.len hl;have ao:Sp h h3 [MA b (qh p.2.1.toNat (aN w)++(a.take 0).map zh),ai 3 ⟨eH,0,0⟩ 1 ar ((a.take 0).map qA),an R 24 [xH xN p.1,xH xN p.2.1,xH xN p.2.2]]:=by have:=(H3.nil 3 1 ar).bu [0,2,1];simpa using this
 refine aj (λt:Nat×Sl×Sl=>(t.2.1,t.2.2,(t.1:Int))) (λt h'=>t.1<=n4 a/\(a.take t.1).all (jv p)=eX/\Sp h h' [MA t.2.2 (qh p.2.1.toNat (aN w)++(a.take t.1).map zh),ai 3 t.2.1 1 ar ((a.take t.1).map qA),an R 24 [xH xN p.1,xH xN p.2.1,xH xN p.2.2]]) (λt=>n4 a-t.1) (0,⟨eH,0,0⟩,b) n5 ⟨n7,oo,ao⟩ ?_;rintro⟨i,o,b2⟩ h4 ⟨a9,f,H⟩;dsimp only at*;refine ae (λe2=>?_) (λe2=>?_)
 .have q:i<n4 a:=n7
  obtain⟨y1,y2⟩:=q3 i n7 q;have ab:=y2.len;have a2:=ap _ (qe q);refine(Seq.up q1 H.ac).cG (g:=yv) i n5 n7 (I[i]'n7) n5 ?_;refine H.alloc ag n5 λbl h5 F=>?_;refine F.storeAll ag 3 n5 n5 (yv (I[i]'n7)) n5 n5 n5 n5 λh6 K=>?_;have A:=K.box 3 n5;have J:jv p a[i]=false->iW p seed a=([],1):=λhf=>by
   have:a.all (jv p)=false:=List.all_eq_false.2 ⟨_,qe q,by simp[hf]⟩;unfold iW;rw[d,this];rfl
  refine aE ⟨(I[i]'n7).1,A.cell0 n5,(kh _ h6).I2 ?_⟩;refine⟨_,n5,aH (λe3=>?_) λe3=>?_⟩
  .exact B 1 K (J (by unfold jv;rw[<-y1,e3];rfl))
  refine⟨(I[i]'n7).2,A.cell n5,p.2.2,(K.box 2 n5).cell n5,bt (λe4=>?_) λe4=>?_⟩
  .refine B 1 K (J ?_);unfold jv;rw[n2 (by rw[ab]at e4;exact e4)];simp
  have ay:jv p a[i]=eX:=by unfold jv;rw[<-y1,e3,n1 (by rw[ab]at e4;exact e4)];rfl
  refine⟨(I[i]'n7).1,A.cell0 n5,(I[i]'n7).2,A.cell n5,?_⟩;refine K.ke ag ar fu n5 [(I[i]'n7).1] n5 (show 1*1<=2^20 by decide) n5 ⟨A.cell n5,I6⟩ ?_;refine K.push ag 1 n5 fu n5 n8 (λ_=>rfl) db (I[i]'n7).1 n5 n8 oi λo' h8 M=>⟨⟨(M.box 3 n5).cell n5,I6⟩,?_⟩
  have O:=M.nil 5 1 aq;refine O.append ag 4 n5 cK ui n5 n8 (λ_=>rfl) (Seq.up y2 O.ac) cB oi λz ax G=>⟨I6,?_⟩
  have E:=G.freeze 4 n5 λ_=>rfl;refine E.ke (L:=[]) ag bv cI n5 [z] n5 (show 1*1<=2^20 by decide) n5 I6 ?_;refine E.jD ag 0 4 n8 n5 n5 cI oi λb' a8 V=>⟨I6,?_⟩
  refine⟨(i+1,o',b'),oj,⟨n9,?_,?_⟩,n9⟩
  ·(try dsimp only);rw[az _ _ q,List.all_append,f];simp[ay]
  .try dsimp only
   rw[az _ _ q,qF,qF,<-ql];rw[y1,List.nil_append]at V;exact V.bu [0,1,2]
 have s:i=n4 a:=n7
 subst s;rw[qt]at H f;have W:∀x∈a,Ee p x:=λx D=>(VQ d).1 (qP.1 f x D);have ah:qh p.2.1.toNat (aN w)++a.map zh=mD p a:=by unfold mD;rw[U]
 rw[ah]at H;refine⟨p,(H.box 2 n5).aw _ n5,(AD p seed o _ h4 (H.seq 1 n5 λ_=>rfl) oi).I4 λm h5 R5=>?_⟩;have F:=H.comp R5;refine⟨m,n5,?_⟩;have Y:aU w (mD p a):=λx D=>by
  rcases qx.1 D with D|D
  .rw[(List.mem_replicate.1 D).2,U];simp[aN]
  .obtain⟨y,hy,rfl⟩:=qI.1 D;rw[U];exact(W y hy).len
 have Z:n4 (ez p seed (a.map qA))=n4 (mD p a):=by rw[<-RI (n:=(bD p).toNat) (seed:=seed) d n5 W,<-RJ (n:=(bD p).toNat) (seed:=seed) (p:=p) (l:=a) rfl];exact sU
 have bk:n4 (mD p a)=p.2.1.toNat+n4 a:=by unfold mD;simp
 refine(IT m b2 _ (mD p a) (mD p a).length (bD p).toNat w h5 (F.ov 3 n5) (F.ov 0 n5) Z n5 n7 n7 (nZ p seed _) Y n7 n7).mono ?_;have k:fy p seed (a.map qA)=decide (cv (ez p seed (a.map qA))=(bD p).toNat):=by unfold fy AY;rw[d,Bool.true_and,Bool.eq_iff_iff];simp;omega
 rintro _ h6 (⟨hr,rfl,R6⟩|⟨hr,hc,x,rfl,R6⟩|⟨hr,hc,rfl,R6⟩)
 .refine⟨(⟨eH,0,0⟩,9),n5,bt (λ_=>B 9 (F.up R6.ac) ?_) λe=>absurd e n8⟩;unfold iW;rw[d,f,k,n2 hr];rfl
 rotate_left
 .refine⟨(⟨eH,0,0⟩,10),n5,bt (λ_=>B 10 (F.up R6.ac) ?_) λe=>absurd e n8⟩;unfold iW;rw[d,f,k,n1 hr,nq hc];rfl
 refine⟨(x,0),n5,bt (λe=>absurd n5 e) λ_=>?_⟩;obtain⟨X,hX⟩:=I5 (eM (bD p).toNat (ez p seed (a.map qA)) (mD p a))
 have ad:iW p seed a=(nf p seed X p.1.toNat,0):=by unfold iW;rw[d,f,k,n1 hr,m6 hc,hX];rfl
 obtain⟨P,Q⟩:=pz Z (nZ p seed _) Y hr;rw[<-hX]at R6 P Q;have K:Sp h h6 [MA x X,an R 24 [xH xN p.1,xH xN p.2.1,xH xN p.2.2]]:=(F.comp R6).bu [4,2];rw[ad];have N:∀j:Nat,n4 (jN w X (dZ (bD p).toNat seed (j:Int)))=w:=λj=>PR Q P λx D=>km n7 n7 D;have S:∀i,n4 (nf p seed X i)=i*w:=λi=>by
  induction i with
  |zero=>simp[nf]
  |succ i ih=>rw[uW,qo,ih,<-U,N,Nat.succ_mul]
 have H7:Sp h h6 [ai 5 ⟨eH,0,0⟩ 1 aq (nf p seed X 0),MA x X,an R 24 [xH xN p.1,xH xN p.2.1,xH xN p.2.2]]:=by simpa[nf]using(K.nil 5 1 aq).bc
 refine aj (λt:Nat×Sl=>(t.2,(t.1:Int))) (λt h'=>t.1<=p.1.toNat/\Sp h h' [ai 5 t.2 1 aq (nf p seed X t.1),MA x X,an R 24 [xH xN p.1,xH xN p.2.1,xH xN p.2.2]]) (λt=>p.1.toNat-t.1) (0,⟨eH,0,0⟩) n5 ⟨n7,H7⟩ ?_;rintro⟨i,u⟩ h8 ⟨a5,M⟩;dsimp only at*;refine⟨p.1,(M.box 2 n5).cell0 n5,ae (λe=>?_) λe=>?_⟩
 .have q:i<p.1.toNat:=n7
  refine⟨p,(M.box 2 n5).aw _ n5,p,(M.box 2 n5).aw _ n5,(BC p seed (i:Int) h8).I4 λc h9 R9=>?_⟩;have a0:(bH p&&bP (i:Int))=eX:=by rw[d];unfold bP;simp;omega
  rw[a0,m6 rfl]at R9;have O:=M.comp R9;have T:=O.box 2 n5;refine⟨c,n5,⟨T.cell0 n5,T.cell n5,T.cell n5,I6⟩,?_⟩;have a6:=mw (n:=(bD p).toNat) n7 n7 seed (i:Int);refine(EZ p x c X _ (bD p).toNat w h9 (O.ov 1 n5) (O.seq 3 n5 λ_=>rfl) n7 Q P λy hy=>km n7 n7 hy).I4 λz ax am=>?_;have G:=O.comp am;refine⟨z,n5,I6,?_⟩;refine G.append ag 0 n5 cK ui n5 n8 (λ_=>rfl) (G.seq 4 n5 λ_=>rfl) cB (by rw[S,N];have:i*w<=16*24:=zr n7 n7;omega) λu' bd E=>⟨I6,?_⟩
  refine⟨(i+1,u'),oj,⟨n9,?_⟩,n9⟩
  try dsimp only
  rw[uW,<-U];exact E.bu [0,1,2]
 .have s:i=p.1.toNat:=n7
  subst s;exact⟨u,n5,M.bu [0]⟩
variable {B:au} {h0 h:m5} {As:List HP} {a:hU} {offs:Int} {da:List bJ} {w:Pow} {ds:aF}
section
variable {pw:hU}
theorem Tr{m:aB}{e:aF}{c:aC}{o b:Int}:∀y∈dp m e c o b,n4 y.2<=2^20:=λy a=>by
 obtain⟨k,_,a⟩:=wZ.1 a;unfold jR at a;cases hd:bR e k with
 |none=>rw[hd]at a;cases a
 |some d=>
  rw[hd]at a;obtain⟨r,h,rfl⟩:=qI.1 a;obtain⟨_,_,_,f⟩:=Bw (qK.1 h).1;obtain⟨_,_,_,g,i⟩:=(jM r).1 (Hs f);have h3:=(bI r.p).1 g
  try dsimp only
  omega
theorem Wf(x:bi)(m:aB)(c:ByteArray)(Q:bE m=eX)(H:aa B h0 h (aJ bC a pw (aD x) offs da w ds::bn x m::As)):
  ak xR 49 #[xJ (dB a),xK c] h λv h'=>∃r:Sl,v=.tuple #[r,xH xN (iX m offs w ds c).2]/\Sp h h' [EA (iG 1 aq) r (iX m offs w ds c).1]:=by
 refine ts Tryz.func49 ?_ (HF (HF (HF (HF (HF (HF (HF (G0 (HF (G7 (G9 [(8,bK),(37,aI)] [(4,6),(8,12),(37,70)] (HF (HF (G0 (G7 (HF (I1 [(10,bK),(11,aI)] [(10,12),(40,63)] G6))) G6)))))) G6)))))))) [(13,(.l [0,1,2,3,4,5,6,7,8,9,10,11,12,14,15,16,17,13,18,19,20,21,22,23,24]))];have hz:=jH Q;have T:=gn Q;have O:∀y∈m.drives,0<=y/\y<64:=gx Q;have a4:(aY ds m.drives).length<=64:=qV (qH _ _) T;have f:∀{h':m5} (e:Int),Sp h h' []->iX m offs w ds c=([],e)->∃r:Sl,(.tuple #[xI eH 0 0,xH xN e]:Value)=.tuple #[r,xH xN (iX m offs w ds c).2]/\Sp h h' [EA (iG 1 aq) r (iX m offs w ds c).1]:=λe R he=>by
  rw[he];exact⟨⟨eH,0,0⟩,n5,(R.nil 5 1 aq).DU 0 n5 λ_=>rfl⟩
 refine(ig H).mono ?_;rintro _ h1 ⟨rfl,rfl⟩;refine⟨_,n5,aT (λe=>f 14 (Sp.refl _) (by unfold iX;rw[m6 e])) λe1=>?_⟩;refine(sO x m c (H.at 1 n5) hz H).I3 λh2 R2=>?_;have H2:=H.up R2.ac;have hi:=Wa (dD c) m.objs;generalize (if m.objs.any (dD c)=eX then((m.objs.findIdx (dD c):Nat):Int)else-1)=i at hi;refine⟨i,n5,?_⟩;rcases Eo hi with⟨hneg,hf⟩|⟨n,hn,rfl,hf⟩
 .exact ae (λ_=>f 5 R2 (by unfold iX;rw[nq pa,hf])) λe=>absurd hneg e
 refine ae (λe=>absurd e (Int.not_lt.2 (ze n))) λ_=>?_;obtain⟨E,hE⟩:=I5 (m.objs[n])
 have a0:E∈m.objs:=C5
 have ep:iX m offs w ds c=pM m ds E:=by unfold iX;rw[nq pa,hf,hE]
 rw[ep]at f⊢;refine(kF x m (H2.at 1 n5) hz O H2).I4 λlv h3 R3=>?_;have H3:=H2.up R3.ac;refine⟨lv,rfl,(NH x m lv (aY ds m.drives) (H3.at 1 rfl) hz (R3.seq 0 rfl λ_=>rfl) n7 (λk P=>O k (qK.1 P).1) (λk P=>by obtain⟨_,d,hd,_⟩:=pJ P;exact⟨d,hd⟩) H3).I3 λh4 R4=>?_⟩;have H4:=H3.up R4.ac;have D:=(R2.up R3.ac).up R4.ac;refine⟨_,n5,aH (λe=>f 11 D (by unfold pM;exact m6 e)) λe3=>?_⟩;have e3:BB m ds=eX:=e3;have X:=(iI m E).1 (((cJ m).1 Q).2.2.2.2.1 E a0);have a6:E.tries.length<=8:=by have:=lN X.2.2.1.2;omega
 have ad:=((iT m).1 ((cJ m).1 Q).1).2.2.1;have am:=(aa.cP H4).2;have ap:ct h1 x m:=H.at 1 n5;obtain⟨ys,F⟩:=bZ.fix ap.objs;have a5:=F.2.1;have q:=Fix.row F hn;obtain⟨xe,S⟩:=I5 (ys[n]'n7)
 rw[<-hE,<-S]at q;refine⟨a,n5,x.2.2.2.2.2.2.2,am.cell n5,(Seq.up F.1 D.ac).cG (g:=bg) n n5 n7 xe (by rw[S]) ?_⟩;refine(Sp.refl h4).alloc ag n5 λa9 h5 Q5=>?_;refine Q5.storeAll ag 0 n5 n5 (bg xe) n5 n5 n5 n5 λh6 Q6=>?_;have R6:=D.comp Q6;have Y:Rd h1 xe.2.2.2 1 ar E.tries:=q.2;have a1:=Y.len;have eo:xe.2.1=E.object:=q.1.2.1;have el:xe.2.2.1=E.length:=q.1.2.2;have R6:=R6.jm 41 5 1 aq;refine⟨xe.2.2.2,(Q6.box 0 n5).cell n5,?_⟩;refine aj (λt:Sl×Nat=>(t.1,(t.2:Int))) (λt h'=>t.2<=E.tries.length/\(∀j,j<t.2->(kE m ds E.object E.tries j).2=0)/\Sp h1 h' [ce t.1 ((qy t.2).map λj=>(kE m ds E.object E.tries j).1),an a9 83 (bg xe)]) (λt=>E.tries.length-t.2) (⟨eH,0,0⟩,0) n5 ⟨oo,λj I=>absurd I (xt _),R6⟩ ?_;rintro⟨o,k⟩ h7 ⟨P,J,z⟩;dsimp only at P J z⊢;have Z:=H.up z.ac;have A:=(aa.cP Z).2;have U:ct h7 x m:=Z.at 1 n5;have cp:∀{h':m5},bV h' a 40 (cZ (aD x) pw offs da)->aZ h' (a.add 2) 0 [xH xN m.p.1,xH xN m.p.2.1,xH xN m.p.2.2]:=λ{h'} hb=>by
  rw[<-U.p];exact⟨o8,o8,o8,I6⟩
 refine ae (λe=>?_) λe=>?_
 .have M:k<E.tries.length:=by have e':(k:Int)<(xe.2.2.2.len:Int):=e;omega
  have s:=z.box 1 n5;refine aE ⟨a,n5,m.p,cp A,xe.2.1,s.cell n5,xe.2.2.2,s.cell n5,?_⟩;refine(Seq.up Y z.ac).aV k n5 M E.tries[k] n5 ?_;refine⟨xe.2.1,s.cell n5,(rk xe.2.1 k E.tries[k] h7).I2 ?_⟩;obtain⟨c1,c2,c3,_⟩:=cp A;refine⟨_,n5,⟨s.cell n5,s.cell n5,c1,c2,c3,I6⟩,?_⟩;rw[eo];refine(BW x m E.object k U hz T O Z).mono ?_;rintro _ h9 ⟨r,ss,rfl,R9⟩;have N:=z.up R9.ac;have H9:=Z.up R9.ac;obtain⟨d1,d2,d3,_⟩:=cp (aa.cP H9).2;have L:Fix dR 2 piv h9 (λb=>b<h9.size) r ss (dp m ds (aY ds m.drives) E.object k):=R9.at 0 n5;have ax:eN BA h9 r (dp m ds (aY ds m.drives) E.object k):=⟨ss,L.1,L.2.1,L.2.2⟩
  have a2:=rQ m E.object k (NL Z) (aY ds m.drives);refine⟨r,n5,⟨(N.box 1 n5).cell n5,d1,d2,d3,I6⟩,(IU m.p (fl E.object k E.tries[k]) r _ h9 ax n7 Tr).I4 λao a7 G=>?_⟩;have eb:iW m.p (fl E.object k E.tries[k]) (dp m ds (aY ds m.drives) E.object k)=kE m ds E.object E.tries k:=by unfold kE;rw[rC 0 M]
  rw[eb]at G⊢;have u:=N.up G.ac;refine⟨(ao,(kE m ds E.object E.tries k).2),n5,⟨(u.box 1 n5).cell n5,I6⟩,bt (λe4=>f 11 (.zip u.ac) ?_) λe4=>?_⟩
  .unfold pM;rw[nq D4,nq];intro V;exact e4 (n3 (qP.1 V k (qY.2 M)))
  .have ah:=(N.comp G).aG 3 [0,2,1];refine aa.mh ag ah cI oi λo' a8 ab=>?_;refine⟨(o',k+1),oj,⟨n9,λj I=>?_,?_⟩,n9⟩
   .rcases q8.1 I with I|rfl
    .exact J j I
    .simpa using e4
   .try dsimp only
    rw[zC,qF];exact ab
 .have ay:k=E.tries.length:=by have e':¬(k:Int)<(xe.2.2.2.len:Int):=e;omega
  subst ay;refine⟨a,n5,m.p,cp A,xe.2.2.1,(z.box 1 n5).cell n5,?_⟩;rw[el];have K:E.length<=2^20:=by obtain⟨⟨k1,k2⟩,_,z1,z2⟩:=(bI m.p).1 ad;have:m.p.1*m.p.2.2<=16*24:=we k2 z2 n7 n7;have:=X.2.2.1.2;omega
  refine(Tm m.p o _ E.length h7 (z.uC λ_=>rfl) K oi).mono ?_;rintro _ a3 ⟨W,b,rfl,al⟩;have eg:pM m ds E=(iA m.p ((qy E.tries.length).map λk=>(kE m ds E.object E.tries k).1) E.length,0):=by unfold pM;rw[nq D4,m6 (qP.2 λj I=>n1 (J j (qY.1 I)))]
  rw[eg];exact⟨(W,b),n5,I6,W,n5,((z.comp al).bu [2])⟩
end
def iv(a pw:hU)(c:List bJ)(b:Int)(w:Pow)(d:aF)(m:aB):HP:=HP.ex λx:bi=>(aJ bC a pw (aD x) b c w d).sep (bn x m)
variable {m:aB} {d:bp}
section
variable {pw:hU}
theorem jc(H:aa B h0 h (iv a pw da offs w ds m::As)):∃x,aa B h0 h (aJ bC a pw (aD x) offs da w ds::bn x m::As):=by obtain⟨x,H⟩:=H.AV;exact⟨x,H.Cu.nj⟩
theorem pT{x:bi}(H:aa B h0 h (aJ bC a pw (aD x) offs da w ds::bn x m::As)):aa B h0 h (iv a pw da offs w ds m::As):=
 aa.Ct (F:=λx:bi=>(aJ bC a pw (aD x) offs da w ds).sep (bn x m)) x H.nj.kq
theorem Pv(i at_ f:Int)(hm:0<=f/\f<2^32)(H:aa B h0 h (ib pw a d::As)):
  ak xR 58 #[xJ (dB a),xH xN i,xH xN at_,xH xP f] h λv h'=>v=xL (lr d i at_ f)/\aa B h0 h' (ib pw a (d.mq i at_ f)::As):=by
 refine ts Tryz.func58 ?_ (HF (I1 [] [(8,9),(11,34)] (HF (I0 [(10,aI)] [(10,11),(42,63)]))));obtain⟨ok,s,bl,O⟩:=aa.jV (id H);have ab:=(aa.lE (O.aG 2 [1,0])).1;have R:=O.box 0 n5;have F:lr d i at_ f=false->(Value.bool false=xL (lr d i at_ f)/\aa B h0 h (ib pw a (d.mq i at_ f)::As)):=λe=>by
  unfold bp.mq;rw[e];exact⟨n5,H⟩
 have r:¬((0<=i/\i<(n4 d.l:Int))/\(0<=at_/\at_<=60)/\f≠0)->lr d i at_ f=false:=λh=>n2 h;refine aE (ae (λe=>F (r n7)) λe1=>⟨a,n5,s,R.cell n5,ae (λe=>F (r n7)) λe2=>ae (λe=>F (r n7)) λe3=>ae (λe=>F (r n7)) λe4=>be (λe=>F (r n7)) λe5=>?_⟩);have hi:0<=i/\i<(n4 d.l:Int):=n7
 have u:lr d i at_ f=eX:=n1 ⟨hi,⟨n7,n7⟩,e5⟩;obtain⟨n,rfl⟩:∃n:Nat,i=n:=⟨i.toNat,n7⟩
 obtain⟨p,rfl⟩:∃p:Nat,at_=p:=⟨at_.toNat,n7⟩
 have P:n<n4 d.l:=n7
 have K:d.l[n].length=64:=ok.cell _ (qe P);obtain⟨c,N⟩:=I5 (d.l[n])
 refine⟨a,n5,s,R.cell n5,?_⟩;obtain⟨rs,H2⟩:=aa.GR (O.aG 2 [1,0]) λ_=>rfl;have X:=H2.dg 0 n5;have ad:=X.2.1;have I:=Fix.row X P;refine X.1.kX n n5 n7 ?_;refine(O.nil 5 1 aq).bc.append ag 0 n5 cK ⟨_,_,n5,n5⟩ n5 n8 (λ_=>rfl) I.1 cB oi λm h2 W=>?_;have W:aa B h0 h2 (ai 5 m 1 aq (dh c p f 0)::an a 174 (dz pw d s bl)::ce s d.l::ce bl d.laid::As):=by show aa B h0 h2 (ai 5 m 1 aq c::_);rw[N];exact W
 refine aj (λk:Nat=>(k:Int)) (λk h'=>k<=4/\aa B h0 h' (ai 5 m 1 aq (dh c p f k)::an a 174 (dz pw d s bl)::ce s d.l::ce bl d.laid::As)) (λk=>4-k) 0 n5 ⟨n7,W⟩ ?_;rintro k h3 ⟨hk,Q⟩
 try dsimp only
 refine ae (λe=>?_) λe=>?_
 .have E:k<4:=n7
  have ah:n4 (dh c p f k)=64:=by rw[rN,N];exact K
  obtain⟨z,hz⟩:=I5 ((dh c p f k)[p+k]'n7)
  have V:qc xN ((p:Int)+(k:Int))=((p+k:Nat):Int):=o9
  rw[V];refine(Q.seq 0 n5 λ_=>rfl).aV (p+k) n5 n7 (z.toNat:Int) (by rw[hz];rfl) ?_;refine⟨o9,?_⟩;have J:min (qc xN ((8:Int)*(k:Int))).toNat (qq xP)=8*k:=by rw[af _];show min ((8:Int)*k).toNat 32=8*k;omega
  rw[J,cb (zo f (2^(8*k)))];have S:=lQ z (b8 (zo f (2^(8*k))));rw[S];refine Q.set ag 0 n5 (λ_=>rfl) n5 (p+k) n5 n7 (z^^^Bx f k) n5 n5 n5 λh5 T=>⟨I6,?_⟩
  refine⟨k+1,o0,⟨n7,?_⟩,n7⟩;have w:dh c p f (k+1)=(dh c p f k).set (p+k) (z^^^Bx f k):=by show(dh c p f k).set (p+k) ((dh c p f k).getD (p+k) 0^^^Bx f k)=_;rw[rC 0,hz]
  rw[w];exact T
 .have E:k=4:=n7
  subst E;obtain⟨g,q,T⟩:=(Q.aG 3 [2,0,1]).AW;have L:n4 (bo 5 1 aq g d.l)=n4 d.l:=gw q;refine⟨a,n5,s,(Q.box 1 n5).cell n5,?_⟩;refine T.set ag 0 n5 (λ_=>rfl) n5 n n5 n7 m n5 n5 n5 λh5 U=>⟨by rw[u],?_⟩
  have M:d.mq (n:Int) (p:Int) f={d with l:=d.l.set n (dh c p f 4)}:=by unfold bp.mq;rw[u,m6 n5,qi,rC [] P,<-N];rfl
  rw[M];have U:aa B h0 h5 (ai 41 s 1 bv (g.set n m)::(bo 5 1 aq g d.l++(ai 5 m 1 aq (dh c p f 4)::an a 174 (dz pw d s bl)::ce bl d.laid::As))):=U;have G:(ai 41 s 1 bv (g.set n m)::(bo 5 1 aq g d.l++(ai 5 m 1 aq (dh c p f 4)::an a 174 (dz pw d s bl)::ce bl d.laid::As)))[n+1]?=dB (ai 5 (g[n]'n7) 1 aq d.l[n]):=by rw[qU,List.getElem?_append_left n7,eC q n P]
  have A:(ai 41 s 1 bv (g.set n m)::(bo 5 1 aq g d.l++(ai 5 m 1 aq (dh c p f 4)::an a 174 (dz pw d s bl)::ce bl d.laid::As)))[n4 d.l+1]?=dB (ai 5 m 1 aq (dh c p f 4)):=by rw[qU,qk n7,L,zd];rfl
  have Y:=U.merge (n+1) (n4 d.l+1) n7 G A (D:=ai 5 m 1 aq (dh c p f 4)) λq1 q2 _ _ p2=>(ai 5 m 1 aq (dh c p f 4)).mono p2 λ_ R=>.inr R;have o:n4 (g.set n m)=n4 (d.l.set n (dh c p f 4)):=by rw[qO,qO];exact q
  have y:bo 5 1 aq (g.set n m) (d.l.set n (dh c p f 4))=(bo 5 1 aq g d.l).set n (ai 5 m 1 aq (dh c p f 4)):=by
   apply zp;intro j;by_cases Z:j<n4 d.l
   .rw[eC o j (by rw[qO];exact Z)];by_cases t:n=j
    .subst t;rw[List.getElem?_set_self n7,wT,wT]
    .rw[List.getElem?_set_ne t,eC q j Z,vy t,vy t]
   .rw[zf (by rw[gw o,qO];omega),zf D8]
  rw[wY,List.set_append_left _ _ n7,wY,List.set_append_right _ _ D8]at Y;rw[qO,L,zd,<-y]at Y;have H8:=aa.Cx o Y;refine aa.iC (s:=s) (b:=bl) ⟨by show d.wait<=_;rw[qO];exact ok.wait,by show(d.l.set n _).length<=_;rw[qO];exact ok.len,ok.room,λx S=>?_,ok.laid,ok.cellL⟩ (H8.aG 4 [2,0,3]);rcases List.mem_or_eq_of_mem_set S with h|rfl
  .exact ok.cell x h
  .rw[rN,N];exact K
theorem Ts{c:Kit}{m:aS}{k:Int}{b:hU}(e:bR ds k=dB d)(l:de da k=dB b)(H:aa B h0 h (aJ c a pw m offs da w ds::As)):
  ∃n:Nat,k=n/\da[n]?=dB (dB b)/\(∀i,iD ds k i=ds.set n (dB i))/\aa B h0 h (kb c.tD (c.f pw) b d::eF c.tP pw w::Ej c a pw m offs da ds n::As):=by
 obtain⟨n,rfl,s⟩:=kB e;have q:ds[n]?=dB (dB d):=by
  unfold bR at e;rw[m6 n7,qi]at e;cases hX:ds[n]? with
  |none=>rw[hX]at e;cases e
  |some o=>rw[hX]at e;exact congrArg dB e
 obtain⟨p,g,r⟩:=Qw.aa.fq H q;have j:p=b:=by unfold de at l;rw[m6 n7,qi,g]at l;injection l
 subst j;exact⟨n,n5,g,λi=>by simp only[iD,qi],r⟩
theorem Wg{k:Int}{b:hU}(i at_ c:Int)(e:0<=c/\c<2^32)(l:bR ds k=dB d)(p:de da k=dB b)(H:aa B h0 h (iv a pw da offs w ds m::As)):
  ak xR 58 #[xJ (dB b),xH xN i,xH xN at_,xH xP c] h λv h'=>v=xL (lr d i at_ c)/\aa B h0 h' (iv a pw da offs w (iD ds k (d.mq i at_ c)) m::As):=by
 obtain⟨x,H⟩:=jc H;obtain⟨n,rfl,g,j,o⟩:=Ts l p H;refine(Pv i at_ c e o).mono ?_;rintro _ h' ⟨rfl,f⟩;rw[j];exact⟨n5,pT (Qw.aa.kN (k:=bC) (n:=n) g f)⟩
theorem Wh{k:Int}{b:hU}(g:bR ds k=dB d)(j:de da k=dB b)(H:aa B h0 h (iv a pw da offs w ds m::As)):
  ak xR 56 #[xJ (dB b)] h λv h'=>v=.tuple #[]/\aa B h0 h' (iv a pw da offs w (iD ds k d.Ic) m::As):=by
 obtain⟨x,H⟩:=jc H;obtain⟨n,rfl,e,f,i⟩:=Ts g j H;refine(Tg i).mono ?_;rintro _ h' ⟨rfl,c⟩;rw[f];exact⟨n5,pT (Qw.aa.kN (k:=bC) (n:=n) e c)⟩
theorem Wi{k:Int}{b:hU}(g:bR ds k=dB d)(j:de da k=dB b)(H:aa B h0 h (gQ a pw da offs w ds m::As)):
  ak xR 55 #[xJ (dB b)] h λv h'=>v=.tuple #[]/\aa B h0 h' (gQ a pw da offs w (iD ds k d.Ic) m::As):=by
 obtain⟨x,H⟩:=iM H;obtain⟨n,rfl,e,f,i⟩:=Ts g j H;refine(Sv i).mono ?_;rintro _ h' ⟨rfl,c⟩;rw[f];exact⟨n5,pK (Qw.aa.kN (k:=bN) (n:=n) e c)⟩
theorem KF(h:m5):ak xR 55 #[xJ eH] h λv h'=>v=.tuple #[]/\h'=h:=by refine ts Tryz.func55 ?_;exact aT (λe=>o1) λ_=>⟨n5,n5⟩
theorem aaA(n:Int)(c:n<2^62)(H:aa B h0 h (iv a pw da offs w ds m::As)):ak xR 17 #[xJ (dB pw),xH xN n] h λv h'=>v=.tuple #[]/\aa B h0 h' (iv a pw da offs (w.arm n) ds m::As):=by obtain⟨x,H⟩:=jc H;obtain⟨ok,d⟩:=H.jQ;refine(VW n c (d.aG 2 [1,0])).mono ?_;rintro _ h' ⟨rfl,b⟩;exact⟨n5,pT ((b.aG 2 [1,0]).mG ok)⟩
theorem aaB{k:Int}(e:0<=k/\k<64)(H:aa B h0 h (iv a pw da offs w ds m::As)):cellOf h ((a.add 10).add (k.toNat*1))=dB (.pointer (de da k))/\(bR ds k=eH->de da k=eH)/\(∀d,bR ds k=dB d->∃b,de da k=dB b):=by
 obtain⟨x,H⟩:=jc H;obtain⟨n,rfl⟩:∃n:Nat,k=(n:Int):=⟨k.toNat,n7⟩
 refine⟨by rw[qi];exact Ep H n,λh=>Qv h H,λd h=>?_⟩;obtain⟨b,_,_,_,c,_⟩:=AF h H;exact⟨b,c⟩
theorem aaC(H:aa B h0 h (iv a pw da offs w ds m::As)):cellOf h (a.add 8)=dB (xJ (dB pw)):=by obtain⟨x,H⟩:=jc H;obtain⟨ok,b⟩:=aa.cP H;exact b.cell (ud ok.l8)
theorem acI(H:aa B h0 h (iv a pw da offs w ds m::As)):∀k d,bR ds k=dB d->n4 d.l<=512:=by obtain⟨x,H⟩:=jc H;exact NL H
theorem aaD(c:ByteArray)(s:Sl)(b:aR)(g:St B h0 As λh=>Rd h s 1 aq b)(d:s.len<=s.cap)(f:c.size<=2^40)(i:bE m=eX)(e:n4 b<=2^20)(H:aa B h0 h (iv a pw da offs w ds m::As)):
  ak xR 48 #[xJ (dB a),xK c,s] h λv h'=>v=xH xN (eG m offs w ds c b).1/\
   aa B h0 h' (iv a pw da offs (eG m offs w ds c b).2.2.1 (eG m offs w ds c b).2.2.2 (eG m offs w ds c b).2.1::As):=by
 obtain⟨x,H⟩:=jc H;refine(Pu x m c s b g d f i e H).mono ?_;rintro _ h' ⟨rfl,y,j⟩;exact⟨n5,pT j⟩
theorem Tt(b:ByteArray)(c:bE m=eX)(H:aa B h0 h (iv a pw da offs w ds m::As)):
  ak xR 50 #[xJ (dB a),xK b] h λv h'=>v=xH xN (cE m offs w ds b).1/\
   aa B h0 h' (iv a pw da offs (cE m offs w ds b).2.2.1 (cE m offs w ds b).2.2.2 (cE m offs w ds b).2.1::As):=by
 obtain⟨x,H⟩:=jc H;refine(NI b x m c H).mono ?_;rintro _ h' ⟨rfl,y,d⟩;exact⟨n5,pT d⟩
theorem aaE(b:ByteArray)(c:bE m=eX)(H:aa B h0 h (iv a pw da offs w ds m::As)):
  ak xR 49 #[xJ (dB a),xK b] h λv h'=>∃r:Sl,v=.tuple #[r,xH xN (iX m offs w ds b).2]/\Sp h h' [EA (iG 1 aq) r (iX m offs w ds b).1]:=by
 obtain⟨x,H⟩:=jc H;exact Wf x m b c H
theorem Yu(b:bE m=eX)(H:aa B h0 h (iv a pw da offs w ds m::As)):
  ak xR 52 #[xJ (dB a)] h λv h'=>∃r:Sl,v=r/\Sp h h' [ai 9 r 1 oW (lX m offs w)]:=by
 obtain⟨x,H⟩:=jc H;exact Ti x m b H
theorem Yv(b:ByteArray)(c:bE m=eX)(H:aa B h0 h (iv a pw da offs w ds m::As)):
  ak xR 53 #[xJ (dB a),xK b] h λv h'=>∃t:Sl,v=.tuple #[xM #[xH xN (gD m offs w ds b).1.1,xH xN (gD m offs w ds b).1.2.1,xH xN (gD m offs w ds b).1.2.2,t],xH xN (gD m offs w ds b).2]/\Sp h h' [ai 3 t 1 ar (jX m offs w b)]:=by
 obtain⟨x,H⟩:=jc H;exact Tl x m b c H
theorem Wj(o b:Int)(c:bE m=eX)(H:aa B h0 h (iv a pw da offs w ds m::As)):
  ak xR 23 #[xJ (dB a),xH xN o,xH xN b] h λv h'=>∃r:Sl,v=r/\Sp h h' [gA 22 r 3 1 ar (fD m ds o b (aY ds m.drives))]:=by
 obtain⟨x,H⟩:=jc H;exact Pq x m o b (H.at 1 n5) (jH c) (gx c) H
theorem Wk(b:ByteArray)(g:bE m=eX)(H:aa B h0 h (gQ a pw da offs w ds m::As)):
  ak xR 32 #[xJ (dB a),xK b] h λv h'=>∃t:Sl,v=.tuple #[xM #[xH xN (gD m offs w ds b).1.1,xH xN (gD m offs w ds b).1.2.1,xH xN (gD m offs w ds b).1.2.2,t],xH xN (gD m offs w ds b).2]/\Sp h h' [ai 3 t 1 ar (jX m offs w b)]:=by
 have c:=(Nc H).2;obtain⟨x,f⟩:=iM H;exact Tk x b g (λk d e=>qV (c k d e).1 (c k d e).2.1) f
theorem Yw(b:ByteArray)(g:bE m=eX)(H:aa B h0 h (gQ a pw da offs w ds m::As)):
  ak xR 31 #[xJ (dB a),xK b] h λv h'=>∃r:Sl,v=.tuple #[r,xH xN (iX m offs w ds b).2]/\Sp h h' [EA (iG 1 aq) r (iX m offs w ds b).1]:=by
 have c:=(Nc H).2;obtain⟨x,f⟩:=iM H;exact Yi x b g (λk d e=>qV (c k d e).1 (c k d e).2.1) f
theorem DH{e d:hU}{c:List bJ}(f:bE m=eX)(H:aa B h0 h (gQ a pw da offs w ds m::iv e d c offs w ds m::As)):
  ak xR 20 #[xJ (dB a),xJ (dB e)] h λv h'=>v=xL eX/\Sp h h' []:=by
 obtain⟨x,H⟩:=iM H;obtain⟨x2,H⟩:=jc (H.aG 3 [2,0,1]);have b:=H.aG 4 [2,0,3,1];exact Ph x x2 m (b.at 2 n5) (b.at 3 n5) (jH f) (gx f) n5 b
end
def ny(b:Mv):Prop:=(∃n:Int,(0<=n/\n<60)/\b=⟨12,⟨#[]⟩,[],0,n,0,0,[],[]⟩)∨
 ∃(n:Int) (a us:aC),(0<=n/\n<12)/\b=⟨13,⟨#[]⟩,[],0,n,0,0,a,us⟩/\(n4 a=9/\us.length=9)/\(∀x∈a,-1<=x/\x<=7)/\∀x∈us,-1<=x/\x<=65
theorem Kc{P:Int->Prop}{l:aC}{x:Int}(h:∀y∈l,P y)(b:P x):∀y∈l++[x],P y:=λy a=>by
 rcases qx.1 a with a|a
 .exact h y a
 .rw[qB.1 a];exact b
theorem Pw(k a b:Int)(h:m5):ak xR 44 #[xH xN k,xH xN a,xH xN b] h λv h'=>∃(x:AC) (m:Mv),v=Nu x/\ny m/\Sp h h' [EA fZ x m]:=by
 refine uu k a b ?_;refine(Sp.refl h).alloc ag n5 λy h1 R=>?_;refine(bT k 3 h1).mono ?_;rintro _ X ⟨rfl,rfl⟩;refine⟨_,n5,ae (λ_=>?_) λ_=>?_⟩
 .refine(bT a 60 X).mono ?_;rintro _ h3 ⟨rfl,rfl⟩;refine⟨_,n5,?_⟩;have L:0<=a%60/\a%60<60:=n7
  refine R.storeAll ag 0 n5 n5 (gS (12,⟨#[]⟩,⟨eH,0,0⟩,0,a%60,0,0,⟨eH,0,0⟩,⟨eH,0,0⟩)) n5 n5 n5 n5 λI u=>?_;refine⟨(12,⟨#[]⟩,⟨eH,0,0⟩,0,a%60,0,0,⟨eH,0,0⟩,⟨eH,0,0⟩),(u.box 0 n5).aw _ n5,_,⟨12,⟨#[]⟩,[],0,a%60,0,0,[],[]⟩,n5,.inl ⟨_,L,n5⟩,?_⟩;exact u.dW 0 n5 λq _=>⟨⟨n5,n5,n5,n5,n5,n5,qj _⟩,⟨n5,λi x p=>(by simp at p)⟩,⟨n5,λi x p=>(by simp at p)⟩,n5,λi x p=>(by simp at p)⟩
 obtain⟨f,d⟩:∃f:Int->Sl->Sl->AC,f=λn k t=>(13,⟨#[]⟩,⟨eH,0,0⟩,0,n,0,0,k,t):=⟨_,rfl⟩
 refine R.alloc ag n5 λa5 h3 H3=>?_;refine H3.storeAll ag 1 n5 n5 (gS (13,⟨#[]⟩,⟨eH,0,0⟩,0,0,0,0,⟨eH,0,0⟩,⟨eH,0,0⟩)) n5 n5 n5 n5 λI u=>?_;have u:Sp h I [an y 44 JY,an a5 44 (gS (f 0 ⟨eH,0,0⟩ ⟨eH,0,0⟩))]:=by rw[d];exact u
 refine bs (λ_ h'=>∃n:Int,(0<=n/\n<12)/\Sp h h' [an y 44 JY,an a5 44 (gS (f n ⟨eH,0,0⟩ ⟨eH,0,0⟩)),ai 3 ⟨eH,0,0⟩ 1 ar [],ai 3 ⟨eH,0,0⟩ 1 ar []]) ?_ ?_
 .refine(bT a 5 I).mono ?_;rintro _ S ⟨rfl,rfl⟩;refine⟨_,n5,be (λ_=>?_) λ_=>⟨0,n7,(u.nil 3 1 ar).nil 3 1 ar⟩⟩;refine(bT b 12 S).mono ?_;rintro _ T ⟨rfl,rfl⟩;have L:0<=b%12/\b%12<12:=n7
  refine⟨_,n5,?_⟩;refine u.storeAt ag 1 n5 n5 (off:=4) n5 n5 n5 (show 4<9 by decide) λP j=>⟨b%12,L,?_⟩
  have j:Sp h P [an y 44 JY,an a5 44 (gS (f (b%12) ⟨eH,0,0⟩ ⟨eH,0,0⟩))]:=by rw[d]at j⊢;exact j
  exact(j.nil 3 1 ar).nil 3 1 ar
 rintro _ S ⟨n,n0,Y⟩;refine aj (λt:Sl×Sl×aC×aC=>((n4 t.2.2.1:Nat):Int)) (λt h'=>n4 t.2.2.1<=9/\t.2.2.2.length=n4 t.2.2.1/\(∀x∈t.2.2.1,-1<=x/\x<=7)/\(∀x∈t.2.2.2,-1<=x/\x<=65)/\Sp h h' [an y 44 JY,an a5 44 (gS (f n t.1 t.2.1)),ai 3 t.1 1 ar t.2.2.1,ai 3 t.2.1 1 ar t.2.2.2]) (λt=>9-n4 t.2.2.1) (⟨eH,0,0⟩,⟨eH,0,0⟩,[],[]) n5 ⟨oo,n5,oo,oo,Y⟩ ?_;rintro⟨B,s,o,us⟩ T ⟨hl,K,H,O,A⟩;dsimp only at hl K H O A⊢;refine ae (λe=>?_) λe=>?_
 .have J:∀{h':m5} {g c:Sl},bV h' a5 44 (gS (f n c g))->cellOf h' (a5.add 8)=dB (xI g.ptr g.len g.cap):=λD=>by rw[d]at D;exact D.cell n5
  have M:∀{h':m5} {g c:Sl},bV h' a5 44 (gS (f n c g))->cellOf h' (a5.add 7)=dB (xI c.ptr c.len c.cap):=λD=>by rw[d]at D;exact D.cell n5
  refine aE ⟨B,M (A.box 1 n5),n7,?_⟩;refine(bT _ 9 T).I2 ?_;obtain⟨q,hq⟩:=I5 ((zo a (2^min ((n4 o:Nat):Int).toNat (qq xN)))%9)
  rw[<-hq];have q0:0<=q/\q<9:=n7
  refine⟨q,n5,⟨M (A.box 1 n5),I6⟩,?_⟩;rw[af (q-1)];refine A.lit ag ar fu n5 [q-1] n5 (show 1<=2^20 by decide) n5 λv P j=>⟨⟨M (j.box 1 n5),I6⟩,?_⟩
  refine j.append ag 2 n5 fu ⟨_,_,n5,n5⟩ n5 n8 (λ_=>rfl) (j.seq 4 n5 λ_=>rfl) db oi λc h8 N=>⟨I6,?_⟩
  refine N.storeAt ag 1 n5 n5 (off:=7) n5 n5 n5 (show 7<9 by decide) λQ z=>⟨I6,?_⟩
  have z:Sp h Q [an y 44 JY,an a5 44 (gS (f n c s)),ai 3 c 1 ar (o++[q-1]),ai 3 s 1 ar us]:=by rw[d]at z⊢;exact aa.bu z [0,1,2,3]
  refine⟨s,J (z.box 1 n5),n7,?_⟩;refine(bT _ 67 Q).I2 ?_;obtain⟨r,hr⟩:=I5 ((zo b (2^min ((n4 o:Nat):Int).toNat (qq xN)))%67)
  rw[<-hr];have r0:0<=r/\r<67:=n7
  refine⟨r,n5,⟨J (z.box 1 n5),I6⟩,?_⟩;rw[af (r-1)];refine z.lit ag ar fu n5 [r-1] n5 (show 1<=2^20 by decide) n5 λv V w=>⟨⟨J (w.box 1 n5),I6⟩,?_⟩
  refine w.append ag 3 n5 fu ⟨_,_,n5,n5⟩ n5 n8 (λ_=>rfl) (w.seq 4 n5 λ_=>rfl) db oi λE ab G=>⟨I6,?_⟩
  refine G.storeAt ag 1 n5 n5 (off:=8) n5 n5 n5 (show 8<9 by decide) λF l=>⟨I6,?_⟩
  rw[af (((n4 o:Nat):Int)+1)];have l:Sp h F [an y 44 JY,an a5 44 (gS (f n c E)),ai 3 c 1 ar (o++[q-1]),ai 3 E 1 ar (us++[r-1])]:=by rw[d]at l⊢;exact aa.bu l [0,1,2,3]
  exact⟨(c,E,o++[q-1],us++[r-1]),oo,⟨oi,oi,Kc H ⟨n7,n7⟩,Kc O ⟨n7,n7⟩,l⟩,oi⟩
 .refine⟨f n B s,(A.box 1 n5).aw _ n5,?_⟩;refine A.storeAll ag 0 n5 n5 (gS (f n B s)) n5 n5 n5 n5 λP j=>?_;refine⟨f n B s,(j.box 0 n5).aw _ n5,f n B s,⟨13,⟨#[]⟩,[],0,n,0,0,o,us⟩,n5,.inr ⟨n,o,us,n0,n5,⟨n7,n7⟩,H,O⟩,?_⟩;have N:=(((j.freeze 2 n5 λ_=>rfl).freeze 3 n5 λ_=>rfl).aG 4 [2,3]).kq;refine N.dW 0 n5 λq ⟨q1,q2,_,U,W,z1,Z⟩=>?_;rw[d];exact⟨⟨n5,n5,n5,n5,n5,n5,qj _⟩,⟨n5,λi x p=>(by simp at p)⟩,Z.mono W,z1.mono U⟩
theorem Px(p:Pm)(s:Sl)(l:aC)(b:Nat)(a:Bool)(h:m5)(hp:bH p=eX)(g:Rd h s 1 ar l)(hm:b<=100):
  ak xR 9 #[go p,s,xH xN b,xL a] h λv h'=>∃(r:Sl) (L:List Mv),v=r/\(∀m∈L,lu p m∨(a=eX/\ny m))/\L.length<=b/\Sp h h' [dK 44 r 9 gS fZ L]:=by
 refine tV p s b a ?_;have P:=g.len;refine(Sp.refl h).boxed λy h1 Y=>?_;have fin:∀{h':m5} (r:Sl) (L:List Mv),(∀m∈L,lu p m∨(a=eX/\ny m))->n4 L<=b->Sp h h' [an y 24 [xH xN p.1,xH xN p.2.1,xH xN p.2.2],dK 44 r 9 gS fZ L]->∃(G:Sl) (L:List Mv),(Value.slice r.ptr r.len r.cap)=xI G.ptr G.len G.cap/\(∀m∈L,lu p m∨(a=eX/\ny m))/\L.length<=b/\Sp h h' [dK 44 G 9 gS fZ L]:=λr L z X Z=>⟨r,L,n5,z,X,Z.bu [1]⟩
 refine aE ?_;refine aj (λt:Sl×List Mv=>(t.1,((3*n4 t.2:Nat):Int))) (λt h'=>(∀m∈t.2,lu p m∨(a=eX/\ny m))/\t.2.length<=b/\Sp h h' [an y 24 [xH xN p.1,xH xN p.2.1,xH xN p.2.2],dK 44 t.1 9 gS fZ t.2]) (λt=>b-n4 t.2) (⟨eH,0,0⟩,[]) n5 ⟨oo,oo,Y.LI 44 9 gS fZ⟩ ?_;rintro⟨o,L⟩ h2 ⟨i,N,n⟩;dsimp only at i N n⊢;obtain⟨k,K⟩:=I5 (n4 L)
 rw[<-K]at N⊢;obtain⟨el,ec⟩:=n.adn 1 rfl;refine aE ?_;rw[af (((3*k:Nat):Int)+2)];refine ae (λe1=>?_) λ_=>fin o L i n7 n;refine ae (λe2=>?_) λ_=>fin o L i n7 n;have S:3*k+2<n4 l:=n7
 have R:k<b:=n7
 have J:=g.up n.ac;obtain⟨u,A,z,_,_⟩:=g.elem (3*k) l[3*k] (qd n7);have c:∀{h':m5},Rd h' s 1 ar l->cellOf h' ((⟨u,A,eH⟩:hU).add (((3*k:Nat):Int).toNat*1))=dB (xH xN l[3*k]):=λ{h'} hr=>by
  obtain⟨b',O,D,_,u3⟩:=hr.elem (3*k) l[3*k] (qd n7);rw[z]at D;injection D with D
  injection D with D u2
  subst D;subst u2;rw[qi,add_eq];have F:=u3.1;rw[add_eq,Nat.add_zero]at F;exact F
 have put:∀{h3:m5} {x:AC} {m:Mv},(lu p m∨(a=eX/\ny m))->Sp h h3 [an y 24 [xH xN p.1,xH xN p.2.1,xH xN p.2.2],dK 44 o 9 gS fZ L,EA fZ x m]->
   bF xR (Instr.buildSlice 34 1 #[(0,Nu x)]) (.one (.sc .slc)) h3 λv4 F=>bx.ok [((⟨u,A,eH⟩:hU).add (((3*k:Nat):Int).toNat*1),xH xN l[3*k])] F/\bF xR (q6 #[34,34] 34 #[o,v4]) (.one (.sc .slc)) F λv5 w=>bx.ok [((⟨u,A,eH⟩:hU).add (((3*k:Nat):Int).toNat*1),xH xN l[3*k])] w/\
    ∃q:Sl×List Mv,((⟨v5.ptr,v5.len,v5.cap⟩:Sl),qc xN (((3*k:Nat):Int)+3))=(q.1,((3*n4 q.2:Nat):Int))/\((∀m∈q.2,lu p m∨(a=eX/\ny m))/\q.2.length<=b/\Sp h w [an y 24 [xH xN p.1,xH xN p.2.1,xH xN p.2.2],dK 44 q.1 9 gS fZ q.2])/\b-n4 q.2<b-k:=λ{h3 x m} f B=>by
  refine B.ke ag gS eMv n5 [x] n5 (show 1*9<=2^20 by decide) o5 ⟨c (g.up B.ac),I6⟩ ?_;refine B.DT ag 1 2 n8 n5 n5 eMv n5 n8 (λ_=>rfl) acA o5 n8 n7 λO w j=>?_;refine⟨⟨c (g.up j.ac),I6⟩,(O,L++[m]),?_,⟨λm' I=>?_,u0,j.bu [0,1]⟩,u0⟩
  .try dsimp only
   rw[af (((3*k:Nat):Int)+3),qo,<-K];rfl
  .rcases qx.1 I with h|h
   .exact i m' h
   .rw[qB.1 h];exact f
 have V:∀{E:m5} (Q:Sp h E [an y 24 [xH xN p.1,xH xN p.2.1,xH xN p.2.2],dK 44 o 9 gS fZ L]),Rd E s 1 ar l:=λH=>g.up H.ac;refine aE (bs (λ(t:Bool) h'=>(t=eX->a=eX)/\Sp h h' [an y 24 [xH xN p.1,xH xN p.2.1,xH xN p.2.2],dK 44 o 9 gS fZ L]) ?_ ?_)
 .refine aT (λU=>?_) λ_=>⟨λe=>o1,n⟩
  refine⟨⟨u,A,eH⟩,⟨z,n7,n7⟩,l[3*k],c J,(bT _ 5 h2).I2 ?_⟩;exact⟨_,n5,λ_=>U,n⟩
 rintro t w ⟨T,j⟩;have d:=g.up j.ac;refine aT (λet=>?_) λ_=>?_
 .refine⟨⟨u,A,eH⟩,⟨z,n7,n7⟩,l[3*k],c d,n8,?_⟩;rw[af (((3*k:Nat):Int)+1)];refine d.aV (3*k+1) n7 n7 l[3*k+1] n5 ?_;refine d.aV (3*k+2) n7 n7 l[3*k+2] n5 ?_;refine(Pw _ _ _ w).mono ?_;rintro _ h6 ⟨x,m,rfl,f,W⟩;have M:=j.comp W;exact⟨x,n5,⟨c (g.up M.ac),I6⟩,put (.inr ⟨T et,f⟩) M⟩
 .try dsimp only
  refine⟨p,(j.box 0 n5).aw _ n5,⟨u,A,eH⟩,⟨z,n7,n7⟩,l[3*k],c d,n8,?_⟩;rw[af (((3*k:Nat):Int)+1)];refine d.aV (3*k+1) n7 n7 l[3*k+1] n5 ?_;refine d.aV (3*k+2) n7 n7 l[3*k+2] n5 ?_;refine(VV p _ _ _ w hp).mono ?_;rintro _ h3 ⟨x,m,rfl,f,R3⟩;have B:=j.comp R3;exact⟨x,n5,⟨c (g.up B.ac),I6⟩,put (.inl f) B⟩
section
variable {pw:hU}
end
theorem NO{p q:au}(a b:Sl)(c d:List ByteArray)(h:m5)(o:Qw.Seq h p a 1 oW c)(r:Qw.Seq h q b 1 oW d)(u:n4 c<=2^30):
  ak xR 51 #[a,b] h λv h'=>(c=d->v=xL eX)/\h'=h:=by
 refine ts Tryz.func51 ?_ (HF (HF (I0 [(13,aI)] [(4,6),(13,26)])));have l:=o.len;have g:=r.len;refine bt (λe=>⟨λf=>absurd (by rw[l,g,f]) e,n5⟩) λe=>?_;refine aj (λi:Nat=>(i:Int)) (λi h'=>i<=n4 c/\h'=h) (λi=>n4 c-i) 0 n5 ⟨n7,n5⟩ ?_;rintro i x ⟨w,rfl⟩;refine ae (λm=>?_) λm=>⟨λ_=>rfl,n5⟩
 have k:i<n4 c:=by have t:(i:Int)<(a.len:Int):=m;omega
 have j:i<n4 d:=n7
 refine o.aV i n5 k c[i] n5 ?_;refine r.aV i n5 j d[i] n5 ?_;refine aH (λf=>⟨λs=>?_,n5⟩) λf=>⟨i+1,o0,⟨n7,n5⟩,n7⟩
 subst s;simp at f
section
variable {pw:hU}
end
structure NP (b:Mv):Prop where
 put:b.kind=1->b.name.size<=2^40/\b.data.length<=2^20
 slot:b.kind=9∨b.kind=11->0<=b.slot/\b.slot<64
 arm:b.kind=12->b.n<2^62
 mask:b.kind=11->0<=b.mask/\b.mask<2^32
theorem Tu{m:aB}(b:bE m=eX)(a:Int)(w:Pow)(d:aF)(n:aB):bE (cM m a w d n).2.1=eX:=by
 unfold cM;split
 .exact b
 split
 .exact b
 rename_i c;have c:bE n=eX:=by
  cases h:bE n with
  |true=>rfl
  |false=>rw[h]at c;exact absurd n5 c
 try dsimp only
 split
 .exact b
 split
 .exact b
 try dsimp only
 split
 .exact c
 .exact b
theorem Tv{m:aB}(c:bE m=eX)(a:Int)(w:Pow)(d:aF)(b:ByteArray):bE (cE m a w d b).2.1=eX:=by
 unfold cE;split
 .exact c
 split
 .exact c
 split
 .exact c
 .exact Tu c _ _ _ _
theorem aaF{m:aB}(d:bE m=eX)(a:Int)(w:Pow)(f:aF)(c:ByteArray)(b:aR):bE (eG m a w f c b).2.1=eX:=by
 unfold eG;split
 .exact d
 rename_i e;have e:dO m (gN w a) f c b.length=0:=p7
 cases ht:cR m.p m.next (splitB m.p b).length with
 |none=>exact d
 |some t=>
  try dsimp only
  split
  .exact d
  split
  .exact d
  split
  .exact d
  try dsimp only
  split
  .exact MY d e ht
  .exact d
theorem NQ{w:Pow}(h:w.calm)(d:bp)(l:dP):(d.rewrite w l).2.1=w:=by
 unfold bp.rewrite;rw[rL h]
 repeat' split
 all_goals rfl
theorem oX{w:Pow}(h:w.calm)(m:aB)(N:Int->Int):∀(l:aC) (ds:aF),(makes m N l w ds).2.1=w
 |[],_=>rfl
 |k::l,ds=>by
  have a:(fC m w ds k (N k)).2.1=w:=by
   unfold fC;cases bR ds k with
   |none=>rfl
   |some d=>
    try dsimp only
    unfold eJ;split
    .rfl
    split
    .rfl
    split
    .rfl
    exact NQ h _ _
  unfold makes;split
  .rw[a];exact oX h m N l _
  .exact a
theorem Yx{w:Pow}(h:w.calm)(m:aB)(a:Int)(d:aF)(c:ByteArray)(b:aR):(eG m a w d c b).2.2.1=w:=by
 unfold eG;split
 .rfl
 cases cR m.p m.next (splitB m.p b).length with
 |none=>rfl
 |some t=>
  try dsimp only
  split
  .rfl
  split
  .exact oX h _ _ _ _
  rw[oX h];split
  .exact ul h _ _
  .try dsimp only
   rw[ul h];exact ul h _ _
theorem Py{w:Pow}(h:w.calm)(m:aB)(a:Int)(b:aF)(n:aB):(cM m a w b n).2.2.1=w:=by
 unfold cM;split
 .rfl
 split
 .rfl
 try dsimp only
 split
 .rfl
 split
 .exact oX h _ _ _ _
 rw[oX h];exact ul h _ _
theorem Pz{w:Pow}(h:w.calm)(m:aB)(a:Int)(c:aF)(b:ByteArray):(cE m a w c b).2.2.1=w:=by
 unfold cE;split
 .rfl
 split
 .rfl
 split
 .rfl
 .exact Py h _ _ _ _
theorem aaG{m:aB}(f:bE m=eX)(b:Int)(w:Pow)(g:aF)(a:ByteArray):(iX m b w g a).1.length<=2^20:=by
 unfold iX;split
 .exact qX _
 cases hf:m.objs.find? (dD a)with
 |none=>exact qX _
 |some E=>
  have c:=zO hf;have e:=(iI m E).1 (((cJ m).1 f).2.2.2.2.1 E c);have j:=((iT m).1 ((cJ m).1 f).1).2.2.1;have d:E.length<=2^20:=by obtain⟨⟨l,i⟩,_,k,h⟩:=(bI m.p).1 j;have:m.p.1*m.p.2.2<=16*24:=we i h n7 n7;have:=e.2.2.1.2;omega
  show(pM m g E).1.length<=_;unfold pM;split
  .exact qX _
  split
  .try dsimp only
   unfold iA;split
   .rw[qw];omega
   .exact qX _
  .exact qX _
theorem Wm{m:aB}(d:bE m=eX)(b:Int)(w:Pow)(a:ByteArray):n4 (jX m b w a)<=8:=by
 unfold jX;split
 .exact qX _
 cases hf:m.objs.find? (dD a)with
 |none=>exact qX _
 |some E=>
  have c:=(iI m E).1 (((cJ m).1 d).2.2.2.2.1 E (zO hf));have:=lN c.2.2.1.2
  try dsimp only
  omega
section
theorem PA(x:UInt8):qc xO ((x.toNat:Int)+1)=((x+1).toNat:Int):=by have:=x.toNat_lt;rw[UInt8.toNat_add];unfold qc;simp[qq,yA]
theorem KG(s:Int×Int×Int)(t u:Sl)(l:aC)(h:m5)(i:Rd h t 1 ar l)(f:Rd h u 1 ar l)(k:n4 l<=2^30):
  ak xR 54 #[xM #[xH xN s.1,xH xN s.2.1,xH xN s.2.2,t],xM #[xH xN s.1,xH xN s.2.1,xH xN s.2.2,u]] h λv h'=>v=xL eX/\Sp h h' []:=by
 refine ts Tryz.func54 ?_ (args:=[(s.1,s.2.1,s.2.2,t),(s.1,s.2.1,s.2.2,u)]);refine(Sp.refl h).boxed λj m g=>g.boxed λa2 d a=>?_;have b:=a.box 0 n5;have c:=a.box 1 n5;refine⟨s.1,b.cell0 n5,s.1,c.cell0 n5,be (λ_=>?_) λe=>absurd n5 e⟩;refine⟨s.2.1,b.cell n5,s.2.1,c.cell n5,be (λ_=>?_) λe=>absurd n5 e⟩;refine⟨s.2.2,b.cell n5,s.2.2,c.cell n5,be (λ_=>?_) λe=>absurd n5 e⟩;refine⟨t,b.cell n5,u,c.cell n5,(lU t u l l d (Seq.up i a.ac) (Seq.up f a.ac) n7).I2 ?_⟩;exact⟨_,n5,by rw[n1 rfl],.zip a.ac⟩
variable {B:au} {h0 h:m5} {As:List HP} {a pw a2 pw2:hU} {offs:Int} {da da2:List bJ} {w:Pow} {ds:aF} {m:aB}
abbrev Tw(B:au)(f h':m5)(As:List HP)(a pw g d:hU)(b:Int)(e c:List bJ):Prop:=∃(w:Pow) (ds:aF) (m:aB),bE m=eX/\aa B f h' (gQ a pw e b w ds m::iv g d c b w ds m::As)
theorem Ad(x:AC)(b:Mv)(X:St B h0 As λh=>eN fZ h x b)(Y:NP b)(i:bE m=eX)(H:aa B h0 h (gQ a pw da offs w ds m::iv a2 pw2 da2 offs w ds m::As)):
  ak xR 10 #[xJ (dB a),xJ (dB a2),Nu x] h λv h'=>v=xL eX/\∃(w':Pow) (R:aF) (m':aB),bE m'=eX/\(b.kind≠12->w.calm->w'=w)/\aa B h0 h' (gQ a pw da offs w' R m'::iv a2 pw2 da2 offs w' R m'::As):=by
 refine ts Tryz.func10 ?_ (HF (G0 (HF (G7 (HF (G0 (HF (HF (HF (I0 [(41,aI)] [(10,11),(41,51)])))) (HF (HF (HF (HF (HF (HF (HF (HF (HF (HF (HF (HF (HF (G0 (I1 [] [(183,188)] G6) G6)))))))))))))))))) G6)) [(17,(.l [0,1,2,4,5,6,3,7,8,9])),(25,(.l [0,1,2,4,5,6,7,8,9,10,3,11,12])),(30,(.l [0,1,2,4,5,6,7,8,9,10,3,11,12])),(33,(.l [0,2,3,1,4]))] (args:=[(dB a),(dB a2),x]);obtain⟨⟨K,e2,e4,e5,e6,e7,V⟩,ed,_⟩:=X.at [_,_] H;refine H.boxed λa1 h1 c=>?_;have c:=c.bc.aG 3 [1,2,0];have j:=c.box 2 n5;have ab:Rd h1 x.2.2.1 1 aq b.data:=(X.at [_,_,_] c).2.1;refine⟨x.1,j.cell0 n5,be (λk1=>?_) λ_=>?_⟩
 .obtain⟨I,S⟩:=Y.put (K▸k1);rw[<-e2]at I;refine⟨x.2.2.1,j.cell n5,(HJ x.2.2.1 b.data h1 ab n7).I4 λM F s=>?_⟩;have g:=(c.bQ s).aG 4 [1,2,0,3];refine⟨M,n5,x.2.1,(g.box 3 n5).cell n5,?_⟩;refine(aam x.2.1 M b.data (St.dU (A:=ai 5 M 1 aq b.data) 1 n5 λh' D=>D.1.seq (λ_=>rfl) D.2) (g.own 2 n5).cap I i S g).I3 λh3 f=>?_;obtain⟨P,y⟩:=I5 (eG m offs w ds x.2.1 b.data)
  rw[<-y]at f⊢;have Z:Rd h3 x.2.2.1 1 aq b.data:=(X.at [_,_,_,_] f).2.1;refine⟨P.1,n5,x.2.2.1,(f.box 3 n5).cell n5,(lI M x.2.2.1 b.data b.data h3 (f.seq 2 n5 λ_=>rfl) Z n7).I2 ?_⟩;refine⟨_,n5,?_⟩;have ah:=(f.own 2 n5).len;refine aj (λk:Nat=>(k:Int)) (λk h'=>k<=n4 b.data/\∃l:aR,n4 l=n4 b.data/\aa B h0 h' (gQ a pw da offs P.2.2.1 P.2.2.2 P.2.1::iv a2 pw2 da2 offs w ds m::ai 5 M 1 aq l::an a1 44 (gS x)::As)) (λk=>n4 b.data-k) 0 n5 ⟨qX _,b.data,n5,f⟩ ?_;rintro k h5 ⟨W,l,hl,p⟩
  try dsimp only
  refine ae (λe=>?_) λe=>?_
  .have Q:k<n4 l:=n7
   refine(p.seq 2 n5 λ_=>rfl).aV k n5 Q (l[k].toNat:Int) n5 ?_;refine p.set ag 2 n5 (λ_=>rfl) n5 k n5 Q (l[k]+1) (by rw[PA];rfl) n5 n5 λh6 L=>?_;exact⟨k+1,o0,⟨n7,l.set k (l[k]+1),by rw[qO];exact hl,L⟩,n7⟩
  refine⟨x.2.1,(p.box 3 n5).cell n5,x.2.2.1,(p.box 3 n5).cell n5,?_⟩;have p:=p.aG 4 [1,0,3];refine(aaD x.2.1 x.2.2.1 b.data (St.cons (St.cons λBs h' hh=>(X Bs h' hh).2.1)) V I i S p).I3 λh7 G=>?_;rw[<-y]at G⊢;refine⟨P.1,n5,be (λ_=>⟨by rw[n1 rfl],P.2.2.1,P.2.2.2,P.2.1,by rw[y];exact aaF i _ _ _ _ _,λ_ hc=>by rw[y];exact Yx hc _ _ _ _ _,G.aG 3 [1,0]⟩) λe=>absurd n5 e⟩
 refine be (λk2=>?_) λ_=>?_
 .refine⟨x.2.1,j.cell n5,(Yw x.2.1 i c).I4 λr F s=>?_⟩;have g:=c.bQ s;refine⟨(r,(iX m offs w ds x.2.1).2),n5,x.2.1,(g.box 3 n5).cell n5,(aaE x.2.1 i (g.aG 4 [2,0,1,3])).I4 λU h3 R3=>?_⟩;have f:=g.bQ R3;have hl:=aaG i offs w ds x.2.1;refine⟨(U,(iX m offs w ds x.2.1).2),n5,be (λ_=>?_) λe=>absurd n5 e⟩;refine(lI r U _ _ h3 (f.at 1 n5) (f.at 0 n5) n7).I2 ⟨_,n5,by rw[n1 rfl],w,ds,m,i,λ_ _=>rfl,f.aG 5 [2,3]⟩
 refine be (λk3=>?_) λ_=>?_
 .refine⟨x.2.1,j.cell n5,x.2.1,j.cell n5,(SV x.2.1 i c).I3 λF g=>?_⟩;obtain⟨P,y⟩:=I5 (cE m offs w ds x.2.1)
  rw[<-y]at g⊢;refine⟨P.1,n5,⟨(g.box 2 n5).cell n5,I6⟩,(Tt x.2.1 i (g.aG 3 [1,0,2])).I3 λh3 f=>?_⟩;rw[<-y]at f⊢;exact⟨P.1,n5,I6,by rw[beq_self_eq_true],P.2.2.1,P.2.2.2,P.2.1,by rw[y];exact Tv i _ _ _ _,λ_ hc=>by rw[y];exact Pz hc _ _ _ _,f.aG 3 [1,0]⟩
 refine be (λk4=>?_) λ_=>?_
 .refine(Yn i c).I4 λr F s=>?_;have g:=c.bQ s;refine⟨r,n5,(Yu i (g.aG 4 [2,0,1,3])).I4 λU h3 R3=>?_⟩;have f:=g.bQ R3;have ad:n4 (lX m offs w)<=2^30:=by
   have al:=((cJ m).1 i).2.2.2.1;unfold lX;split
   .exact qX _
   .rw[qm];omega
  refine⟨U,n5,(NO r U _ _ h3 (f.seq 1 n5 λ_=>rfl) (f.seq 0 n5 λ_=>rfl) ad).mono ?_⟩;rintro _ _ ⟨hv,rfl⟩;have hv:=hv n5;subst hv;exact⟨eX,n5,n5,w,ds,m,i,λ_ _=>rfl,f.aG 5 [2,3]⟩
 refine be (λk5=>?_) λ_=>?_
 .refine⟨x.2.1,j.cell n5,(Wk x.2.1 i c).I4 λt F s=>?_⟩;have g:=c.bQ s;obtain⟨E,hE⟩:=I5 (gD m offs w ds x.2.1)
  rw[<-hE];refine⟨((E.1.1,E.1.2.1,E.1.2.2,t),E.2),n5,g.alloc ag n5 λam h3 f=>?_⟩;have f:=f.bc;refine f.storeAll ag 0 n5 n5 (me E.1 t) n5 n5 n5 n5 λh4 H4=>?_;refine⟨x.2.1,(H4.box 4 n5).cell n5,(Yv x.2.1 i (H4.aG 5 [3,0,1,2,4])).I4 λu h5 R5=>?_⟩;have p:=H4.bQ R5;rw[<-hE];refine⟨((E.1.1,E.1.2.1,E.1.2.2,u),E.2),n5,p.alloc ag n5 λax h6 L=>?_⟩;have L:=L.bc;refine L.storeAll ag 0 n5 n5 (me E.1 u) n5 n5 n5 n5 λh7 G=>?_;have hl:=Wm i offs w x.2.1;refine be (λ_=>?_) λe=>absurd n5 e;refine⟨(E.1.1,E.1.2.1,E.1.2.2,t),(G.box 2 n5).aw _ n5,(E.1.1,E.1.2.1,E.1.2.2,u),(G.box 0 n5).aw _ n5,?_⟩;refine(KG E.1 t u _ h7 (G.seq 3 n5 λ_=>rfl) (G.seq 1 n5 λ_=>rfl) n7).I3 λh8 R8=>⟨eX,n5,n5,w,ds,m,i,λ_ _=>rfl,(G.up R8.ac).aG 7 [4,5]⟩
 have rp:∀{h':m5},aa B h0 h' (gQ a pw da offs w ds m::iv a2 pw2 da2 offs w ds m::an a1 44 (gS x)::As)->(x.1=9∨x.1=11)->(0<=x.2.2.2.1/\x.2.2.2.1<64)/\cellOf h' ((a2.add 10).add (x.2.2.2.1.toNat*1))=dB (.pointer (de da2 x.2.2.2.1))/\(bR ds x.2.2.2.1=eH->de da2 x.2.2.2.1=eH)/\(∀d,bR ds x.2.2.2.1=dB d->∃b,de da2 x.2.2.2.1=dB b):=λH W=>by
  have z:0<=x.2.2.2.1/\x.2.2.2.1<64:=by rw[e4];exact Y.slot (by rw[<-K];exact W)
  exact⟨z,aaB z (H.aG 3 [1,0,2])⟩
 refine be (λk9=>?_) λ_=>?_
 .obtain⟨z,N,c2,c3⟩:=rp c (.inl k9);refine⟨x.2.2.2.1,j.cell n5,x.2.2.2.1,j.cell n5,a2,n5,⟨z.1,z.2⟩,de da2 x.2.2.2.1,N,(JR x.2.2.2.1 c).I2 ?_⟩;refine⟨_,n5,⟨N,j.cell n5,I6⟩,?_⟩;cases hd:bR ds x.2.2.2.1 with
  |none=>
   rw[JS hd c,c2 hd];refine(KF _).I2 ⟨(),n5,aT (λe=>o1) λ_=>⟨n5,w,ds,m,i,λ_ _=>rfl,c.aG 3 [0,1]⟩⟩
  |some d=>
   obtain⟨q,D⟩:=Ql hd c;obtain⟨q2,o⟩:=c3 d hd;rw[D,o];refine(Wi hd D c).I3 λF g=>⟨(),n5,aT (λ_=>?_) λe=>o1⟩;refine(Wh hd o (g.aG 3 [1,0,2])).I3 λh3 f=>⟨(),n5,n5,w,_,m,i,λ_ _=>rfl,f.aG 3 [1,0]⟩
 refine be (λO=>?_) λao=>?_
 .obtain⟨z,N,c2,c3⟩:=rp c (.inr O);have T:0<=x.2.2.2.2.2.2.1/\x.2.2.2.2.2.2.1<2^32:=by rw[e7];exact Y.mask (by rw[<-K];exact O)
  refine⟨x.2.2.2.1,j.cell n5,x.2.2.2.1,j.cell n5,a2,n5,⟨z.1,z.2⟩,de da2 x.2.2.2.1,N,(JR x.2.2.2.1 c).I2 ?_⟩;refine⟨_,n5,⟨N,j.cell n5,I6⟩,x.2.2.2.2.1,j.cell n5,x.2.2.2.2.2.1,j.cell n5,x.2.2.2.2.2.2.1,j.cell n5,?_⟩;cases hd:bR ds x.2.2.2.1 with
  |none=>
   rw[JS hd c,c2 hd];refine(Kp _ _ _ _).I3 λF s=>⟨false,n5,aT (λe=>o1) λ_=>⟨n5,w,ds,m,i,λ_ _=>rfl,(c.up s.ac).aG 3 [0,1]⟩⟩
  |some d=>
   obtain⟨q,D⟩:=Ql hd c;obtain⟨q2,o⟩:=c3 d hd;rw[D,o];refine(Vx x.2.2.2.2.1 x.2.2.2.2.2.1 x.2.2.2.2.2.2.1 T hd D c).I3 λF g=>?_;have b2:=g.box 2 n5;refine⟨_,n5,aT (λ_=>?_) λe=>o1⟩;refine⟨x.2.2.2.2.1,b2.cell n5,x.2.2.2.2.2.1,b2.cell n5,x.2.2.2.2.2.2.1,b2.cell n5,?_⟩;refine(Wg x.2.2.2.2.1 x.2.2.2.2.2.1 x.2.2.2.2.2.2.1 T hd o (g.aG 3 [1,0,2])).I3 λh3 f=>⟨_,n5,by rw[beq_self_eq_true],w,_,m,i,λ_ _=>rfl,f.aG 3 [1,0]⟩
 refine be (λJ=>?_) λap=>⟨n5,w,ds,m,i,λ_ _=>rfl,c.aG 3 [0,1]⟩
 have hn:x.2.2.2.2.1<2^62:=by rw[e5];exact Y.arm (by rw[<-K];exact J)
 refine aE ⟨x.2.2.2.2.1,j.cell n5,(Vv c).I2 ?_⟩;refine⟨_,n5,⟨j.cell n5,I6⟩,(aaw x.2.2.2.2.1 hn c).I3 λF g=>?_⟩;refine⟨(),n5,I6,a2,n5,dB pw2,aaC (g.aG 3 [1,0,2]),x.2.2.2.2.1,(g.box 2 n5).cell n5,?_⟩;refine(aaA x.2.2.2.2.1 hn (g.aG 3 [1,0,2])).I3 λh3 f=>⟨(),n5,I6,n5,_,ds,m,i,λW _=>absurd (by rw[<-K];exact J) W,f.aG 3 [1,0]⟩
end
variable {b:hU} {mc:aS}
section
variable {pw:hU}
abbrev Et(l:aC):aF:=(cV (dv l) (sl l) Pow.new (jU l)).2.2
abbrev BF(l:aC):aB:=co (dv l) (sl l) (jU l)
theorem Wo(s:Sl)(l:aC)(h:m5)(A:Rd h s 1 ar l):ak xR 8 #[s] h λv h'=>
  (iL (dv l) (sl l) (jU l)≠0->v=.tuple #[xJ eH,xJ eH]/\Sp h h' [])/\
  (iL (dv l) (sl l) (jU l)=0->∃(a a2 pw pw2:hU) (x x2:bi) (da da2:List bJ),v=.tuple #[xJ (dB a),xJ (dB a2)]/\
   Sp h h' [aJ bN a pw (aD x) 0 da Pow.new (Et l),bn x (BF l),aJ bC a2 pw2 (aD x2) 0 da2 Pow.new (Et l),bn x2 (BF l)]):=by
 refine ts Tryz.func8 ?_;refine(Pj s l h A).I4 λr J D=>⟨(dv l,sl l,r),n5,?_⟩;have y:=FV l;have G:=IQ l;refine D.alloc ag n5 λa2 H t=>?_;refine t.storeAll ag 1 n5 n5 [xH xN (dv l).1,xH xN (dv l).2.1,xH xN (dv l).2.2] n5 n5 n5 n5 λh3 m=>?_;have m:Sp h h3 [ai 3 r 1 ar (jU l),an a2 24 [xH xN (dv l).1,xH xN (dv l).2.1,xH xN (dv l).2.2]]:=m;refine(Jv h3).I4 λpw I B=>?_;have z:=m.bQ B;refine⟨_,n5,z.boxed λpw2 E i=>?_⟩;have i:Sp h E [fW pw2 Pow.new,eF 107 pw Pow.new,ai 3 r 1 ar (jU l),an a2 24 [xH xN (dv l).1,xH xN (dv l).2.1,xH xN (dv l).2.2]]:=aa.mE (l:=0) (w:=Pow.new) (λk e=>o1) i.bc;refine⟨dv l,(i.box 3 n5).aw _ n5,?_⟩;refine(EQ (dv l) (sl l) r (jU l) (As:=[fW pw2 Pow.new,ai 3 r 1 ar (jU l),an a2 24 [xH xN (dv l).1,xH xN (dv l).2.1,xH xN (dv l).2.2]]) (St.dU 1 n5 λh' b=>b.1.seq (λ_=>rfl) b.2) n7 (i.aG 2 [1,0])).mono ?_;rintro _ K ⟨u,o⟩;by_cases g:iL (dv l) (sl l) (jU l)=0
 .obtain⟨d,n,_⟩:=OM n7 g;rw[n]at o;obtain⟨a,x,da,rfl,f⟩:=o d;refine⟨(dB a,0),n5,dv l,(f.box 4 n5).aw _ n5,?_⟩;refine(DD (dv l) (sl l) r (jU l) (As:=[aJ bN a pw (aD x) Pow.new.offs da Pow.new (Et l),bn x (BF l),ai 3 r 1 ar (jU l),an a2 24 [xH xN (dv l).1,xH xN (dv l).2.1,xH xN (dv l).2.2]]) (St.dU 2 n5 λh' b=>b.1.seq (λ_=>rfl) b.2) n7 (f.aG 3 [2,0,1])).mono ?_;rintro _ F ⟨_,p⟩;rw[n]at p;obtain⟨c,x2,da2,rfl,j⟩:=p d;refine⟨(dB c,0),n5,λh=>absurd g h,λ_=>⟨a,c,pw,pw2,x,x2,da,da2,n5,?_⟩⟩;exact(show aa _ _ _ [aJ bC c pw2 (aD x2) 0 da2 Pow.new (Et l),bn x2 (BF l),aJ bN a pw (aD x) 0 da Pow.new (Et l),bn x (BF l),ai 3 r 1 ar (jU l),an a2 24 [xH xN (dv l).1,xH xN (dv l).2.1,xH xN (dv l).2.2]]from j).bu [2,3,0,1]
 .have d:(cV (dv l) (sl l) Pow.new (jU l)).1≠0:=by rw[sM,nq g];exact g
  obtain⟨rfl,f⟩:=u d;refine⟨(eH,_),n5,dv l,(f.box 2 n5).aw _ n5,?_⟩;refine(DD (dv l) (sl l) r (jU l) (As:=[ai 3 r 1 ar (jU l),an a2 24 [xH xN (dv l).1,xH xN (dv l).2.1,xH xN (dv l).2.2]]) (St.dU 0 n5 λh' b=>b.1.seq (λ_=>rfl) b.2) n7 f).mono ?_;rintro _ F ⟨q,_⟩;obtain⟨rfl,j⟩:=q d;exact⟨(eH,_),n5,λ_=>⟨n5,.zip j.ac⟩,λh=>absurd h g⟩
end
theorem Eu{b:Mv}{k:Int}(c:b.kind=k)(a:k≠1∨b.name.size<=2^40/\b.data.length<=2^20)(d:k≠9/\k≠11)(h3:k≠12∨b.n<2^62):NP b:=
 ⟨λe=>a.resolve_left n7,λe=>n7,λe=>h3.resolve_left n7,λe=>n7⟩
theorem lu.sm{p:Pm}{b:Mv}(g:bH p=eX)(h:lu p b):NP b:=by
 obtain⟨⟨k,e⟩,_,j,c⟩:=(bI p).1 g;have d:p.1*p.2.2<=16*24:=we e c n7 n7;refine⟨λa=>?_,λa=>?_,λa=>?_,λa=>?_⟩
 .obtain⟨f,i⟩:=Qw.lu.put h a;have:=Ym _ f;exact⟨n7,n7⟩
 .unfold lu at h;rcases h with h|h|h|h|h|h|h|h|h<;>omega
 .unfold lu at h;rcases h with h|h|h|h|h|h|h|h|h<;>omega
 .unfold lu at h;rcases h with h|h|h|h|h|h|h|h|h<;>omega
theorem ny.sm{b:Mv}(h:ny b):NP b:=by
 rcases h with⟨n,hn,rfl⟩|⟨n,ks,us,hn,rfl,_⟩
 .exact Eu (k:=12) n5 (.inl n8) n8 (.inr (by show n<_;omega))
 .exact Eu (k:=13) n5 (.inl n8) n8 (.inl n8)
section
theorem Tx(a b:Sl)(c f:cO)(h:m5)(i:dT h a 1 ar c)(j:dT h b 1 ar f)(H:n4 c<=2^40)(l:∀r∈c,n4 r<=2^40):
  ak xR 21 #[a,b] h λv h'=>v=xL (decide (c=f))/\h'=h:=by
 obtain⟨D,i⟩:=i;obtain⟨I,j⟩:=j;refine ts Tryz.func21 ?_ (HF (HF (I0 [(13,aI)] [(4,6),(13,27)])));have A:=i.Fj;have y:=j.Fj;refine bt (λB=>?_) (λx=>?_)
 .refine⟨?_,n5⟩;rw[n2];intro e;subst e;omega
 .have G:n4 c=n4 f:=n7
  refine aj (λk:Nat=>(k:Int)) (λk h'=>h'=h/\k<=n4 c/\c.take k=f.take k) (λk=>n4 c-k) 0 n5 ⟨n5,n7,n5⟩ ?_;rintro k h' ⟨rfl,F,p⟩;refine ae (λz=>?_) (λq=>?_)
  .have d:k<n4 c:=n7
   refine gu.Ih i k n5 d λE u w o _=>?_;refine gu.Ih j k n5 n7 λa2 t s m _=>?_;refine(lU u t c[k] f[k] h' o m (l _ (qe d))).I2 ⟨_,n5,I6,?_⟩;rw[af _];refine aH (λg=>?_) (λg=>?_)
   .refine⟨?_,n5⟩;rw[n2];intro e;subst e;exact of_decide_eq_false g n5
   .refine⟨k+1,oo,⟨n5,n7,?_⟩,n7⟩;have g:=n3 g;rw[az _ _ d,az f k,p];rw[show c[k]=f[k]from g]
  .refine⟨?_,n5⟩;rw[qf n7,qf n7]at p;rw[p,n1 rfl]
variable {B:au} {h0 h:m5} {As:List HP} {a pw a2 pw2:hU} {offs:Int} {da da2:List bJ} {w:Pow} {ds:aF} {m:aB}
theorem Kd{K:Bool->m5->Prop}(o b:Int)(f:bE m=eX)(H:aa B h0 h (gQ a pw da offs w ds m::iv a2 pw2 da2 offs w ds m::As))
  (u:∀h',aa B h0 h' (gQ a pw da offs w ds m::iv a2 pw2 da2 offs w ds m::As)->K eX h'):
  ji xR 22 #[xJ (dB a),xH xN o,xH xN b] (.one (.sc .slc)) h λn j=>ji xR 23 #[xJ (dB a2),xH xN o,xH xN b] (.one (.sc .slc)) j λc e=>
   ji xR 21 #[n,c] (.one (.sc .bool)) e K:=by
 refine(Vu o b f H).I4 λr j q=>?_;have i:=H.bQ q;refine⟨r,n5,(Wj o b f (i.aG 3 [2,0,1])).I4 λc e s=>?_⟩;have d:=i.bQ s;have p:=acI (H.aG 2 [1,0]);have t:n4 (aY ds m.drives)<=64:=qV (qH _ _) (gn f);refine⟨c,n5,(Tx r c _ _ e (aa.uC (d.aG 2 [1,0]) λ_=>rfl) (aa.uC d λ_=>rfl) (by unfold fD;rw[qm];omega) λl g=>?_).mono ?_⟩
 .unfold fD at g;obtain⟨k,_,rfl⟩:=qI.1 g;rw[qm];have:=rQ m o b p [k];simp only[wx]at this;omega
 .rintro _ _ ⟨rfl,rfl⟩;exact⟨_,n5,by rw[n1 rfl];exact u _ (d.aG 4 [2,3])⟩
theorem AI(s1:Sl)(c:aC)(s2:Sl)(l:aC)(d:ByteArray)(H:Sl)(data:aR)(o b:Int)(h:m5)(a3:Rd h s1 1 ar c)(a6:Rd h s2 1 ar l)(I:Rd h H 1 aq data)(W:H.len<=H.cap):
  ak xR 4 #[s1,s2,xK d,H,xH xN o,xH xN b] h λv h'=>v=xL eX/\Sp h h' []:=by
 refine ts Tryz.func4 ?_ (HF (I1 [] [(12,13),(19,28)] (HF (HF (HF (HF (G0 (HF (G7 (G9 [(49,aI)] [(12,13),(16,19),(49,96)] (HF (HF (G0 (G7 (HF (HF (I1 [] [(12,13),(57,85)] G6)))) G6)))))) G6)))))));have b4:=I.len;have wk:∀{h':m5} {Bs:List HP},Sp h h' Bs->ji xR 7 #[] (.one (.sc .bool)) h' λr N=>Value.bool r=xL eX/\Sp h N []:=λ{h' Bs} H'=>by
  refine(Nv h').I3 λN R=>⟨eX,n5,n5,.zip (H'.up R.ac).ac⟩
 refine bs (λ(_:Unit) h'=>n4 data<=2000/\d.size<=40/\h=h') ?_ ?_
 .exact ae (λ_=>wk (Sp.refl h)) λe1=>ae (λ_=>wk (Sp.refl h)) λe2=>⟨n7,n7,n5⟩
 rintro _ _ ⟨hd,hn,rfl⟩;refine(Wo s1 c _ a3).mono ?_;rintro _ h4 ⟨Q1,Q0⟩;by_cases e0:iL (dv c) (sl c) (jU c)=0
 rotate_left
 .obtain⟨rfl,X⟩:=Q1 e0;refine⟨(eH,eH),n5,(IP h4).I3 λh5 R5=>?_⟩;exact⟨eX,n5,aH (λe=>o1) λ_=>aT (λ_=>wk (X.up R5.ac)) λe=>o1⟩
 obtain⟨a,a2,pw,pw2,x,x2,da,da2,rfl,X⟩:=Q0 e0;have z:bE (BF c)=eX:=XU (by rw[FV];have:=IQ c;omega) e0;have D:=((iT _).1 ((cJ _).1 z).1).2.2.1;obtain⟨m,ah⟩:=I5 (BF c)
 rw[<-ah]at z D X;have H4:=(pT ((pK X).aG 3 [1,2,0])).aG 2 [1,0];refine⟨(dB a,dB a2),n5,(DH z H4).I3 λh5 R5=>?_⟩;have H5:=H4.up R5.ac;refine⟨eX,n5,aH (λe=>o1) λ_=>aT (λe=>o1) λ_=>?_⟩;obtain⟨y,Hy⟩:=jc (H5.aG 2 [1,0]);have a1:(y.2.2.1,y.2.2.2.1,y.2.2.2.2.1)=m.p:=(Hy.at 1 rfl:ct h5 y m).p;have G:=(aa.cP Hy).2;refine⟨a2,n5,m.p,?_,H5.alloc ag n5 λa9 h7 H7=>?_⟩
 .rw[<-a1];exact⟨by rw[addr_add];exact G.cell n5,by rw[addr_add];exact G.cell n5,by rw[addr_add];exact G.cell n5,I6⟩
 refine H7.storeAll ag 2 n5 n5 [xH xN m.p.1,xH xN m.p.2.1,xH xN m.p.2.2] n5 n5 n5 n5 λh8 H8=>?_;refine⟨m.p,(H8.box 2 n5).aw _ n5,(Px m.p s2 l 16 eX h8 D (a6.up H8.ac) n8).mono ?_⟩;rintro _ h9 ⟨r,L,rfl,ap,hL,R9⟩;obtain⟨u,M⟩:=(H8.comp R9).Fu 3 rfl λ_=>rfl;have M:=M.bu [0,1,3];have bl:=(M.dg 2 n5).1.len;have b6:=(M.dg 2 n5).2.1;refine⟨r,n5,?_⟩;refine aj (λi:Nat=>(i:Int)) (λi h'=>i<=n4 L/\Tw (λb=>b<h.size) h h' [ci fZ 9 gS r u L] a pw a2 pw2 0 da da2) (λi=>n4 L-i) 0 n5 ⟨qX _,Pow.new,Et c,m,z,M⟩ ?_;rintro i b9 ⟨hi,w1,b0,m1,J,E⟩
 try dsimp only
 refine ae (λe=>?_) λe=>?_
 .have K:i<n4 L:=n7
  have bb:=E.dg 2 n5;obtain⟨s,V⟩:=I5 (u[i]'n7)
  obtain⟨q,Y⟩:=I5 (L[i])
  have S:∀{h':m5},fO fZ 9 gS h' r u L->eN fZ h' s q:=λF=>by rw[V,Y];exact Fix.row F K
  refine bb.1.cG (g:=gS) i n5 n7 s (by rw[V]) ?_;refine E.alloc ag n5 λU ca ab=>?_;refine ab.storeAll ag 3 n5 n5 (gS s) n5 n5 n5 n5 λb3 A=>?_;have next:∀{h':m5} {w:Pow} {ds:aF} {m:aB} {Bs:List HP},bE m=eX->Sp h h' (gQ a pw da 0 w ds m::iv a2 pw2 da2 0 w ds m::ci fZ 9 gS r u L::Bs)->∃t:Nat,qc xN ((i:Int)+1)=(t:Int)/\(t<=n4 L/\Tw (λb=>b<h.size) h h' [ci fZ 9 gS r u L] a pw a2 pw2 0 da da2)/\L.length-t<n4 L-i:=λ{h' w ds m Bs} hm H'=>
   ⟨i+1,o0,⟨K,w,ds,m,hm,aa.px (As:=[_,_,_]) (H'.aG 3 [0,1,2])⟩,n7⟩
  refine⟨s.1,(A.box 3 n5).cell0 n5,be (λ_=>next J A) λbd=>?_⟩;have am:NP q:=by
   rcases ap q (by rw[Y];exact qe K)with Z|⟨_,Z⟩
   .exact lu.sm D Z
   .exact ny.sm Z
  refine bs (λ(_:Unit) h'=>Tw (λb=>b<h.size) h h' [ci fZ 9 gS r u L,an U 44 (gS s)] a pw a2 pw2 0 da da2) ?_ ?_
  .refine⟨s,(A.box 3 n5).aw _ n5,?_⟩;refine(Ad s q (As:=[ci fZ 9 gS r u L,an U 44 (gS s)]) (St.dU 0 n5 λh' Y=>S Y) am J A).I3 λbq ⟨w2,B,m2,f,_,T⟩=>⟨eX,n5,aH (λe=>o1) λ_=>(DH f T).I3 λb1 ad=>?_⟩;have O:=T.up ad.ac;refine⟨eX,n5,aH (λe=>o1) λ_=>⟨n8,be (λ_=>?_) λ_=>⟨w2,B,m2,f,O⟩⟩⟩;exact Kd o b f O λbr ay=>aH (λe=>o1) λ_=>⟨w2,B,m2,f,ay⟩
  rintro _ a8 ⟨w2,B,m2,f,a4⟩;refine(bT o 6 a8).I2 ⟨_,n5,?_⟩;exact Kd _ 0 f a4 λb7 al=>aH (λe=>o1) λ_=>next f al
 .have a0:St (λb=>b<h.size) h [ci fZ 9 gS r u L] λh'=>eN fZ h' (1,d,H,0,0,0,0,⟨eH,0,0⟩,⟨eH,0,0⟩) ⟨1,d,data,0,0,0,0,[],[]⟩:=
   St.base (Q:=λh'=>eN fZ h' (1,d,H,0,0,0,0,⟨eH,0,0⟩,⟨eH,0,0⟩) ⟨1,d,data,0,0,0,0,[],[]⟩) ⟨⟨n5,n5,n5,n5,n5,n5,W⟩,I,⟨n5,λi x j=>B2⟩,n5,λi x j=>B2⟩ λh' hp=>⟨⟨n5,n5,n5,n5,n5,n5,W⟩,Seq.up I hp,⟨n5,λi x j=>B2⟩,n5,λi x j=>B2⟩
  have ax:St (λb=>b<h.size) h [ci fZ 9 gS r u L] λh'=>eN fZ h' (2,d,⟨eH,0,0⟩,0,0,0,0,⟨eH,0,0⟩,⟨eH,0,0⟩) ⟨2,d,[],0,0,0,0,[],[]⟩:=λBs h' Z=>⟨⟨n5,n5,n5,n5,n5,n5,qj _⟩,⟨n5,λi x j=>B2⟩,⟨n5,λi x j=>B2⟩,n5,λi x j=>B2⟩
  refine(Ad (1,d,H,0,0,0,0,⟨eH,0,0⟩,⟨eH,0,0⟩) ⟨1,d,data,0,0,0,0,[],[]⟩ a0 (Eu (k:=1) n5 (.inr ⟨by show d.size<=_;omega,by show data.length<=_;omega⟩) n8 (.inl n8)) J E).I3 λb2 ⟨w2,B,m2,f,_,a5⟩=>⟨eX,n5,aT (λ_=>?_) λe=>o1⟩;refine(Ad (2,d,⟨eH,0,0⟩,0,0,0,0,⟨eH,0,0⟩,⟨eH,0,0⟩) ⟨2,d,[],0,0,0,0,[],[]⟩ ax (Eu (k:=2) n5 (.inl n8) n8 (.inl n8)) f a5).I3 λb5 ⟨w3,cc,m3,ao,_,P⟩=>⟨eX,n5,aT (λ_=>?_) λe=>o1⟩;refine(DH ao P).I3 λbk a7=>⟨eX,n5,aT (λ_=>wk (P.up a7.ac)) λe=>o1⟩
theorem BY(j:Sl)(c:aC)(k:Sl)(l:aC)(d:ByteArray)(e:Sl)(data:aR)(o b:Int)(h:m5)(f:Rd h j 1 ar c)(i:Rd h k 1 ar l)(g:Rd h e 1 aq data)(m:e.len<=e.cap):
  ak xR 4 #[j,k,xK d,e,xH xN o,xH xN b] h λv h'=>v=xL eX/\aQ (λb=>b<h.size) h h':=
 (AI j c k l d e data o b h f i g m).mono λ_ _ ⟨a,b⟩=>⟨a,b.ac⟩
end
section
open Go.RowKit Go.ChangeShapes Go.WideShapes Go.Joins Go.Deep
section
variable {H:Type} {enc:TypeId×Value->H} {P:Program} {W W':World}
end
end
end Go.Qw
